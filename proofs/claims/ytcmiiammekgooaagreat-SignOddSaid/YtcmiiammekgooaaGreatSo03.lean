/- rules, arithmetic and contracts: part 4
   Proved without conditions of its own: each theorem bears its own. -/
import Derived.Test.YtcmiiammekgooaaGreatSo02
import Derived.Test.YtcmiiammekgooaaGreatProg
import Derived.Test.YtcmiiammekgooaaGreatRows
import Derived.WalkKit
import Derived.ProofKit
import Derived.OpenShut
import Derived.ShutString
import Derived.ChangeOld
import Derived.Below
import Derived.Deep.Slices
import Derived.Lib.SmallJoins
import Derived.Test.YtcmiiammekgooaaGreatSo01
set_option linter.all false
namespace Go.Sky
open Go.Proofs
theorem pU:Enc Tryz.prog 149 1 Iq:=Enc.flat Tryz.sizeOf149 Tryz.isAgg149 (fun _=>rfl)
theorem pB:Enc Tryz.prog 5 1 Zpl:=Enc.flat Tryz.sizeOf5 Tryz.isAgg5 (fun _=>rfl)
theorem pN:Enc Tryz.prog 3 1 Dc:=Enc.flat Tryz.sizeOf3 Tryz.isAgg3 (fun _=>rfl)
theorem pZ:Enc Tryz.prog 3 1 Zb4:=Enc.flat Tryz.sizeOf3 Tryz.isAgg3 (fun _=>rfl)
theorem Zes(args:Array Value)(w:World):(callFunc 190 args).run Tryz.prog w=((add64Entry args).run Tryz.prog w).andThen fun v w'=> .ok (.value v) w':=
 run_callFunc_extern Tryz.func190 (by kernel_rfl) (by kernel_rfl) (by kernel_rfl) (by kernel_rfl) args w
theorem Zp6(args:Array Value)(w:World):(callFunc 191 args).run Tryz.prog w=((Za5 args).run Tryz.prog w).andThen fun v w'=> .ok (.value v) w':=
 run_callFunc_extern Tryz.func191 (by kernel_rfl) (by kernel_rfl) (by kernel_rfl) (by kernel_rfl) args w
end Go.Sky
theorem Go.Proofs.Tryz.ti149:Go.Proofs.Tryz.prog.info? 149=some Go.Proofs.Tryz.t149:=by kernel_rfl
namespace Go.Sky
open Go.Proofs
end Go.Sky
theorem Go.Proofs.Tryz.ti5:Go.Proofs.Tryz.prog.info? 5=some Go.Proofs.Tryz.t5:=by kernel_rfl
namespace Go.Sky
open Go.Proofs
end Go.Sky
theorem Go.Proofs.Tryz.ti3:Go.Proofs.Tryz.prog.info? 3=some Go.Proofs.Tryz.t3:=by kernel_rfl
namespace Go.Sky
open Go.Proofs
theorem pW:Enc Tryz.prog 31 2 Zf0:=Enc.agg (by decide) Tryz.sizeOf31 Tryz.isAgg31 (fun x=>⟨[.bool x.1,.string x.2],rfl,rfl,by simp [Value.oneCell']⟩)
theorem pV:Enc Tryz.prog 31 2 wv:=Enc.agg (by decide) Tryz.sizeOf31 Tryz.isAgg31 (fun x=>⟨[.bool (decide (x<0)),.string (Xd x.natAbs)],rfl,rfl,by simp [Value.oneCell']⟩)
theorem pI:Enc Tryz.prog 48 2 Cz:=Enc.agg (by decide) Tryz.sizeOf48 Tryz.isAgg48 (fun x=>⟨[.bool (decide (x.1<0)),svv x.2],rfl,rfl,by simp [Value.oneCell']⟩)
theorem pS{α:Type} : Enc Tryz.prog 23 1 (Zaz (α:=α)):=Enc.flat Tryz.sizeOf23 Tryz.isAgg23 (fun _=>rfl)
theorem pQ:Enc Tryz.prog 41 4 rq:=Enc.agg (by decide) Tryz.sizeOf41 Tryz.isAgg41 (fun x=>⟨[.bool (decide (x.1<0)),.string (Xd x.1.natAbs),.bool (decide (x.2<0)),.string (Xd x.2.natAbs)],rfl,rfl,by simp [Value.oneCell']⟩)
theorem sh31:Tryz.prog.stoodInHeld 31=false:=by kernel_rfl
theorem sh41:Tryz.prog.stoodInHeld 41=false:=by kernel_rfl
theorem eg31:Tryz.prog.eqGuardType Tryz.prog.depth 31=false:=by kernel_rfl
theorem in31(d:Nat)(w:World)(a:Bool)(s:ByteArray)(b:Bool)(t:ByteArray):(Op.equalIn (d+2) 31 (.agg #[.bool a,.string s]) (.agg #[.bool b,.string t])).run Tryz.prog w= .ok (eqW a s b t) w:=by
 have hu:Tryz.prog.underlying 31=some (.struct (Tryz.prog.fieldsOf 31)):=by unfold Program.fieldsOf;rw [Tryz.underlying31]
 rw [run_equalIn_agg w (d+1) 31 _ _ hu sh31]
 unfold Program.fieldsOf
 rw [Tryz.underlying31]
 simp [Op.eqFields,part,Tryz.isAgg4,Tryz.isAgg9,run_equalIn_bool' _ _ _ _ _ Tryz.underlying4,run_equalIn_string _ _ _ _ _ Tryz.underlying9]
 unfold eqW
 cases hab:(a == b)
 ·simp_all
 ·by_cases h:s.toList=t.toList<;>simp_all
theorem Zv7(w:World)(a:Bool)(s:ByteArray)(b:Bool)(t:ByteArray):(binOp .neq 31 (.agg #[.bool a,.string s]) (.agg #[.bool b,.string t])).run Tryz.prog w= .ok (.bool (!eqW a s b t)) w:=by
 rw [run_neq_struct,in31];rfl
theorem in41(d:Nat)(w:World)(a:Bool)(s:ByteArray)(a2:Bool)(s2:ByteArray)(b:Bool)(t:ByteArray)(b2:Bool)(t2:ByteArray):(Op.equalIn (d+3) 41 (.agg #[.bool a,.string s,.bool a2,.string s2]) (.agg #[.bool b,.string t,.bool b2,.string t2])).run Tryz.prog w= .ok (eqW a s b t && eqW a2 s2 b2 t2) w:=by
 have hu:Tryz.prog.underlying 41=some (.struct (Tryz.prog.fieldsOf 41)):=by unfold Program.fieldsOf;rw [Tryz.underlying41]
 rw [run_equalIn_agg w (d+2) 41 _ _ hu sh41]
 unfold Program.fieldsOf
 rw [Tryz.underlying41]
 simp [Op.eqFields,part,Tryz.isAgg31,Tryz.sizeOf31,in31]
 cases hab:eqW a s b t<;>cases hab2:eqW a2 s2 b2 t2<;>simp_all
theorem sh62:Tryz.prog.stoodInHeld 62=false:=by kernel_rfl
theorem eg62:Tryz.prog.eqGuardType Tryz.prog.depth 62=false:=by kernel_rfl
theorem in62(d:Nat)(w:World)(a:Bool)(s:ByteArray)(a2:Bool)(s2:ByteArray)(a3:Bool)(s3:ByteArray)(a4:Bool)(s4:ByteArray)(b:Bool)(t:ByteArray)(b2:Bool)(t2:ByteArray)(b3:Bool)(t3:ByteArray)(b4:Bool)(t4:ByteArray):(Op.equalIn (d+4) 62 (.agg #[.bool a,.string s,.bool a2,.string s2,.bool a3,.string s3,.bool a4,.string s4]) (.agg #[.bool b,.string t,.bool b2,.string t2,.bool b3,.string t3,.bool b4,.string t4])).run Tryz.prog w= .ok (eqW a s b t && eqW a2 s2 b2 t2 && (eqW a3 s3 b3 t3 && eqW a4 s4 b4 t4)) w:=by
 have hu:Tryz.prog.underlying 62=some (.struct (Tryz.prog.fieldsOf 62)):=by unfold Program.fieldsOf;rw [Tryz.underlying62]
 rw [run_equalIn_agg w (d+3) 62 _ _ hu sh62]
 unfold Program.fieldsOf
 rw [Tryz.underlying62]
 simp [Op.eqFields,part,Tryz.isAgg41,Tryz.sizeOf41,in41]
 cases hab:eqW a s b t && eqW a2 s2 b2 t2<;>cases hab2:eqW a3 s3 b3 t3 && eqW a4 s4 b4 t4<;>simp_all
theorem neq62(w:World)(a:Bool)(s:ByteArray)(a2:Bool)(s2:ByteArray)(a3:Bool)(s3:ByteArray)(a4:Bool)(s4:ByteArray)(b:Bool)(t:ByteArray)(b2:Bool)(t2:ByteArray)(b3:Bool)(t3:ByteArray)(b4:Bool)(t4:ByteArray):(binOp .neq 62 (.agg #[.bool a,.string s,.bool a2,.string s2,.bool a3,.string s3,.bool a4,.string s4]) (.agg #[.bool b,.string t,.bool b2,.string t2,.bool b3,.string t3,.bool b4,.string t4])).run Tryz.prog w= .ok (.bool (!(eqW a s b t && eqW a2 s2 b2 t2 && (eqW a3 s3 b3 t3 && eqW a4 s4 b4 t4)))) w:=by
 rw [run_neq_struct,in62];rfl
end Go.Sky
theorem Go.Proofs.Tryz.ti23:Go.Proofs.Tryz.prog.info? 23=some Go.Proofs.Tryz.t23:=by kernel_rfl
namespace Go.Sky
open Go.Proofs
end Go.Sky
theorem Go.Proofs.Tryz.ti31:Go.Proofs.Tryz.prog.info? 31=some Go.Proofs.Tryz.t31:=by kernel_rfl
namespace Go.Sky
open Go.Proofs
end Go.Sky
namespace Go.Sky
open Go.Proofs
end Go.Sky
theorem Go.Proofs.Tryz.ti41:Go.Proofs.Tryz.prog.info? 41=some Go.Proofs.Tryz.t41:=by kernel_rfl
namespace Go.Sky
open Go.Proofs
end Go.Sky
theorem Go.Proofs.Tryz.ti48:Go.Proofs.Tryz.prog.info? 48=some Go.Proofs.Tryz.t48:=by kernel_rfl
namespace Go.Sky
open Go.Proofs
end Go.Sky
theorem Go.Proofs.Tryz.ti79:Go.Proofs.Tryz.prog.info? 79=some Go.Proofs.Tryz.t79:=by kernel_rfl
namespace Go.Sky
open Go.Proofs
end Go.Sky
theorem Go.Proofs.Tryz.ti4:Go.Proofs.Tryz.prog.info? 4=some Go.Proofs.Tryz.t4:=by kernel_rfl
namespace Go.Sky
open Go.Proofs
end Go.Sky
theorem Go.Proofs.Tryz.ti9:Go.Proofs.Tryz.prog.info? 9=some Go.Proofs.Tryz.t9:=by kernel_rfl
namespace Go.Sky
open Go.Proofs
theorem b31_   : Tryz.prog.built 31 []=some #[.bool false,.string ⟨#[]⟩]:=by
 refine Oj _ Tryz.ti31 Tryz.underlying31 rfl (pl:=[(0,1),(1,1)]) (by simp [Tryz.ti4,Tryz.ti9];try decide) ?_
 simp [Instr.fill,show(Value.agg #[.bool false,.string ⟨#[]⟩]).cells=#[.bool false,.string ⟨#[]⟩]from rfl]
theorem Zt9{v0 v1:Value}(h0:v0.oneCell'=true)(h1:v1.oneCell'=true):Tryz.prog.built 31 [(0,v0),(1,v1)]=some #[v0,v1]:=by
 refine Oj _ Tryz.ti31 Tryz.underlying31 rfl (pl:=[(0,1),(1,1)]) (by simp [Tryz.ti4,Tryz.ti9];try decide) ?_
 simp [Instr.fill,Nx h0,Nx h1,show(Value.agg #[.bool false,.string ⟨#[]⟩]).cells=#[.bool false,.string ⟨#[]⟩]from rfl]
theorem b31_1{v1:Value}(h1:v1.oneCell'=true):Tryz.prog.built 31 [(1,v1)]=some #[.bool false,v1]:=by
 refine Oj _ Tryz.ti31 Tryz.underlying31 rfl (pl:=[(0,1),(1,1)]) (by simp [Tryz.ti4,Tryz.ti9];try decide) ?_
 simp [Instr.fill,Nx h1,show(Value.agg #[.bool false,.string ⟨#[]⟩]).cells=#[.bool false,.string ⟨#[]⟩]from rfl]
theorem b41_   : Tryz.prog.built 41 []=some #[.bool false,.string ⟨#[]⟩,.bool false,.string ⟨#[]⟩]:=by
 refine Oj _ Tryz.ti41 Tryz.underlying41 rfl (pl:=[(0,2),(2,2)]) (by simp [Tryz.ti31];try decide) ?_
 simp [Instr.fill,show(Value.agg #[.bool false,.string ⟨#[]⟩,.bool false,.string ⟨#[]⟩]).cells=#[.bool false,.string ⟨#[]⟩,.bool false,.string ⟨#[]⟩]from rfl]
theorem Zeq{c0_0 c0_1 c1_0 c1_1:Value}  : Tryz.prog.built 41 [(0,.agg #[c0_0,c0_1]),(1,.agg #[c1_0,c1_1])]=some #[c0_0,c0_1,c1_0,c1_1]:=by
 refine Oj _ Tryz.ti41 Tryz.underlying41 rfl (pl:=[(0,2),(2,2)]) (by simp [Tryz.ti31];try decide) ?_
 simp [Instr.fill,show(Value.agg #[c0_0,c0_1]).cells=#[c0_0,c0_1]from rfl,show(Value.agg #[c1_0,c1_1]).cells=#[c1_0,c1_1]from rfl,show(Value.agg #[.bool false,.string ⟨#[]⟩,.bool false,.string ⟨#[]⟩]).cells=#[.bool false,.string ⟨#[]⟩,.bool false,.string ⟨#[]⟩]from rfl]
theorem b41_1{c1_0 c1_1:Value}  : Tryz.prog.built 41 [(1,.agg #[c1_0,c1_1])]=some #[.bool false,.string ⟨#[]⟩,c1_0,c1_1]:=by
 refine Oj _ Tryz.ti41 Tryz.underlying41 rfl (pl:=[(0,2),(2,2)]) (by simp [Tryz.ti31];try decide) ?_
 simp [Instr.fill,show(Value.agg #[c1_0,c1_1]).cells=#[c1_0,c1_1]from rfl,show(Value.agg #[.bool false,.string ⟨#[]⟩,.bool false,.string ⟨#[]⟩]).cells=#[.bool false,.string ⟨#[]⟩,.bool false,.string ⟨#[]⟩]from rfl]
end Go.Sky
theorem Go.Proofs.Tryz.ti46:Go.Proofs.Tryz.prog.info? 46=some Go.Proofs.Tryz.t46:=by kernel_rfl
namespace Go.Sky
open Go.Proofs
theorem b48_   : Tryz.prog.built 48 []=some #[.bool false,.slice none 0 0]:=by
 refine Oj _ Tryz.ti48 Tryz.underlying48 rfl (pl:=[(0,1),(1,1)]) (by simp [Tryz.ti4,Tryz.ti46];try decide) ?_
 simp [Instr.fill,show(Value.agg #[.bool false,.slice none 0 0]).cells=#[.bool false,.slice none 0 0]from rfl]
theorem b48_01{v0 v1:Value}(h0:v0.oneCell'=true)(h1:v1.oneCell'=true):Tryz.prog.built 48 [(0,v0),(1,v1)]=some #[v0,v1]:=by
 refine Oj _ Tryz.ti48 Tryz.underlying48 rfl (pl:=[(0,1),(1,1)]) (by simp [Tryz.ti4,Tryz.ti46];try decide) ?_
 simp [Instr.fill,Nx h0,Nx h1,show(Value.agg #[.bool false,.slice none 0 0]).cells=#[.bool false,.slice none 0 0]from rfl]
end Go.Sky
namespace Go.Sky
open Go.Proofs
end Go.Sky
theorem Go.Proofs.Tryz.ti62:Go.Proofs.Tryz.prog.info? 62=some Go.Proofs.Tryz.t62:=by kernel_rfl
namespace Go.Sky
open Go.Proofs
theorem b62_   : Tryz.prog.built 62 []=some #[.bool false,.string ⟨#[]⟩,.bool false,.string ⟨#[]⟩,.bool false,.string ⟨#[]⟩,.bool false,.string ⟨#[]⟩]:=by
 refine Oj _ Tryz.ti62 Tryz.underlying62 rfl (pl:=[(0,4),(4,4)]) (by simp [Tryz.ti41];try decide) ?_
 simp [Instr.fill,show(Value.agg #[.bool false,.string ⟨#[]⟩,.bool false,.string ⟨#[]⟩,.bool false,.string ⟨#[]⟩,.bool false,.string ⟨#[]⟩]).cells=#[.bool false,.string ⟨#[]⟩,.bool false,.string ⟨#[]⟩,.bool false,.string ⟨#[]⟩,.bool false,.string ⟨#[]⟩]from rfl]
theorem b62_01{c0_0 c0_1 c0_2 c0_3 c1_0 c1_1 c1_2 c1_3:Value}  : Tryz.prog.built 62 [(0,.agg #[c0_0,c0_1,c0_2,c0_3]),(1,.agg #[c1_0,c1_1,c1_2,c1_3])]=some #[c0_0,c0_1,c0_2,c0_3,c1_0,c1_1,c1_2,c1_3]:=by
 refine Oj _ Tryz.ti62 Tryz.underlying62 rfl (pl:=[(0,4),(4,4)]) (by simp [Tryz.ti41];try decide) ?_
 simp [Instr.fill,show(Value.agg #[c0_0,c0_1,c0_2,c0_3]).cells=#[c0_0,c0_1,c0_2,c0_3]from rfl,show(Value.agg #[c1_0,c1_1,c1_2,c1_3]).cells=#[c1_0,c1_1,c1_2,c1_3]from rfl,show(Value.agg #[.bool false,.string ⟨#[]⟩,.bool false,.string ⟨#[]⟩,.bool false,.string ⟨#[]⟩,.bool false,.string ⟨#[]⟩]).cells=#[.bool false,.string ⟨#[]⟩,.bool false,.string ⟨#[]⟩,.bool false,.string ⟨#[]⟩,.bool false,.string ⟨#[]⟩]from rfl]
end Go.Sky
theorem Go.Proofs.Tryz.ti77:Go.Proofs.Tryz.prog.info? 77=some Go.Proofs.Tryz.t77:=by kernel_rfl
namespace Go.Sky
open Go.Proofs
theorem b79_012{v0 c1_0 c1_1 c1_2 c1_3 c2_0 c2_1 c2_2 c2_3:Value}(h0:v0.oneCell'=true):Tryz.prog.built 79 [(0,v0),(1,.agg #[c1_0,c1_1,c1_2,c1_3]),(2,.agg #[c2_0,c2_1,c2_2,c2_3])]=some #[v0,c1_0,c1_1,c1_2,c1_3,c2_0,c2_1,c2_2,c2_3]:=by
 refine Oj _ Tryz.ti79 Tryz.underlying79 rfl (pl:=[(0,1),(1,4),(5,4)]) (by simp [Tryz.ti41,Tryz.ti77];try decide) ?_
 simp [Instr.fill,Nx h0,show(Value.agg #[c1_0,c1_1,c1_2,c1_3]).cells=#[c1_0,c1_1,c1_2,c1_3]from rfl,show(Value.agg #[c2_0,c2_1,c2_2,c2_3]).cells=#[c2_0,c2_1,c2_2,c2_3]from rfl,show(Value.agg #[.int .i64 0,.bool false,.string ⟨#[]⟩,.bool false,.string ⟨#[]⟩,.bool false,.string ⟨#[]⟩,.bool false,.string ⟨#[]⟩]).cells=#[.int .i64 0,.bool false,.string ⟨#[]⟩,.bool false,.string ⟨#[]⟩,.bool false,.string ⟨#[]⟩,.bool false,.string ⟨#[]⟩]from rfl]
end Go.Sky
namespace Go.Sky
open Go.Proofs
end Go.Sky
namespace Go.Sky
open Go.Proofs
end Go.Sky
theorem Go.Proofs.Tryz.ti154:Go.Proofs.Tryz.prog.info? 154=some Go.Proofs.Tryz.t154:=by kernel_rfl
namespace Go.Sky
open Go.Proofs
end Go.Sky
theorem Go.Proofs.Tryz.ti151:Go.Proofs.Tryz.prog.info? 151=some Go.Proofs.Tryz.t151:=by kernel_rfl
namespace Go.Sky
open Go.Proofs
theorem Ou{v0 v1:Value}(h0:v0.oneCell'=true)(h1:v1.oneCell'=true):Tryz.prog.built 154 [(0,v0),(1,v1)]=some #[v0,v1]:=by
 refine Oj _ Tryz.ti154 Tryz.underlying154 rfl (pl:=[(0,1),(1,1)]) (by simp [Tryz.ti151,Tryz.ti4];try decide) ?_
 simp [Instr.fill,Nx h0,Nx h1,show(Value.agg #[.bool false,.slice none 0 0]).cells=#[.bool false,.slice none 0 0]from rfl]
theorem J{α:Sort _}{a:α} : a=a:=rfl
theorem K1{t0:Sort _}{a0:t0} : a0=a0∧True:=⟨rfl,trivial⟩
theorem K2{t0:Sort _}{a0:t0}{t1:Sort _}{a1:t1} : a0=a0∧a1=a1∧True:=⟨rfl,rfl,trivial⟩
theorem K3{t0:Sort _}{a0:t0}{t1:Sort _}{a1:t1}{t2:Sort _}{a2:t2} : a0=a0∧a1=a1∧a2=a2∧True:=⟨rfl,rfl,rfl,trivial⟩
theorem K4{t0:Sort _}{a0:t0}{t1:Sort _}{a1:t1}{t2:Sort _}{a2:t2}{t3:Sort _}{a3:t3} : a0=a0∧a1=a1∧a2=a2∧a3=a3∧True:=⟨rfl,rfl,rfl,rfl,trivial⟩
theorem K5{t0:Sort _}{a0:t0}{t1:Sort _}{a1:t1}{t2:Sort _}{a2:t2}{t3:Sort _}{a3:t3}{t4:Sort _}{a4:t4} : a0=a0∧a1=a1∧a2=a2∧a3=a3∧a4=a4∧True:=⟨rfl,rfl,rfl,rfl,rfl,trivial⟩
theorem K6{t0:Sort _}{a0:t0}{t1:Sort _}{a1:t1}{t2:Sort _}{a2:t2}{t3:Sort _}{a3:t3}{t4:Sort _}{a4:t4}{t5:Sort _}{a5:t5} : a0=a0∧a1=a1∧a2=a2∧a3=a3∧a4=a4∧a5=a5∧True:=⟨rfl,rfl,rfl,rfl,rfl,rfl,trivial⟩
theorem K7{t0:Sort _}{a0:t0}{t1:Sort _}{a1:t1}{t2:Sort _}{a2:t2}{t3:Sort _}{a3:t3}{t4:Sort _}{a4:t4}{t5:Sort _}{a5:t5}{t6:Sort _}{a6:t6} : a0=a0∧a1=a1∧a2=a2∧a3=a3∧a4=a4∧a5=a5∧a6=a6∧True:=⟨rfl,rfl,rfl,rfl,rfl,rfl,rfl,trivial⟩
theorem K8{t0:Sort _}{a0:t0}{t1:Sort _}{a1:t1}{t2:Sort _}{a2:t2}{t3:Sort _}{a3:t3}{t4:Sort _}{a4:t4}{t5:Sort _}{a5:t5}{t6:Sort _}{a6:t6}{t7:Sort _}{a7:t7} : a0=a0∧a1=a1∧a2=a2∧a3=a3∧a4=a4∧a5=a5∧a6=a6∧a7=a7∧True:=⟨rfl,rfl,rfl,rfl,rfl,rfl,rfl,rfl,trivial⟩
theorem K9{t0:Sort _}{a0:t0}{t1:Sort _}{a1:t1}{t2:Sort _}{a2:t2}{t3:Sort _}{a3:t3}{t4:Sort _}{a4:t4}{t5:Sort _}{a5:t5}{t6:Sort _}{a6:t6}{t7:Sort _}{a7:t7}{t8:Sort _}{a8:t8} : a0=a0∧a1=a1∧a2=a2∧a3=a3∧a4=a4∧a5=a5∧a6=a6∧a7=a7∧a8=a8∧True:=⟨rfl,rfl,rfl,rfl,rfl,rfl,rfl,rfl,rfl,trivial⟩
theorem K10{t0:Sort _}{a0:t0}{t1:Sort _}{a1:t1}{t2:Sort _}{a2:t2}{t3:Sort _}{a3:t3}{t4:Sort _}{a4:t4}{t5:Sort _}{a5:t5}{t6:Sort _}{a6:t6}{t7:Sort _}{a7:t7}{t8:Sort _}{a8:t8}{t9:Sort _}{a9:t9} : a0=a0∧a1=a1∧a2=a2∧a3=a3∧a4=a4∧a5=a5∧a6=a6∧a7=a7∧a8=a8∧a9=a9∧True:=⟨rfl,rfl,rfl,rfl,rfl,rfl,rfl,rfl,rfl,rfl,trivial⟩
theorem K11{t0:Sort _}{a0:t0}{t1:Sort _}{a1:t1}{t2:Sort _}{a2:t2}{t3:Sort _}{a3:t3}{t4:Sort _}{a4:t4}{t5:Sort _}{a5:t5}{t6:Sort _}{a6:t6}{t7:Sort _}{a7:t7}{t8:Sort _}{a8:t8}{t9:Sort _}{a9:t9}{t10:Sort _}{a10:t10} : a0=a0∧a1=a1∧a2=a2∧a3=a3∧a4=a4∧a5=a5∧a6=a6∧a7=a7∧a8=a8∧a9=a9∧a10=a10∧True:=⟨rfl,rfl,rfl,rfl,rfl,rfl,rfl,rfl,rfl,rfl,rfl,trivial⟩
theorem K12{t0:Sort _}{a0:t0}{t1:Sort _}{a1:t1}{t2:Sort _}{a2:t2}{t3:Sort _}{a3:t3}{t4:Sort _}{a4:t4}{t5:Sort _}{a5:t5}{t6:Sort _}{a6:t6}{t7:Sort _}{a7:t7}{t8:Sort _}{a8:t8}{t9:Sort _}{a9:t9}{t10:Sort _}{a10:t10}{t11:Sort _}{a11:t11} : a0=a0∧a1=a1∧a2=a2∧a3=a3∧a4=a4∧a5=a5∧a6=a6∧a7=a7∧a8=a8∧a9=a9∧a10=a10∧a11=a11∧True:=⟨rfl,rfl,rfl,rfl,rfl,rfl,rfl,rfl,rfl,rfl,rfl,rfl,trivial⟩
theorem K14{t0:Sort _}{a0:t0}{t1:Sort _}{a1:t1}{t2:Sort _}{a2:t2}{t3:Sort _}{a3:t3}{t4:Sort _}{a4:t4}{t5:Sort _}{a5:t5}{t6:Sort _}{a6:t6}{t7:Sort _}{a7:t7}{t8:Sort _}{a8:t8}{t9:Sort _}{a9:t9}{t10:Sort _}{a10:t10}{t11:Sort _}{a11:t11}{t12:Sort _}{a12:t12}{t13:Sort _}{a13:t13} : a0=a0∧a1=a1∧a2=a2∧a3=a3∧a4=a4∧a5=a5∧a6=a6∧a7=a7∧a8=a8∧a9=a9∧a10=a10∧a11=a11∧a12=a12∧a13=a13∧True:=⟨rfl,rfl,rfl,rfl,rfl,rfl,rfl,rfl,rfl,rfl,rfl,rfl,rfl,rfl,trivial⟩
def cF10:=@Go.Proofs.Tryz.call10
def cF100:=@Go.Proofs.Tryz.call100
def Zh7:=@Go.Proofs.Tryz.call101
def cF102:=@Go.Proofs.Tryz.call102
def Ze7:=@Go.Proofs.Tryz.call103
def Zbt:=@Go.Proofs.Tryz.call104
def cF105:=@Go.Proofs.Tryz.call105
def cF106:=@Go.Proofs.Tryz.call106
def cF107:=@Go.Proofs.Tryz.call107
def cF108:=@Go.Proofs.Tryz.call108
def Zxg:=@Go.Proofs.Tryz.call109
def cF11:=@Go.Proofs.Tryz.call11
def cF110:=@Go.Proofs.Tryz.call110
def cF111:=@Go.Proofs.Tryz.call111
def cF112:=@Go.Proofs.Tryz.call112
def cF113:=@Go.Proofs.Tryz.call113
def cF114:=@Go.Proofs.Tryz.call114
def cF115:=@Go.Proofs.Tryz.call115
def cF116:=@Go.Proofs.Tryz.call116
def Zeo:=@Go.Proofs.Tryz.call117
def cF118:=@Go.Proofs.Tryz.call118
def cF119:=@Go.Proofs.Tryz.call119
def cF12:=@Go.Proofs.Tryz.call12
def Zxf:=@Go.Proofs.Tryz.call120
def cF121:=@Go.Proofs.Tryz.call121
def cF123:=@Go.Proofs.Tryz.call123
def cF124:=@Go.Proofs.Tryz.call124
def Zbs:=@Go.Proofs.Tryz.call127
def Zcg:=@Go.Proofs.Tryz.call128
def Zjz:=@Go.Proofs.Tryz.call129
def cF13:=@Go.Proofs.Tryz.call13
def Lf:=@Go.Proofs.Tryz.call130
def Zt1:=@Go.Proofs.Tryz.call131
def Zar:=@Go.Proofs.Tryz.call132
def Me:=@Go.Proofs.Tryz.call133
def cF134:=@Go.Proofs.Tryz.call134
def cF135:=@Go.Proofs.Tryz.call135
def cF136:=@Go.Proofs.Tryz.call136
def cF137:=@Go.Proofs.Tryz.call137
def cF138:=@Go.Proofs.Tryz.call138
def Zl3:=@Go.Proofs.Tryz.call139
def cF14:=@Go.Proofs.Tryz.call14
def cF140:=@Go.Proofs.Tryz.call140
def cF141:=@Go.Proofs.Tryz.call141
def cF142:=@Go.Proofs.Tryz.call142
def cF143:=@Go.Proofs.Tryz.call143
def Zxe:=@Go.Proofs.Tryz.call144
def cF145:=@Go.Proofs.Tryz.call145
def cF146:=@Go.Proofs.Tryz.call146
def cF148:=@Go.Proofs.Tryz.call148
def Bt:=@Go.Proofs.Tryz.call149
def cF15:=@Go.Proofs.Tryz.call15
def Zl2:=@Go.Proofs.Tryz.call150
def Zt0:=@Go.Proofs.Tryz.call151
def Zxd:=@Go.Proofs.Tryz.call152
def Zbr:=@Go.Proofs.Tryz.call153
def Zl1:=@Go.Proofs.Tryz.call154
def cF155:=@Go.Proofs.Tryz.call155
def cF156:=@Go.Proofs.Tryz.call156
def cF157:=@Go.Proofs.Tryz.call157
def Zpf:=@Go.Proofs.Tryz.call158
def Zxc:=@Go.Proofs.Tryz.call159
def cF16:=@Go.Proofs.Tryz.call16
def cF160:=@Go.Proofs.Tryz.call160
def cF161:=@Go.Proofs.Tryz.call161
def cF162:=@Go.Proofs.Tryz.call162
def cF163:=@Go.Proofs.Tryz.call163
def cF164:=@Go.Proofs.Tryz.call164
def cF165:=@Go.Proofs.Tryz.call165
def cF166:=@Go.Proofs.Tryz.call166
def cF167:=@Go.Proofs.Tryz.call167
def cF168:=@Go.Proofs.Tryz.call168
def cF169:=@Go.Proofs.Tryz.call169
def cF17:=@Go.Proofs.Tryz.call17
def Zxb:=@Go.Proofs.Tryz.call170
def cF171:=@Go.Proofs.Tryz.call171
def cF172:=@Go.Proofs.Tryz.call172
def Ztz:=@Go.Proofs.Tryz.call173
def cF174:=@Go.Proofs.Tryz.call174
def Zxa:=@Go.Proofs.Tryz.call175
def Zpe:=@Go.Proofs.Tryz.call176
def cF177:=@Go.Proofs.Tryz.call177
def cF178:=@Go.Proofs.Tryz.call178
def cF18:=@Go.Proofs.Tryz.call18
def cF181:=@Go.Proofs.Tryz.call181
def cF182:=@Go.Proofs.Tryz.call182
def cF183:=@Go.Proofs.Tryz.call183
def cF184:=@Go.Proofs.Tryz.call184
def cF185:=@Go.Proofs.Tryz.call185
def cF186:=@Go.Proofs.Tryz.call186
def cF187:=@Go.Proofs.Tryz.call187
def cF188:=@Go.Proofs.Tryz.call188
def cF189:=@Go.Proofs.Tryz.call189
def cF19:=@Go.Proofs.Tryz.call19
def cF192:=@Go.Proofs.Tryz.call192
def cF193:=@Go.Proofs.Tryz.call193
def cF194:=@Go.Proofs.Tryz.call194
def cF195:=@Go.Proofs.Tryz.call195
def cF196:=@Go.Proofs.Tryz.call196
def cF197:=@Go.Proofs.Tryz.call197
def cF198:=@Go.Proofs.Tryz.call198
def cF199:=@Go.Proofs.Tryz.call199
def cF200:=@Go.Proofs.Tryz.call200
def cF21:=@Go.Proofs.Tryz.call21
def cF23:=@Go.Proofs.Tryz.call23
def cF25:=@Go.Proofs.Tryz.call25
def cF27:=@Go.Proofs.Tryz.call27
def cF29:=@Go.Proofs.Tryz.call29
def cF30:=@Go.Proofs.Tryz.call30
def cF31:=@Go.Proofs.Tryz.call31
def cF33:=@Go.Proofs.Tryz.call33
def cF34:=@Go.Proofs.Tryz.call34
def cF35:=@Go.Proofs.Tryz.call35
def cF37:=@Go.Proofs.Tryz.call37
def cF38:=@Go.Proofs.Tryz.call38
def cF41:=@Go.Proofs.Tryz.call41
def cF42:=@Go.Proofs.Tryz.call42
def cF43:=@Go.Proofs.Tryz.call43
def Zf4:=@Go.Proofs.Tryz.call44
def Zb7:=@Go.Proofs.Tryz.call45
def cF46:=@Go.Proofs.Tryz.call46
def cF47:=@Go.Proofs.Tryz.call47
def cF48:=@Go.Proofs.Tryz.call48
def Zcf:=@Go.Proofs.Tryz.call49
def cF50:=@Go.Proofs.Tryz.call50
def cF51:=@Go.Proofs.Tryz.call51
def cF52:=@Go.Proofs.Tryz.call52
def cF53:=@Go.Proofs.Tryz.call53
def cF54:=@Go.Proofs.Tryz.call54
def cF55:=@Go.Proofs.Tryz.call55
def cF56:=@Go.Proofs.Tryz.call56
def cF57:=@Go.Proofs.Tryz.call57
def cF58:=@Go.Proofs.Tryz.call58
def cF59:=@Go.Proofs.Tryz.call59
def cF60:=@Go.Proofs.Tryz.call60
def cF61:=@Go.Proofs.Tryz.call61
def cF62:=@Go.Proofs.Tryz.call62
def cF63:=@Go.Proofs.Tryz.call63
def cF64:=@Go.Proofs.Tryz.call64
def cF68:=@Go.Proofs.Tryz.call68
def Zuk:=@Go.Proofs.Tryz.call69
def cF70:=@Go.Proofs.Tryz.call70
def cF71:=@Go.Proofs.Tryz.call71
def cF72:=@Go.Proofs.Tryz.call72
def cF73:=@Go.Proofs.Tryz.call73
def Ze6:=@Go.Proofs.Tryz.call74
def cF75:=@Go.Proofs.Tryz.call75
def cF76:=@Go.Proofs.Tryz.call76
def Zw9:=@Go.Proofs.Tryz.call77
def Zuj:=@Go.Proofs.Tryz.call78
def cF79:=@Go.Proofs.Tryz.call79
def Cu:=@Go.Proofs.Tryz.call81
def cF82:=@Go.Proofs.Tryz.call82
def cF83:=@Go.Proofs.Tryz.call83
def cF84:=@Go.Proofs.Tryz.call84
def cF85:=@Go.Proofs.Tryz.call85
def cF86:=@Go.Proofs.Tryz.call86
def cF87:=@Go.Proofs.Tryz.call87
def cF88:=@Go.Proofs.Tryz.call88
def cF89:=@Go.Proofs.Tryz.call89
def cF90:=@Go.Proofs.Tryz.call90
def cF91:=@Go.Proofs.Tryz.call91
def cF93:=@Go.Proofs.Tryz.call93
def cF94:=@Go.Proofs.Tryz.call94
def cF95:=@Go.Proofs.Tryz.call95
def cF96:=@Go.Proofs.Tryz.call96
def cF97:=@Go.Proofs.Tryz.call97
def cF99:=@Go.Proofs.Tryz.call99
def Gy:=@Go.Proofs.Tryz.isAgg151
def Ln:=@Go.Proofs.Tryz.isAgg154
def iA173:=@Go.Proofs.Tryz.isAgg173
def iA23:=@Go.Proofs.Tryz.isAgg23
def Bv:=@Go.Proofs.Tryz.isAgg26
def iA3:=@Go.Proofs.Tryz.isAgg3
def Qo:=@Go.Proofs.Tryz.isAgg31
def iA4:=@Go.Proofs.Tryz.isAgg4
def Pp:=@Go.Proofs.Tryz.isAgg41
def Zjh:=@Go.Proofs.Tryz.isAgg46
def Hh:=@Go.Proofs.Tryz.isAgg48
def iA50:=@Go.Proofs.Tryz.isAgg50
def Zif:=@Go.Proofs.Tryz.isAgg62
def iA77:=@Go.Proofs.Tryz.isAgg77
def iA9:=@Go.Proofs.Tryz.isAgg9
def iA96:=@Go.Proofs.Tryz.isAgg96
def Zce:=@Go.Proofs.Tryz.isAgg98
def Nz:=@Go.Proofs.Tryz.sizeOf149
def Gs:=@Go.Proofs.Tryz.sizeOf151
def Yy:=@Go.Proofs.Tryz.sizeOf154
def Zf7:=@Go.Proofs.Tryz.sizeOf165
def Zpq:=@Go.Proofs.Tryz.sizeOf172
def Zul:=@Go.Proofs.Tryz.sizeOf173
def zT23:=@Go.Proofs.Tryz.sizeOf23
def Gg:=@Go.Proofs.Tryz.sizeOf26
def zT3:=@Go.Proofs.Tryz.sizeOf3
def Yk:=@Go.Proofs.Tryz.sizeOf31
def zT34:=@Go.Proofs.Tryz.sizeOf34
def zT4:=@Go.Proofs.Tryz.sizeOf4
def Xx:=@Go.Proofs.Tryz.sizeOf41
def Zig:=@Go.Proofs.Tryz.sizeOf46
def Pf:=@Go.Proofs.Tryz.sizeOf48
def zT5:=@Go.Proofs.Tryz.sizeOf5
def zT50:=@Go.Proofs.Tryz.sizeOf50
def Cw:=@Go.Proofs.Tryz.sizeOf62
def zT77:=@Go.Proofs.Tryz.sizeOf77
def zT79:=@Go.Proofs.Tryz.sizeOf79
def zT9:=@Go.Proofs.Tryz.sizeOf9
def Zpp:=@Go.Proofs.Tryz.sizeOf96
def Ce:=@Go.Proofs.Tryz.sizeOf98
def Kq:=@Go.Proofs.Tryz.underlying102
def Zdc:=@Go.Proofs.Tryz.underlying149
def Xt:=@Go.Proofs.Tryz.underlying151
def Mt:=@Go.Proofs.Tryz.underlying154
def Zj9:=@Go.Proofs.Tryz.underlying165
def Zgg:=@Go.Proofs.Tryz.underlying167
def Zon:=@Go.Proofs.Tryz.underlying172
def Zp0:=@Go.Proofs.Tryz.underlying173
def uT186:=@Go.Proofs.Tryz.underlying186
def uT212:=@Go.Proofs.Tryz.underlying212
def uT22:=@Go.Proofs.Tryz.underlying22
def Qn:=@Go.Proofs.Tryz.underlying23
def Zj8:=@Go.Proofs.Tryz.underlying29
def uT3:=@Go.Proofs.Tryz.underlying3
def Zca:=@Go.Proofs.Tryz.underlying31
def Mj:=@Go.Proofs.Tryz.underlying34
def uT4:=@Go.Proofs.Tryz.underlying4
def Ab:=@Go.Proofs.Tryz.underlying41
def Mi:=@Go.Proofs.Tryz.underlying46
def Aa:=@Go.Proofs.Tryz.underlying48
def uT5:=@Go.Proofs.Tryz.underlying5
def uT50:=@Go.Proofs.Tryz.underlying50
def Zpj:=@Go.Proofs.Tryz.underlying62
def Zus:=@Go.Proofs.Tryz.underlying74
def Zet:=@Go.Proofs.Tryz.underlying79
def uT83:=@Go.Proofs.Tryz.underlying83
def uT9:=@Go.Proofs.Tryz.underlying9
def Zj7:=@Go.Proofs.Tryz.underlying96
def Zur:=@Go.Proofs.Tryz.underlying98
end Go.Sky
namespace Go.Sky
open Go.ChangeShapes Go.WideShapes Go.ChangeAt Go.RowKit Go.Joins Go.Deep
open Go.Proofs
variable {P:Program} {W:World} {H:Type} {enc:TypeId×Value→H}
theorem Zok {base:Nat} {spare:Nat→Bool} {held:Bool} {fuel:Nat} {t:TypeId} {f0 f1:Field} {cs:List Value} {x:DataW H×List MemPlace}
  (ht:P.underlying t=some (.struct #[f0,f1])) (hC:P.cellsOf t=2) (ho0:f0.offset=0) (ho1:f1.offset=1) (hc0:P.cellsOf f0.type=1) (hc1:P.cellsOf f1.type=1) (h0:P.underlying f0.type=some .bool) (h1:P.underlying f1.type=some .string)
  (h:DataW.trod enc P W base spare held fuel t cs=some x):∃(b:Bool) (s:ByteArray),cs=[.bool b,.string s]∧s.size≤maxLen:=by
 obtain⟨y0,y1,n,hx,hl,e0,e1⟩:=trod_struct2 ht h
 rw [hC]at hl
 match cs,hl with
 | [c0,c1],_=>
  rw [ho0,hc0]at e0
  rw [ho1,hc1]at e1
  obtain⟨b,hb,_⟩:=DataW.trod_bool h0 e0
  obtain⟨s,hs,_,hz⟩:=DataW.trod_string h1 e1
  simp at hb hs
  exact⟨b,s,by rw [hb,hs],hz⟩
theorem Zek{α:Type}[Inhabited α]{p:Nat→α→Prop} : ∀n,(∀i,i<n→∃x,p i x)→∃xs:List α,xs.length=n∧∀i x,xs[i]? = some x→p i x
 | 0,_=>⟨[],rfl,fun i x h=>by simp at h⟩
 | n+1,h=>by
  obtain⟨xs,hl,hp⟩:=Zek n fun i hi=>h i (by omega)
  obtain⟨x,hx⟩:=h n (by omega)
  refine⟨xs ++ [x],by simp [hl],fun i y hy=>?_⟩
  rcases Nat.lt_or_ge i n with hi | hi
  ·rw [List.getElem?_append_left (by omega)]at hy;exact hp i y hy
  ·rw [List.getElem?_append_right (by omega),hl]at hy
   rcases Nat.eq_zero_or_pos (i-n)with h0 | h0
   ·rw [h0]at hy;simp at hy;subst hy;rw [show i=n by omega];exact hx
   ·rw [List.getElem?_eq_none (by simp;omega)]at hy;cases hy
theorem Zfr{r:Reach}{b0:Nat}{t e:TypeId}{a:Addr}{len cap:Nat}(hs:P.underlying t=some (.slice e))(hv:Value.okWide P W r b0 t (.slice (some a) len cap)):a.spot=none∧a.block<W.heap.size:=by
 unfold Value.okWide at hv
 rw [hs]at hv
 simp only at hv
 unfold Cell.okWide at hv
 rw [hs]at hv
 simp only at hv
 unfold Cell.ok at hv
 rw [hs]at hv
 simp only at hv
 obtain⟨_,_,_,h1,row,cells,h2,_⟩:=hv
 refine⟨h1,?_⟩
 unfold World.shape? at h2
 rcases Nat.lt_or_ge a.block W.heap.size with h | h
 ·exact h
 ·rw [Array.getElem?_eq_none h]at h2
  simp at h2
theorem Zo5 {t e:TypeId} {f0 f1:Field} {v:Value} {d:DataW H} {p:List MemPlace} (hs:P.underlying t=some (.slice e))
  (ht:P.underlying e=some (.struct #[f0,f1])) (hC:P.cellsOf e=2) (ho0:f0.offset=0) (ho1:f1.offset=1) (hc0:P.cellsOf f0.type=1) (hc1:P.cellsOf f1.type=1) (h0:P.underlying f0.type=some .bool) (h1:P.underlying f1.type=some .string)
  {r:Reach} {b0:Nat} (hv:Value.okWide P W r b0 t v) (h:DataW.Trod enc P W 0 (fun _=>true) true t v d p) (hlt:∀x∈p,x.block<W.heap.size) :
  ∃r:List (Bool×ByteArray),(slp 2 Zf0 v r).holds W:=by
 obtain⟨a0,len,cap,rfl⟩:=okWide_slice hs hv
 obtain⟨fuel,hf⟩:=h
 rcases open_slice hs hf with⟨hcs,_⟩ | ⟨a,len',cap',m,n,D,Pl,hcs,_,hl,hm,hmm,hx,hel⟩
 ·simp [Value.cells]at hcs
  obtain⟨rfl,rfl,rfl⟩:=hcs
  exact⟨[],Av 2 Zf0 W⟩
 ·simp [Value.cells]at hcs
  obtain⟨rfl,rfl,rfl⟩:=hcs
  simp at hmm
  subst hmm
  obtain⟨xs,hxl,hxs⟩:=Zek (p:=fun i (z:Bool×ByteArray)=>W.cells? 0 (a.add (i*2)) 2=some [.bool z.1,.string z.2]) len fun i hi=>by
   obtain⟨cs',h2,h3⟩:=hel i (by omega)
   rw [hC]at h2
   obtain⟨b,s,rfl,_⟩:=Zok ht hC ho0 ho1 hc0 hc1 h0 h1 h3
   exact⟨(b,s),h2⟩
  have hp:p=MemPlace.row a (m*2) ++ (List.range m).flatMap Pl:=by rw [hC]at hx;exact(Prod.mk.inj hx).2
  refine⟨xs,⟨some a,m,by rw [hxl],by omega,hm,?_⟩,fun b hb=>?_⟩
  ·rcases Nat.eq_zero_or_pos len with hz | hz
   ·exact .inl (List.eq_nil_of_length_eq_zero (by omega))
   ·right
    obtain⟨g,off,spot⟩:=a
    obtain⟨hsp,_⟩:=Zfr hs hv
    simp only at hsp
    subst hsp
    refine⟨g,off,rfl,fun i x hi j u hj=>?_⟩
    obtain⟨_,_,hc⟩:=World.cells?_some (hxs i x hi)
    have hj2:j<2:=by
     rcases Nat.lt_or_ge j 2 with h | h
     ·exact h
     ·rw [List.getElem?_eq_none (by simp [Value.cells];omega)]at hj;cases hj
    have:=hc j hj2
    simp only [Ny]at this
    rw [this]
    simpa [Value.cells]using hj
  ·cases hb
   exact(Zfr hs hv).2
end Go.Sky
namespace Go.Sky
set_option maxRecDepth 20000
theorem bl_sumn{K:Nat}{f:Nat→Int}{n:Nat}(h:∀i,i<n→bl (f i).natAbs≤K)(hn:n≤1023):bl (Qp f n).natAbs≤K+10:=by
 rw [Mf]
 have h1:=Zt3 h
 have h2:n*(2^K-1)≤1023*(2^K-1):=Nat.mul_le_mul_right _ hn
 have h3:0<2^K:=Nat.two_pow_pos K
 rw [Nat.pow_add]
 omega
theorem Hd(zs:List (Int×SL))(z:Int×SL):Zw (zs ++ [z])=Zw zs ++ [z.1]:=by simp [Zw]
theorem padd_mk(p q:List Int):tzl (mk (max p.length q.length) fun t=>cf p t+cf q t)=Zv2 p q:=rfl
theorem Zo1(p:List Int)(c:Int):tzl (mk p.length fun t=>cf p t*c)=Xk p c:=by rw [Znh p (· * c)];rfl
theorem pmul_mk(p q:List Int):tzl (mk (p.length+q.length-1) fun t=>Qp (fun k=>cf p k*cf q (t-k)) (t+1))=Nv p q:=rfl
theorem Zkf{x:Int}{m:Nat}(h:bl x.natAbs≤m)(n:Nat):bl (x^n).natAbs≤n*m+1:=by
 rcases Nat.eq_zero_or_pos n with h0 | h0
 ·rw [h0,Int.pow_zero];have:bl (1:Int).natAbs=1:=by decide
  omega
 ·have:=Fc x h n h0;omega
theorem Zwe(p:List Int)(i:Nat)(h:i<p.length):msz (p.take (i+1))=max (msz (p.take i)) (bl (cf p i).natAbs):=by
 rw [Zoq _ _ h,Zng]
theorem Fo(p:List Int)(c:Int):(Xk p c).length≤p.length:=by
 unfold Xk;have:=Hu (p.map (· * c));rwa [List.length_map]at this
theorem bl_i1{i:Nat}(h:i≤1000):bl ((i:Int)+1).natAbs≤1000000000:=by
 have h1:=Ok (show((i:Int)+1).natAbs≤1001 by omega)
 have h2:bl 1001≤10:=by decide
 omega
theorem Nc{y:Int}(h:y≠0):∀n:Nat,y^n≠0
 | 0=>by rw [Int.pow_zero];omega
 | n+1=>by rw [Int.pow_succ];exact Int.mul_ne_zero (Nc h n) h
theorem Zo7(xs ys:List Int):xs.map wr=ys.map wr↔xs=ys:=by
 refine⟨fun h=>?_,fun h=>by rw [h]⟩
 exact List.map_inj_right (fun x y h=>wv_inj (congrArg Prod.fst h) (congrArg Prod.snd h)) |>.1 h
theorem Cal.imp2{P:Program}{f:FuncId}{args:Array Value}{p1 p q:Pc}{pre:List Pc}{al:Bool}{G:Type}{φ:G→Prop}{val:G→Value}{its:G→List Pc}(h:Cal P f args (p1 :: p :: pre) al φ val its)(hh:∀w,q.holds w→p.holds w)(hf:∀b,p.fp b→q.fp b) :
  Cal P f args (p1 :: q :: pre) al φ val its:=fun w hp=>by
 refine(h w fun r hr=>?_).mono ?_
 ·rcases List.mem_cons.1 hr with rfl | hr
  ·exact hp _ (List.mem_cons_self ..)
  ·rcases List.mem_cons.1 hr with rfl | hr
   ·exact hh w (hp q (List.mem_cons_of_mem _ (List.mem_cons_self ..)))
   ·exact hp r (List.mem_cons_of_mem _ (List.mem_cons_of_mem _ hr))
 ·rintro e w' ⟨g,he,hg,hb,hits⟩
  refine⟨g,he,hg,hb,fun p' hp'=>?_⟩
  obtain⟨h1,h2,h3⟩:=hits p' hp'
  refine⟨h1,h2,fun b hb=>?_⟩
  rcases h3 b hb with h | ⟨h,r,hr,hrb⟩
  ·exact .inl h
  ·refine .inr ⟨h,?_⟩
   rcases List.mem_cons.1 hr with rfl | hr
   ·exact⟨r,List.mem_cons_self ..,hrb⟩
   ·rcases List.mem_cons.1 hr with rfl | hr
    ·exact⟨q,List.mem_cons_of_mem _ (List.mem_cons_self ..),hf b hrb⟩
    ·exact⟨r,List.mem_cons_of_mem _ (List.mem_cons_of_mem _ hr),hrb⟩
theorem Zhj{r:List (Bool×ByteArray)}(ha:r.all (fun w=>okW w.1 w.2)=true):okP r=(decide (r.length≤25) && (decide (r.length=0) || decide ((0:Int)<(((r.getD (r.length-1) (false,⟨#[]⟩)).2.size:Nat):Int)))):=by
 unfold okP
 rw [ha,Bool.true_and]
 congr 2
 rw [decide_eq_decide];omega
end Go.Sky
namespace Go.Sky
def shm(q:List Int)(c:Int)(s i:Nat):List Int:=mk (s+i) fun t=>if t<s then 0 else c*cf q (t-s)
theorem Zms(q:List Int)(c:Int)(s:Nat):List.replicate s 0=shm q c s 0:=by
 rw [Zm2];unfold shm
 exact Kv fun i hi=>by rw [if_pos hi]
theorem Zmt(q:List Int)(c:Int)(s i:Nat):shm q c s i ++ [c*cf q i]=shm q c s (i+1):=by
 unfold shm
 rw [show s+(i+1)=s+i+1 by omega,Bo,if_neg (by omega),show s+i-s=i by omega]
theorem Zoc(q:List Int)(c:Int)(s t:Nat):cf (shm q c s q.length) t=if s≤t∧t<s+q.length then c*cf q (t-s)else 0:=by
 unfold shm
 rw [Ic]
 by_cases h1:t<s
 ·rw [if_neg (by omega:¬(s≤t∧t<s+q.length))];split
  ·rfl
  ·rfl
 ·by_cases h2:t<s+q.length
  ·rw [if_pos h2,if_neg h1,if_pos (show s≤t∧t<s+q.length by omega)]
  ·rw [if_neg h2,if_neg (show ¬(s≤t∧t<s+q.length) by omega)]
section
variable {p q:List Int}
theorem Za9(hq:0<q.length)(hl:q.length≤p.length):∀j,j≤p.length-q.length+1→∀t,p.length-j≤t→cf (Pa p q j) t=0
 | 0,_,t,ht=>Qe (by unfold Pa;omega)
 | j+1,hj,t,ht=>by
  rcases Nat.lt_or_ge t p.length with h | h
  ·unfold Pa
   rw [Zc2 (by rw [Qw];exact h)]
   by_cases he:t=p.length-1-j
   ·subst he
    rw [if_pos (by omega),show p.length-1-j-(p.length-1-j-(q.length-1))=q.length-1 by omega]
    omega
   ·rw [Za9 hq hl j (by omega) t (by omega),Int.zero_mul,if_neg (by omega)];rfl
  ·exact Qe (by rw [Qw];omega)
theorem Bj(hq:0<q.length)(hl:q.length≤p.length){j:Nat} : ∀k,j+k≤p.length-q.length+1→(∀t,p.length-(j+k)≤t→cf (Pa p q j) t=0)→∀t,cf (Pa p q (j+k)) t=cf (Pa p q j) t*cf q (q.length-1)^k
 | 0,_,_,t=>by rw [Int.pow_zero,Int.mul_one];rfl
 | k+1,hk,hz,t=>by
  have ih:=Bj hq hl k (by omega) (fun t ht=>hz t (by omega))
  rcases Nat.lt_or_ge t p.length with h | h
  ·show cf (Zey q (Pa p q (j+k)) (p.length-1-(j+k))) t=_
   rw [Zc2 (by rw [Qw];exact h),ih t,ih (p.length-1-(j+k)),hz (p.length-1-(j+k)) (by omega),Int.zero_mul,Int.zero_mul]
   split<;>rw [Int.sub_zero,Int.pow_succ,Int.mul_assoc]
  ·rw [Qe (by rw [Qw];omega),Qe (by rw [Qw];omega),Int.zero_mul]
def Fd(p q R:List Int)(j:Nat):Prop:=Tr R∧∀t,cf R t=cf (Pa p q j) t*cf q (q.length-1)^(p.length-q.length+1-j)
theorem Zi0:Fd p q (Xk p (cf q (q.length-1)^(p.length-q.length+1))) 0:=⟨Qu _ _,fun t=>by rw [Xp];rfl⟩
theorem Zoz{R:List Int}{j:Nat}(hq:0<q.length)(hl:q.length≤p.length)(hlead:cf q (q.length-1)≠0)(hj:j≤p.length-q.length+1)(h:Fd p q R j)(hR:q.length≤R.length):j≤p.length-R.length∧p.length-R.length≤p.length-q.length∧R.length≤p.length∧Fd p q R (p.length-R.length):=by
 have hpow:∀n,cf q (q.length-1)^n≠0:=fun n=>Nc hlead n
 have htop:cf R (R.length-1)≠0:=h.1.mem (fun e=>by rw [e,List.length_nil]at hR;omega)
 have h1:R.length-1<p.length-j:=by
  rcases Nat.lt_or_ge (R.length-1) (p.length-j)with h1 | h1
  ·exact h1
  ·rw [h.2,Za9 hq hl j hj _ h1,Int.zero_mul]at htop;exact absurd rfl htop
 have hjl:j≤p.length-R.length:=by omega
 refine⟨hjl,by omega,by omega,h.1,fun t=>?_⟩
 have hz:∀t,p.length-(j+(p.length-R.length-j))≤t→cf (Pa p q j) t=0:=fun t ht=>by
  have h2:=h.2 t
  rw [Qe (by omega)]at h2
  rcases Int.mul_eq_zero.1 h2.symm with h3 | h3
  ·exact h3
  ·exact absurd h3 (hpow _)
 have h2:=Bj hq hl (j:=j) (p.length-R.length-j) (by omega) hz t
 rw [show j+(p.length-R.length-j)=p.length-R.length by omega]at h2
 rw [h2,h.2,Int.mul_assoc,←Int.pow_add]
 congr 2;omega
theorem Zd0{R:List Int}(hlead:cf q (q.length-1)≠0)(h:Fd p q R (p.length-R.length))(hq:0<q.length)(hR:q.length≤R.length)(hp:R.length≤p.length):cf R (R.length-1)/cf q (q.length-1)=cf (Pa p q (p.length-R.length)) (R.length-1)*cf q (q.length-1)^(p.length-q.length-(p.length-R.length)):=by
 rw [h.2,show p.length-q.length+1-(p.length-R.length)=p.length-q.length-(p.length-R.length)+1 by omega,Int.pow_succ,←Int.mul_assoc]
 exact Int.mul_ediv_cancel _ hlead
theorem Zi1{R:List Int}(hlead:cf q (q.length-1)≠0)(h:Fd p q R (p.length-R.length))(hq:0<q.length)(hR:q.length≤R.length)(hp:R.length≤p.length) :
  Fd p q (Zfm R (shm q (cf R (R.length-1)/cf q (q.length-1)) (R.length-q.length) q.length)) (p.length-R.length+1):=by
 refine⟨Zdf _ _,fun t=>?_⟩
 rw [Kz,Zoc,Zd0 hlead h hq hR hp,h.2]
 rcases Nat.lt_or_ge t p.length with ht | ht
 ·show _=cf (Zey q (Pa p q (p.length-R.length)) (p.length-1-(p.length-R.length))) t*_
  rw [Zc2 (by rw [Qw];exact ht),show p.length-1-(p.length-R.length)=R.length-1 by omega,show R.length-1-(q.length-1)=R.length-q.length by omega]
  rw [show p.length-q.length+1-(p.length-R.length)=p.length-q.length-(p.length-R.length)+1 by omega,show p.length-q.length+1-(p.length-R.length+1)=p.length-q.length-(p.length-R.length) by omega,Int.pow_succ]
  split<;>grind
 ·rw [Qe (p:=Pa p q (p.length-R.length)) (by rw [Qw];exact ht),Qe (p:=Pa p q (p.length-R.length+1)) (by rw [Qw];exact ht),if_neg (by omega)]
  simp
theorem Zkp{R:List Int}{j:Nat}(hq:0<q.length)(hl:q.length≤p.length)(hlead:cf q (q.length-1)≠0)(hj:j≤p.length-q.length+1)(h:Fd p q R j)(hR:R.length<q.length):R=Ph p q:=by
 unfold Ph
 rw [if_neg (by omega)]
 refine h.1.ext (Ol _) fun t=>?_
 have hz:∀t,p.length-(j+(p.length-q.length+1-j))≤t→cf (Pa p q j) t=0:=fun t ht=>by
  have h2:=h.2 t
  rw [Qe (by omega)]at h2
  rcases Int.mul_eq_zero.1 h2.symm with h3 | h3
  ·exact h3
  ·exact absurd h3 (Nc hlead _)
 have h2:=Bj hq hl (j:=j) (p.length-q.length+1-j) (by omega) hz t
 rw [show j+(p.length-q.length+1-j)=p.length-q.length+1 by omega]at h2
 rw [Lm,h2,h.2]
theorem Zo0{R:List Int}{j:Nat}(hj:j≤p.length-q.length+1)(h:Fd p q R j):Sz (msz p+(p.length-q.length+1)*(msz q+1)+1) R:=fun t=>by
 rw [h.2]
 have h1:=Fh p q j t
 have h2:=Zkf (Lc q (q.length-1)) (p.length-q.length+1-j)
 have h3:=Qh (cf (Pa p q j) t) (cf q (q.length-1)^(p.length-q.length+1-j))
 have h4:(p.length-q.length+1-j)*msz q≤(p.length-q.length+1-j)*(msz q+1):=Nat.mul_le_mul_left _ (by omega)
 have h5:j*(msz q+1)+(p.length-q.length+1-j)*(msz q+1)=(p.length-q.length+1)*(msz q+1):=by rw [←Nat.add_mul];congr 1;omega
 omega
theorem Zko{R:List Int}{j:Nat}(h:Fd p q R j):R.length≤p.length:=by
 rcases Nat.lt_or_ge p.length R.length with h1 | h1
 ·have h2:=h.1.mem (fun e=>by rw [e]at h1;simp at h1)
  rw [h.2,Qe (by rw [Qw];omega),Int.zero_mul]at h2
  exact absurd rfl h2
 ·exact h1
end
end Go.Sky
namespace Go.Sky
section
variable {P:Program} {N:Nat} {sc:Nat→Prop} {env env':Env} {H H':Hp}
theorem Za8(n k:Nat):∀a w,Sat N sc env H a w→Sat N sc env ((n,Zcw qI (List.replicate k I0)) :: H) a w:=fun a w hs=>by
 have hz:∀z,z∈List.replicate k I0→z=I0:=fun z hz=>(List.mem_replicate.1 hz).2
 refine hs.add n _ (fun z h=>by rw [hz z h];exact Av 1 Dc w) (fun j' jt _ _ hor b hb hb'=>?_) (fun b hb=>?_)
 ·obtain⟨z,h1,h2⟩:=hb;rw [hz z h1]at h2;cases h2
 ·obtain⟨z,h1,h2⟩:=hb;rw [hz z h1]at h2;cases h2
end
theorem Zt5{c r l:Int}{n A B:Nat}(h:c=r*l^n)(hr:bl r.natAbs≤A)(hl:bl l.natAbs≤B):bl c.natAbs≤A+(n*B+1):=by
 rw [h]
 have h1:=Qh r (l^n)
 rcases Nat.eq_zero_or_pos n with h0 | h0
 ·rw [h0,Int.pow_zero];rw [Int.mul_one];omega
 ·have:=Fc l hl n h0;omega
theorem restq_b{p q R:List Int}(hq:q.length≤R.length)(hl:q.length≤p.length)(hp:R.length≤p.length) :
  msz p+(p.length-R.length)*(msz q+1)+((p.length-q.length-(p.length-R.length))*msz q+1)≤msz p+(p.length-q.length+1)*(msz q+1):=by
 have h1:(p.length-q.length-(p.length-R.length))*msz q≤(p.length-q.length-(p.length-R.length))*(msz q+1):=Nat.mul_le_mul_left _ (by omega)
 have h2:(p.length-R.length)*(msz q+1)+(p.length-q.length-(p.length-R.length))*(msz q+1)=(p.length-q.length)*(msz q+1):=by rw [←Nat.add_mul];congr 1;omega
 rw [Nat.succ_mul];omega
theorem Zvo{p q R:List Int}{c r:Int}(h:c=r*cf q (q.length-1)^(p.length-q.length-(p.length-R.length)))(hr:bl r.natAbs≤msz p+(p.length-R.length)*(msz q+1))(hs:Sz (msz q) q)(hq:q.length≤R.length)(hl:q.length≤p.length)(hp:R.length≤p.length)(t:Nat) :
  bl (c*cf q t).natAbs≤msz p+(p.length-q.length+1)*(msz q+1)+1:=by
 have h1:=Zt5 h hr (hs _)
 have h2:=Qh c (cf q t)
 have h3:=hs t
 have h4:(p.length-q.length-(p.length-R.length))*msz q≤(p.length-q.length-(p.length-R.length))*(msz q+1):=Nat.mul_le_mul_left _ (by omega)
 have h5:(p.length-R.length)*(msz q+1)+(p.length-q.length-(p.length-R.length))*(msz q+1)=(p.length-q.length)*(msz q+1):=by rw [←Nat.add_mul];congr 1;omega
 rw [Nat.succ_mul];omega
theorem Zqj{q:List Int}{c:Int}{s i n:Nat}(h:∀t,bl (c*cf q t).natAbs≤n):Sz n (shm q c s i):=by
 unfold shm
 refine Ax fun t _=>?_
 split
 ·exact Nat.zero_le _
 ·exact h _
end Go.Sky
namespace Go.Sky
theorem vp_lit{l:List Int}(h1:∀x∈l,inI x)(h2:tzl l=l)(h3:l.length≤25):Vp l:=⟨Zdh h1,h2▸Ol l,h3⟩
theorem Zsi{l:List Int}(h:(l.all fun x=>decide (-1000000≤x) && decide (x≤1000000))=true):∀x∈l,inI x:=fun x hx=>by
 have h1:=List.all_eq_true.1 h x hx
 simp only [Bool.and_eq_true,decide_eq_true_eq]at h1
 exact⟨by omega,by omega⟩
def litb(l:List Int):Bool:=(l.all fun x=>decide (-1000000≤x) && decide (x≤1000000)) && (decide (tzl l=l) && decide (l.length≤25))
theorem vp_b{l:List Int}(h:litb l=true):Vp l:=by
 unfold litb at h
 rw [Bool.and_eq_true,Bool.and_eq_true]at h
 exact vp_lit (Zsi h.1) (of_decide_eq_true h.2.1) (of_decide_eq_true h.2.2)
instance eokDec:∀f a b,Decidable (eok f a b)
 | 0,_,b=>inferInstanceAs (Decidable (b=[]))
 | f+1,a,b=>@instDecidableOr _ _ _ (@instDecidableAnd _ _ _ (eokDec f b (Yx (Ph a b))))
end Go.Sky
namespace Go.Sky
open Go.Proofs
set_option maxRecDepth 20000
set_option maxHeartbeats 4000000
set_option linter.unusedSimpArgs false
theorem Zv9(v:Value)(xs:List Nat):Cal Tryz.prog 127 #[v] [slp 1 Iq v xs] true (G:=Unit) (fun _=>True) (fun _=>Fe v (tz xs).length) (fun _=>[slp 1 Iq (Fe v (tz xs).length) (tz xs)]):=by
 refine Yd Tryz.func127 J Tryz.ntmps127 J K1 ?_
 intro w0 sc hw hsc
 simp only [Zp,Zn]
 refine Nw (Zsp (i:=1) J Zi) fun hself=>Nw (Hz (i:=1) J Zi) fun hlen=>Zb<|Zg<|as_ J J<|Zf<|Za<|Zb<|Zl<|Nt [] [(0,_)] (fun(k:Nat)=>[(0,Fe v k)]) (fun(k:Nat)=>[(1,slp 1 Iq (Fe v k) (xs.take k))]) (fun(k:Nat)=>(k≤xs.length)∧(tz (xs.take k)=tz xs)) (fun(k:Nat)=>k) xs.length ⟨Nat.le_refl _,by rw [List.take_length]⟩ ⟨by rw [hself];rfl,trivial⟩ ⟨by rw [hself,List.take_length];rfl,rfl,trivial⟩ ?_
 rintro k ⟨hk,ht⟩
 simp only [List.cons_append,List.nil_append]
 have hl:(xs.take k).length=k:=by rw [List.length_take];omega
 refine Zb<|Zb<|Zg<|mv J J<|dt (Zy J J (i:=1) J Zi Xt) J<|dt (On J J J) J<|mv J J<|Qx (d:=6) J (fun s21=>?_) (fun s21=>?_)
 ·refine gdt (Ym J J) J J J J<|gdt (Ym J J) J J J J<|gdt (Zy J J (i:=1) J Zi Xt) J J J J<|gdt (Qg J J J ⟨by omega,by omega⟩) J J J J<|gdt (Yz (ii:=1) (i:=k-1) J J J J Zi Xt Nz (by omega) (by omega)) J J J J<|gdt (Xs (ii:=1) 0 J J J Zi pU (by omega)) J J J J<|gdt (Pi J J J) J J J J<|dt (Xh J J J) J<|Zf<|Za<|Zq J (fun h21=>?_) (fun h21=>?_)
  ·have hstep:=Zp1 hk (by omega) (by omega:(xs.take k).getD (k-1) 0=0)
   exact Zk<|Za<|Zl<|Zg<|mv J J<|mv J J<|dt (Zy J J (i:=1) J Zi Xt) J<|dt (Qg J J J ⟨by omega,by omega⟩) J<|dt (Zw1 (ii:=1) (i:=k-1) J J J J Zi Xt Nz (by omega) (by omega)) J<|as_ J J<|Zf<|Ob<|Pr (s_pre 1 1 (k-1) J J (by omega))<|Xq (k-1) ⟨by first | omega | (dsimp only<;>omega),by rw [←ht,←hstep]⟩ (by first | omega | (dsimp only<;>omega)) ⟨by rw [←Ha v k (k-1)];rfl,trivial⟩ ⟨by rw [Ha,List.take_take,Nat.min_eq_left (by omega)];rfl,rfl,trivial⟩
  ·refine Yu<|Zs<|Zs<|Ox<|Za<|Zb<|Zg<|mv J J<|as_ J J<|Zf<|Za<|Zu ?_
   have hx:tz xs=xs.take k:=by rw [←ht];exact Zdd hk (by omega)
   exact Zv (.inl J) hsc () _ (fun a w hs=>Qj hs Tryz.results127 J) (by rw [hx,hl]) trivial J (Yj 1 J J J (by rw [hx,hl]) Zj)
 ·refine gsk J J J J J<|gsk J J J J J<|gsk J J J J J<|gsk J J J J J<|gsk J J J J J<|gsk J J J J J<|gsk J J J J J<|dt (Yh J J J) J<|Zf<|Za<|Yf J<|Yu<|Zs<|Zs<|Ox<|Za<|Zb<|Zg<|mv J J<|as_ J J<|Zf<|Za<|Zu ?_
  have hx:tz xs=xs.take k:=by rw [←ht];exact Zdd hk (by omega)
  exact Zv (.inl J) hsc () _ (fun a w hs=>Qj hs Tryz.results127 J) (by rw [hx,hl]) trivial J (Yj 1 J J J (by rw [hx,hl]) Zj)
theorem Py(v:Value)(xs:List Nat):Cal Tryz.prog 127 #[v] [slp 1 Iq v xs] false (G:=Unit) (fun _=>True) (fun _=>Fe v (tz xs).length) (fun _=>[]):=(Zv9 v xs).bare
theorem Zrx(v w:Value)(x y:Nat)(hx:bl x≤4294967296)(hy:bl y≤4294967296):Cal Tryz.prog 171 #[v,w] [dgp v x,dgp w y] false (G:=Value) (fun r=>True) (fun r=>r) (fun r=>[dgp r (x+y)]):=by
 refine Yd Tryz.func171 J Tryz.ntmps171 J K2 ?_
 intro w0 sc hw hsc
 simp only [Zp,Zn]
 have hX:=Md x
 have hY:=Md y
 refine Zb<|Zg<|as_ J J<|Zf<|Za<|Dd [] [(0,_),(1,_),(2,_)] (fun(q:Value×Value×Nat×Nat)=>[(0,q.1),(1,q.2.1)]) (fun(q:Value×Value×Nat×Nat)=>[(91,dgp q.1 q.2.2.1),(92,dgp q.2.1 q.2.2.2)]) (fun(q:Value×Value×Nat×Nat)=>(q.2.2.1+q.2.2.2=x+y)∧((dg U q.2.2.2).length≤(dg U q.2.2.1).length)∧((dg U q.2.2.1).length≤1099511627776)) trivial K3 ?_ ?_
 ·refine Zb<|Zg<|mv J J<|dt (Zy J J (i:=1) J Zi Xt) J<|mv J J<|dt (Zy J J (i:=2) J Zi Xt) J<|dt (Qb J J J) J<|Zf<|Za<|Zq J (fun h73=>?_) (fun h73=>?_)
  ·exact Zg<|mv J J<|mv J J<|as_ J J<|as_ J J<|Zf<|Pr (Nk 2 91 J J J)<|Pr (Nk 1 92 J J J)<|Qv (w,v,y,x) ⟨by first | omega | (dsimp only<;>omega),by first | omega | (dsimp only<;>omega),by first | omega | (dsimp only<;>omega)⟩ K2 K5
  ·exact Zk<|Pr (Nk 1 91 J J J)<|Pr (Nk 2 92 J J J)<|Qv (v,w,x,y) ⟨by first | omega | (dsimp only<;>omega),by first | omega | (dsimp only<;>omega),by first | omega | (dsimp only<;>omega)⟩ K2 K5
 ·rintro⟨va,vb,a,b⟩ ⟨hs,hl,hla⟩
  dsimp only at hs hl hla
  simp only [List.cons_append,List.nil_append]
  refine Zb<|Zg<|mv J J<|dt (Zy J J (i:=91) J Zi Xt) J<|dt (Yt J J J ⟨by omega,by omega⟩) J<|tt (Hw (i:=3) (n:=(dg U a).length+1) (by_:=8) (enc:=Iq) 0 J J J J J (by omega) Xt Tryz.ti149 J pU.cells pU.pos J J (by omega) (by decide) J hw) J fun v _=>as_ J J<|Zf<|Za<|Zb<|Zg<|as_ J J<|Zf<|Za<|Zb<|Zb<|Zg<|mv J J<|dt (Zy J J (i:=91) J Zi Xt) J<|mv J J<|Zf<|Za<|Zl<|Nt [(0,_),(1,_),(5,_),(21,_)] [(0,_),(91,_),(92,_),(1,_),(2,_)] (fun(q:Nat×List Nat×Nat)=>[(22,.int .i64 (q.1:Int)),(6,.int .u64 (q.2.2:Int))]) (fun(q:Nat×List Nat×Nat)=>[(3,osl 1 149 Iq v q.2.1)]) (fun(q:Nat×List Nat×Nat)=>(q.1≤(dg U a).length)∧(q.2.1.length=(dg U a).length+1)∧(∀d∈q.2.1,d<U)∧(q.2.2≤1)∧(val U (q.2.1.take q.1)+q.2.2*U^q.1=val U ((dg U a).take q.1)+val U ((dg U b).take q.1))) (fun(q:Nat×List Nat×Nat)=>(dg U a).length-q.1) (0,List.replicate ((dg U a).length+1) 0,0) ⟨by first | omega | (dsimp only<;>omega),by simp,Ow _ Pm,by first | omega | (dsimp only<;>omega),by simp [val]⟩ K6 K6 ?_
  rintro⟨k,o,c⟩ ⟨hk,hol,hoa,hc,hv⟩
  dsimp only at hk hol hoa hc hv
  simp only [List.cons_append,List.nil_append]
  refine Zb<|Zg<|dt (Qb J J J) J<|Zf<|Za<|Zb<|Zq J (fun h78=>?_) (fun h78=>?_)
  ·refine Zk<|Za<|Zb<|Zl<|Zb<|Zg<|mv J J<|as_ J J<|Zf<|Za<|Zb<|Zg<|as_ J J<|Zf<|Za<|Dd [(0,_),(1,_),(5,_),(6,_),(7,_),(21,_),(22,_)] [(0,_),(3,_),(91,_),(92,_),(1,_),(2,_)] (fun(_:Unit)=>[(8,.int .u64 ((dg U b).getD k 0:Int))]) (fun(_:Unit)=>[]) (fun(_:Unit)=>True) K7 K6 ?_ ?_
   ·refine Zb<|Zg<|mv J J<|mv J J<|dt (Zy J J (i:=92) J Zi Xt) J<|dt (Qb J J J) J<|Zf<|Za<|Zq J (fun h80=>?_) (fun h80=>?_)
    ·refine Zg<|mv J J<|mv J J<|dt (Yz (ii:=92) J J J J Zi Xt Nz J (by first | omega | (simp only [List.length_set];omega))) J<|dt (Xs (ii:=92) 0 J J J Zi pU (by first | omega | (simp only [List.length_set];omega))) J<|as_ J J<|Zf ?_
     try (have hz:(dg U b).getD k 0=0:=by simp [List.getD,List.getElem?_eq_none (by omega:(dg U b).length≤k)])
     exact Qv () trivial ⟨by first | rfl | (rw [hz];rfl),rfl,rfl,rfl,rfl,rfl,rfl,rfl,trivial⟩ K6
    ·refine Zk ?_
     try (have hz:(dg U b).getD k 0=0:=by simp [List.getD,List.getElem?_eq_none (by omega:(dg U b).length≤k)])
     exact Qv () trivial ⟨by first | rfl | (rw [hz];rfl),rfl,rfl,rfl,rfl,rfl,rfl,rfl,trivial⟩ K6
   ·rintro _ -
    simp only [List.cons_append,List.nil_append]
    exact Zg<|mv J J<|mv J J<|mv J J<|mv J J<|dt (Yz (ii:=91) J J J J Zi Xt Nz J (by first | omega | (simp only [List.length_set];omega))) J<|dt (Xs (ii:=91) 0 J J J Zi pU (by first | omega | (simp only [List.length_set];omega))) J<|mv J J<|mv J J<|dt (Zlv J J J J (by omega) Zes) J<|mv J J<|dt (Yg J J J) J<|dt (Yg J J J) J<|dt (Yz (ii:=3) J J J J (Yn pU) Xt Nz J (by first | omega | (simp only [List.length_set];omega))) J<|tt (Kr (i:=3) (enc:=Iq) _ J J J J J J (by decide) pU (by first | omega | (simp only [List.length_set];omega)) J hw) J fun _ _=>as_ J J<|Zf<|Ob<|Za<|Zg<|dt (Yt J J J ⟨by omega,by omega⟩) J<|mv J J<|Zf<|Xq (k+1,_,_) ⟨by first | omega | (dsimp only<;>omega),by simp;omega,Lk hoa _ _ (Nat.mod_lt _ Pm),by have h1:=Ql Pm (Le Qz a) k;have h2:=Ql Pm (Le Qz b) k;simp only [U]at *;omega,Zxj hv (by omega)⟩ (by first | omega | (dsimp only<;>omega)) K6 K6
  ·refine Yu<|Zs<|Zs<|Ox<|Za<|Zb ?_
   obtain rfl:k=(dg U a).length:=by omega
   refine Zg<|mv J J<|mv J J<|dt (Zy J J (i:=91) J Zi Xt) J<|mv J J<|dt (Yz (ii:=3) J J J J (Yn pU) Xt Nz J (by first | omega | (simp only [List.length_set];omega))) J<|tt (Kr (i:=3) (enc:=Iq) _ J J J J J J (by decide) pU (by first | omega | (simp only [List.length_set];omega)) J hw) J fun _ _=>Zf<|Za<|Zb<|Zg<|mv J J<|tt (Zh (n:=3) (Py _ _) J J J K1 Zbs (Xu 3 J J pU Ze) J hw) J fun _ _=>Pq (Zff 3 J J pU)<|as_ J J<|Zf<|Za<|Zu ?_
   have hx:tz (o.set (dg U a).length c)=dg U (x+y):=by
    rw [←Kf Qz _ (Lk hoa _ _ (by simp only [U];omega)),←hs]
    congr 1
    conv=>rhs;rw [←Mu Qz a,←Mu Qz b]
    rw [List.take_of_length_le (Nat.le_refl (dg U a).length),Nn U (dg U b) _ hl]at hv
    rw [←hv,←Gi U o _ c (by omega),Nn _ _ _ (by simp;omega)]
   exact Zv (.inl J) hsc _ _ (fun a w hs=>Qj hs Tryz.results171 J) J trivial J (Ps 3 J J pU hx Zj)
theorem Zd9(v w:Value)(x y:Nat)(hx:bl x≤4294967296)(hxy:y≤x):Cal Tryz.prog 173 #[v,w] [dgp v x,dgp w y] false (G:=Value) (fun r=>True) (fun r=>r) (fun r=>[dgp r (x-y)]):=by
 refine Yd Tryz.func173 J Tryz.ntmps173 J K2 ?_
 intro w0 sc hw hsc
 simp only [Zp,Zn]
 have hX:=Md x
 have hY:=Md y
 have hm:=Ok hxy
 refine Zb<|Zg<|as_ J J<|Zf<|Za<|Zb<|Zg<|mv J J<|dt (Zy J J (i:=1) J Zi Xt) J<|tt (Hw (i:=3) (n:=(dg U x).length) (by_:=8) (enc:=Iq) 0 J J J J J (by omega) Xt Tryz.ti149 J pU.cells pU.pos J J (by omega) (by decide) J hw) J fun v _=>as_ J J<|Zf<|Za<|Zb<|Zg<|as_ J J<|Zf<|Za<|Zb<|Zb<|Zg<|mv J J<|dt (Zy J J (i:=1) J Zi Xt) J<|mv J J<|Zf<|Za<|Zl<|Nt [(0,_),(1,_),(5,_),(13,_)] [(0,_),(1,_),(2,_)] (fun(q:Nat×List Nat×Nat)=>[(14,.int .i64 (q.1:Int)),(6,.int .u64 (q.2.2:Int))]) (fun(q:Nat×List Nat×Nat)=>[(3,osl 1 149 Iq v q.2.1)]) (fun(q:Nat×List Nat×Nat)=>(q.1≤(dg U x).length)∧(q.2.1.length=(dg U x).length)∧(∀d∈q.2.1,d<U)∧(q.2.2≤1)∧(val U (q.2.1.take q.1)+val U ((dg U y).take q.1)=val U ((dg U x).take q.1)+q.2.2*U^q.1)) (fun(q:Nat×List Nat×Nat)=>(dg U x).length-q.1) (0,List.replicate ((dg U x).length) 0,0) ⟨by first | omega | (dsimp only<;>omega),by simp,Ow _ Pm,by first | omega | (dsimp only<;>omega),by simp [val]⟩ K6 K4 ?_
 rintro⟨k,o,c⟩ ⟨hk,hol,hoa,hc,hv⟩
 dsimp only at hk hol hoa hc hv
 simp only [List.cons_append,List.nil_append]
 refine Zb<|Zg<|dt (Qb J J J) J<|Zf<|Za<|Zb<|Zq J (fun h93=>?_) (fun h93=>?_)
 ·refine Zk<|Za<|Zb<|Zl<|Zb<|Zg<|mv J J<|as_ J J<|Zf<|Za<|Zb<|Zg<|as_ J J<|Zf<|Za<|Dd [(0,_),(1,_),(5,_),(6,_),(7,_),(13,_),(14,_)] [(0,_),(3,_),(1,_),(2,_)] (fun(_:Unit)=>[(8,.int .u64 ((dg U y).getD k 0:Int))]) (fun(_:Unit)=>[]) (fun(_:Unit)=>True) K7 K4 ?_ ?_
  ·refine Zb<|Zg<|mv J J<|mv J J<|dt (Zy J J (i:=2) J Zi Xt) J<|dt (Qb J J J) J<|Zf<|Za<|Zq J (fun h95=>?_) (fun h95=>?_)
   ·refine Zg<|mv J J<|mv J J<|dt (Yz (ii:=2) J J J J Zi Xt Nz J (by first | omega | (simp only [List.length_set];omega))) J<|dt (Xs (ii:=2) 0 J J J Zi pU (by first | omega | (simp only [List.length_set];omega))) J<|as_ J J<|Zf ?_
    try (have hz:(dg U y).getD k 0=0:=by simp [List.getD,List.getElem?_eq_none (by omega:(dg U y).length≤k)])
    exact Qv () trivial ⟨by first | rfl | (rw [hz];rfl),rfl,rfl,rfl,rfl,rfl,rfl,rfl,trivial⟩ K4
   ·refine Zk ?_
    try (have hz:(dg U y).getD k 0=0:=by simp [List.getD,List.getElem?_eq_none (by omega:(dg U y).length≤k)])
    exact Qv () trivial ⟨by first | rfl | (rw [hz];rfl),rfl,rfl,rfl,rfl,rfl,rfl,rfl,trivial⟩ K4
  ·rintro _ -
   simp only [List.cons_append,List.nil_append]
   exact Zg<|mv J J<|mv J J<|mv J J<|mv J J<|dt (Yz (ii:=1) J J J J Zi Xt Nz J (by first | omega | (simp only [List.length_set];omega))) J<|dt (Xs (ii:=1) 0 J J J Zi pU (by first | omega | (simp only [List.length_set];omega))) J<|mv J J<|mv J J<|dt (d_sub64 J J J J (by omega) Zp6) J<|mv J J<|dt (Yg J J J) J<|dt (Yg J J J) J<|dt (Yz (ii:=3) J J J J (Yn pU) Xt Nz J (by first | omega | (simp only [List.length_set];omega))) J<|tt (Kr (i:=3) (enc:=Iq) _ J J J J J J (by decide) pU (by first | omega | (simp only [List.length_set];omega)) J hw) J fun _ _=>as_ J J<|Zf<|Ob<|Za<|Zg<|dt (Yt J J J ⟨by omega,by omega⟩) J<|mv J J<|Zf<|Xq (k+1,_,_) ⟨by first | omega | (dsimp only<;>omega),by simp;omega,Lk hoa _ _ (Nat.mod_lt _ Pm),brw_le _ _ _,Zuz hc (Ql Pm (Le Qz x) k) (Ql Pm (Le Qz y) k) hv (by omega)⟩ (by first | omega | (dsimp only<;>omega)) K6 K4
 ·refine Yu<|Zs<|Zs<|Ox<|Za<|Zb<|Zg<|mv J J<|tt (Zh (n:=3) (Py _ _) J J J K1 Zbs (Xu 3 J J pU Ze) J hw) J fun _ _=>Pq (Zff 3 J J pU)<|as_ J J<|Zf<|Za<|Zu ?_
  obtain rfl:k=(dg U x).length:=by omega
  have hx:tz o=dg U (x-y):=by
   rw [←Kf Qz _ hoa]
   congr 1
   have hly:(dg U y).length≤(dg U x).length:=by omega
   rw [Nn U o _ (by omega),Nn U (dg U y) _ hly,Nn U (dg U x) _ (Nat.le_refl _),Mu Qz,Mu Qz]at hv
   have h1:=Ze9 Pm o hoa
   rw [hol]at h1
   have h0:c=0∨c=1:=by omega
   rcases h0 with rfl | rfl<;>omega
  exact Zv (.inl J) hsc _ _ (fun a w hs=>Qj hs Tryz.results173 J) J trivial J (Ps 3 J J pU hx Zj)
theorem Bn(v w:Value)(x y:Nat)(hx:bl x≤4294967296)(hy:bl y≤4294967296):Cal Tryz.prog 172 #[v,w] [dgp v x,dgp w y] false (G:=Int) (fun r=>(r<0↔x<y)∧(0<r↔y<x)) (fun r=> .int .i64 r) (fun r=>[]):=by
 refine Yd Tryz.func172 J Tryz.ntmps172 J K2 ?_
 intro w0 sc hw hsc
 simp only [Zp,Zn]
 have hX:=Md x
 have hY:=Md y
 refine Zb<|Zg<|as_ J J<|Zf<|Za<|Zb<|Zb<|Zg<|mv J J<|dt (Zy J J (i:=1) J Zi Xt) J<|mv J J<|dt (Zy J J (i:=2) J Zi Xt) J<|dt (Qd J J J) J<|Zf<|Za<|Zq J (fun h57=>?_) (fun h57=>?_)
 ·exact Zb<|Zg<|mv J J<|dt (Zy J J (i:=1) J Zi Xt) J<|mv J J<|dt (Zy J J (i:=2) J Zi Xt) J<|dt (Qg J J J ⟨by omega,by omega⟩) J<|as_ J J<|Zf<|Za<|Zu<|Xe<|Zv (.inl J) hsc _ _ (fun a w hs=>Qj hs Tryz.results172 J) J ⟨⟨fun h=>Dz Qz (by omega),fun h=>by have:=Ok (Nat.le_of_lt h);omega⟩,⟨fun h=>Dz Qz (by omega),fun h=>by have:=Ok (Nat.le_of_lt h);omega⟩⟩ J Zj
 ·have hlen:(dg U x).length=(dg U y).length:=by omega
  refine Zk<|Za<|Zb<|Zb<|Zg<|mv J J<|dt (Zy J J (i:=1) J Zi Xt) J<|dt (Qg J J J ⟨by omega,by omega⟩) J<|as_ J J<|Zf<|Za<|Zl<|Nt [(0,_),(1,_)] [(0,_),(1,_),(2,_)] (fun(k:Nat)=>[(5,.int .i64 ((k:Int)-1))]) (fun(k:Nat)=>[]) (fun(k:Nat)=>(k≤(dg U x).length)∧((dg U x).drop k=(dg U y).drop k)) (fun(k:Nat)=>k) (dg U x).length ⟨by first | omega | (dsimp only<;>omega),by rw [List.drop_length,hlen,List.drop_length]⟩ K3 K3 ?_
  rintro k ⟨hk,hd⟩
  simp only [List.cons_append,List.nil_append]
  refine Zb<|Zb<|Zg<|mv J J<|dt (Lq J J J) J<|Zf<|Za<|Zq J (fun h60=>?_) (fun h60=>?_)
  ·refine Zk<|Za<|Zb<|Zl<|Zl<|Zb<|Qs (fun _=>False) [(0,0),(1,0),(2,0),(3,0),(4,0),(5,0),(6,0),(7,0),(8,0),(9,0)] (by kernel_rfl) ?_ ?_
   ·kernel_rfl
   refine r0' J J J J (st0 (Ym J J))<|r0' J J J J (st0 (Ym J J))<|r0' J J J J (st0 (Yz (ii:=1) (i:=k-1) J J J J Zi Xt Nz (by omega) (by omega)))<|r0' J J J J (st0 (Xs (ii:=1) 0 J J J Zi pU (by first | omega | (simp only [List.length_set];omega))))<|r0' J J J J (st0 (Ym J J))<|r0' J J J J (st0 (Ym J J))<|r0' J J J J (st0 (Yz (ii:=2) (i:=k-1) J J J J Zi Xt Nz (by omega) (by omega)))<|r0' J J J J (st0 (Xs (ii:=2) 0 J J J Zi pU (by first | omega | (simp only [List.length_set];omega))))<|r0' J J J J (st0 (Qb J J J))<|r0' J J J J (st0 (Kk J J))<|Og<|Za<|Zq J (fun h62=>?_) (fun h62=>?_)
   ·refine Zb<|Zg<|as_ J J<|Zf<|Za<|Zu<|Iw<|Iw<|Xe<|Xe<|Iw<|Xe ?_
    have hlt:=Zn9 Pm (xs:=dg U x) (ys:=dg U y) (Le Qz x) (k:=k-1) (by omega) (by omega) (by rw [show k-1+1=k by omega];exact hd) (by omega)
    rw [Mu Qz,Mu Qz]at hlt
    exact Zv (.inl J) hsc (-1) _ (fun a w hs=>Qj hs Tryz.results172 J) J (by omega) J Zj
   ·refine Zb<|Qs (fun _=>False) [(0,0),(1,0),(2,0),(3,0),(4,0),(5,0),(6,0),(7,0),(8,0),(9,0)] (by kernel_rfl) ?_ ?_
    ·kernel_rfl
    refine r0' J J J J (st0 (Ym J J))<|r0' J J J J (st0 (Ym J J))<|r0' J J J J (st0 (Yz (ii:=1) (i:=k-1) J J J J Zi Xt Nz (by omega) (by omega)))<|r0' J J J J (st0 (Xs (ii:=1) 0 J J J Zi pU (by first | omega | (simp only [List.length_set];omega))))<|r0' J J J J (st0 (Ym J J))<|r0' J J J J (st0 (Ym J J))<|r0' J J J J (st0 (Yz (ii:=2) (i:=k-1) J J J J Zi Xt Nz (by omega) (by omega)))<|r0' J J J J (st0 (Xs (ii:=2) 0 J J J Zi pU (by first | omega | (simp only [List.length_set];omega))))<|r0' J J J J (st0 (On J J J))<|r0' J J J J (st0 (Kk J J))<|Og<|Za<|Zq J (fun h64=>?_) (fun h64=>?_)
    ·refine Zb<|Zg<|as_ J J<|Zf<|Za<|Zu<|Iw<|Iw<|Xe<|Xe<|Iw<|Xe ?_
     have hlt:=Zn9 Pm (xs:=dg U y) (ys:=dg U x) (Le Qz y) (k:=k-1) (by omega) (by omega) (by rw [show k-1+1=k by omega];exact hd.symm) (by omega)
     rw [Mu Qz,Mu Qz]at hlt
     exact Zv (.inl J) hsc 1 _ (fun a w hs=>Qj hs Tryz.results172 J) J (by omega) J Zj
    ·exact Zk<|Ob<|Ob<|Za<|Zg<|mv J J<|dt (Qg J J J ⟨by omega,by omega⟩) J<|as_ J J<|Zf<|Xq (k-1) ⟨by first | omega | (dsimp only<;>omega),by have:=Zb6 (xs:=dg U x) (ys:=dg U y) (k:=k-1) (by omega) (by omega) (by rw [show k-1+1=k by omega];exact hd) (by omega);exact this⟩ (by first | omega | (dsimp only<;>omega)) ⟨by rw [show(((k-1:Nat):Int)-1)=(k:Int)-1-1 by omega];rfl,rfl,rfl,trivial⟩ K3
  ·refine Yu<|Zs<|Zs<|Ox<|Za<|Zb<|Zg<|as_ J J<|Zf<|Za<|Zu ?_
   obtain rfl:k=0:=by omega
   have heq:x=y:=(Zeg Qz).1 (by simpa using hd)
   exact Zv (.inl J) hsc 0 _ (fun a w hs=>Qj hs Tryz.results172 J) J (by omega) J Zj
theorem Zxh(x y:Nat)(hx:x<U)(hy:y<U):Cal Tryz.prog 199 #[.int .u64 (x:Int),.int .u64 (y:Int)] [] false (G:=Unit) (fun _=>True) (fun _=> .tuple #[.int .u64 ((x*y/U:Nat):Int),.int .u64 ((x*y%U:Nat):Int)]) (fun _=>[]):=by
 refine Yd Tryz.func199 J Tryz.ntmps199 J trivial ?_
 intro w0 sc hw hsc
 simp only [Zp,Zn]
 simp only [U]at hx hy
 refine Zb<|Zg<|as_ J J<|as_ J J<|Zf<|Za<|Zb<|Zg<|mv J J<|dt (Zpz J J J hx (by decide)) J<|as_ J J<|Zf<|Za<|Zb<|Zg<|mv J J<|dt (Gj (n:=32) (n':=4294967296) J J J J J) J<|as_ J J<|Zf<|Za<|Zb<|Zg<|mv J J<|dt (Zpz J J J hy (by decide)) J<|as_ J J<|Zf<|Za<|Zb<|Zg<|mv J J<|dt (Gj (n:=32) (n':=4294967296) J J J J J) J<|as_ J J<|Zf<|Za<|Zb<|Zg<|mv J J<|mv J J<|dt (Cx J J J) J<|as_ J J<|Zf<|Za<|Zb<|Zg<|mv J J<|mv J J<|dt (Cx J J J) J<|mv J J<|dt (Gj (n:=32) (n':=4294967296) J J J J J) J<|dt (Bh J J J) J<|as_ J J<|Zf<|Za<|Zb<|Zg<|mv J J<|dt (Zpz J J J (Nat.mod_lt _ Pm) (by decide)) J<|as_ J J<|Zf<|Za<|Zb<|Zg<|mv J J<|dt (Gj (n:=32) (n':=4294967296) J J J J J) J<|as_ J J<|Zf<|Za<|Zb<|Zg<|mv J J<|mv J J<|mv J J<|dt (Cx J J J) J<|dt (Bh J J J) J<|as_ J J<|Zf<|Za<|Zb<|Zg<|mv J J<|mv J J<|dt (Cx J J J) J<|mv J J<|dt (Bh J J J) J<|mv J J<|dt (Gj (n:=32) (n':=4294967296) J J J J J) J<|dt (Bh J J J) J<|as_ J J<|Zf<|Za<|Zb<|Zg<|mv J J<|mv J J<|dt (Cx J J J) J<|as_ J J<|Zf<|Za<|Zu ?_
 exact Zv (.inl J) hsc () _ (fun a w hs=>Ni hs Tryz.results199 J J) (by rw [Zwb hx hy _ _ rfl rfl]) trivial J Zj
theorem Zrv(v w:Value)(x y:Nat)(hx:bl x≤4294967296)(hy:bl y≤4294967296):Cal Tryz.prog 194 #[v,w] [dgp v x,dgp w y] false (G:=Value) (fun r=>True) (fun r=>r) (fun r=>[dgp r (x*y)]):=by
 refine Yd Tryz.func194 J Tryz.ntmps194 J K2 ?_
 intro w0 sc hw hsc
 simp only [Zp,Zn]
 have hX:=Md x
 have hY:=Md y
 refine Zb<|Zg<|as_ J J<|Zf<|Za<|Zb<|Zg<|mv J J<|dt (Zy J J (i:=1) J Zi Xt) J<|mv J J<|dt (Zy J J (i:=2) J Zi Xt) J<|dt (Yt J J J ⟨by omega,by omega⟩) J<|tt (Hw (i:=3) (n:=(dg U x).length+(dg U y).length) (by_:=8) (enc:=Iq) 0 J J J J J (by omega) Xt Tryz.ti149 J pU.cells pU.pos J J (by omega) (by decide) J hw) J fun v _=>as_ J J<|Zf<|Za<|Zb<|Zb<|Zg<|mv J J<|dt (Zy J J (i:=1) J Zi Xt) J<|mv J J<|Zf<|Za<|Zl<|Nt [(1,_),(5,_),(20,_),(21,_)] [(0,_),(1,_),(2,_)] (fun(q:Nat×List Nat)=>[(22,.int .i64 (q.1:Int))]) (fun(q:Nat×List Nat)=>[(3,osl 1 149 Iq v q.2)]) (fun(q:Nat×List Nat)=>(q.1≤(dg U x).length)∧(q.2.length=(dg U x).length+(dg U y).length)∧(∀d∈q.2,d<U)∧(∀j,q.1+(dg U y).length≤j→q.2.getD j 0=0)∧(val U (q.2.take (q.1+(dg U y).length))=val U ((dg U x).take q.1)*y)) (fun(q:Nat×List Nat)=>(dg U x).length-q.1) (0,List.replicate ((dg U x).length+(dg U y).length) 0) ⟨by first | omega | (dsimp only<;>omega),by simp,Ow _ Pm,fun j _=>Lh _ j,by simp [val,List.take_replicate,Ks]⟩ K5 K4 ?_
 rintro⟨i,o⟩ ⟨hi,hol,hoa,hz,hv⟩
 dsimp only at hi hol hoa hz hv
 simp only [List.cons_append,List.nil_append]
 refine Zb<|Zg<|dt (Qb J J J) J<|Zf<|Za<|Zb<|Zq J (fun h106=>?_) (fun h106=>?_)
 ·refine Zk<|Za<|Zb<|Zl<|Zb<|Zg<|mv J J<|dt (Yz (ii:=1) J J J J Zi Xt Nz J (by first | omega | (simp only [List.length_set];omega))) J<|dt (Xs (ii:=1) 0 J J J Zi pU (by first | omega | (simp only [List.length_set];omega))) J<|as_ J J<|as_ J J<|Zf<|Za<|Zb<|Zg<|as_ J J<|Zf<|Za<|Zb<|Zb<|Zg<|mv J J<|dt (Zy J J (i:=2) J Zi Xt) J<|mv J J<|Zf<|Za<|Zl<|Nt [(1,_),(5,_),(6,_),(7,_),(20,_),(21,_),(22,_),(27,_),(28,_)] [(0,_),(1,_),(2,_)] (fun(q:Nat×List Nat×Nat)=>[(29,.int .i64 (q.1:Int)),(8,.int .u64 (q.2.2:Int))]) (fun(q:Nat×List Nat×Nat)=>[(3,osl 1 149 Iq v q.2.1)]) (fun(q:Nat×List Nat×Nat)=>(q.1≤(dg U y).length)∧(q.2.1.length=(dg U x).length+(dg U y).length)∧(∀d∈q.2.1,d<U)∧(∀j,i+(dg U y).length≤j→q.2.1.getD j 0=0)∧(q.2.2<U)∧(val U (q.2.1.take (i+(dg U y).length))+q.2.2*U^(i+q.1)=val U ((dg U x).take i)*y+(dg U x).getD i 0*U^i*val U ((dg U y).take q.1))) (fun(q:Nat×List Nat×Nat)=>(dg U y).length-q.1) (0,o,0) ⟨by first | omega | (dsimp only<;>omega),hol,hoa,hz,Pm,by rw [hv];simp [val]⟩ K11 K4 ?_
  rintro⟨k,p,c⟩ ⟨hk,hpl,hpa,hpz,hcU,hpv⟩
  dsimp only at hk hpl hpa hpz hcU hpv
  simp only [List.cons_append,List.nil_append]
  have hdig:=Zr0 (Ql Pm (Le Qz x) i) (Ql Pm (Le Qz y) k) (Ql Pm hpa (i+k)) hcU
  refine Zb<|Zg<|dt (Qb J J J) J<|Zf<|Za<|Zb<|Zq J (fun h108=>?_) (fun h108=>?_)
  ·refine Zk<|Za<|Zb<|Zl<|Zb<|Zg<|mv J J<|dt (Yz (ii:=2) J J J J Zi Xt Nz J (by first | omega | (simp only [List.length_set];omega))) J<|dt (Xs (ii:=2) 0 J J J Zi pU (by first | omega | (simp only [List.length_set];omega))) J<|as_ J J<|as_ J J<|Zf<|Za<|Zb<|Zg<|mv J J<|mv J J<|tt (Zh (n:=3) (Zxh _ _ (Ql Pm (Le Qz _) _) (Ql Pm (Le Qz _) _)) J J J K2 cF199 Ze J hw) J fun _ _=>mv J J<|dt (Yg J J J) J<|dt (Yg J J J) J<|as_ J J<|as_ J J<|Zf<|Za<|Zb<|Zg<|mv J J<|mv J J<|mv J J<|mv J J<|dt (Yt J J J ⟨by omega,by omega⟩) J<|dt (Yz (ii:=3) (i:=i+k) J J J J (Yn pU) Xt Nz (by omega) (by omega)) J<|dt (Xs (ii:=3) 0 J J J (Yn pU) pU (by first | omega | (simp only [List.length_set];omega))) J<|dt (Zlv (c:=0) J J J J (by omega) Zes) J<|mv J J<|dt (Yg J J J) J<|dt (Yg J J J) J<|as_ J J<|as_ J J<|Zf<|Za<|Zb<|Zg<|mv J J<|mv J J<|dt (Bh J J J) J<|as_ J J<|Zf<|Za<|Zb<|Zg<|mv J J<|mv J J<|dt (Zlv (c:=0) J J J J (by omega) Zes) J<|mv J J<|dt (Yg J J J) J<|dt (Yg J J J) J<|as_ J J<|as_ J J<|Zf<|Za<|Zg<|mv J J<|mv J J<|mv J J<|dt (Yt J J J ⟨by omega,by omega⟩) J<|mv J J<|mv J J<|mv J J ?_
   exact dt (Bh J J J) J<|dt (Yz (ii:=3) (i:=i+k) J J J J (Yn pU) Xt Nz (by omega) (by omega)) J<|tt (Kr (i:=3) (enc:=Iq) _ J J J J J J (by decide) pU (by first | omega | (simp only [List.length_set];omega)) J hw) J fun _ _=>as_ J J<|Zf<|Ob<|Za<|Zg<|dt (Yt J J J ⟨by omega,by omega⟩) J<|mv J J<|Zf<|Xq (k+1,_,_) ⟨by first | omega | (dsimp only<;>omega),by simp;omega,Lk hpa _ _ (Nat.mod_lt _ Pm),fun j hj=>by rw [Nd _ _ _ _ _ (by omega),if_neg (by omega)];exact hpz j hj,hdig.2,Zwa hpv (by omega) (by omega) hdig.1⟩ (by first | omega | (dsimp only<;>omega)) K11 K4
  ·refine Yu<|Zs<|Zs<|Ox<|Za ?_
   obtain rfl:k=(dg U y).length:=by omega
   have hfin:=hpv
   rw [List.take_of_length_le (Nat.le_refl (dg U y).length),Mu Qz]at hfin
   exact Zg<|mv J J<|mv J J<|mv J J<|dt (Zy J J (i:=2) J Zi Xt) J<|dt (Yt J J J ⟨by omega,by omega⟩) J<|mv J J<|dt (Yz (ii:=3) (i:=i+(dg U y).length) J J J J (Yn pU) Xt Nz (by omega) (by omega)) J<|tt (Kr (i:=3) (enc:=Iq) _ J J J J J J (by decide) pU (by first | omega | (simp only [List.length_set];omega)) J hw) J fun _ _=>Zf<|Ob<|Za<|Zg<|dt (Yt J J J ⟨by omega,by omega⟩) J<|mv J J<|Zf<|Xq (i+1,_) ⟨by first | omega | (dsimp only<;>omega),by simp;omega,Lk hpa _ _ hcU,fun j hj=>by rw [Nd _ _ _ _ _ (by omega),if_neg (by omega)];exact hpz j (by omega),by dsimp only;rw [show i+1+(dg U y).length=i+(dg U y).length+1 by omega,Gi _ _ _ _ (by omega),Qr,Nat.add_mul,←hfin]⟩ (by first | omega | (dsimp only<;>omega)) K5 K4
 ·refine Yu<|Zs<|Zs<|Ox<|Za<|Zb<|Zg<|mv J J<|tt (Zh (n:=3) (Py _ _) J J J K1 Zbs (Xu 3 J J pU Ze) J hw) J fun _ _=>Pq (Zff 3 J J pU)<|as_ J J<|Zf<|Za<|Zu ?_
  obtain rfl:i=(dg U x).length:=by omega
  have hx:tz o=dg U (x*y):=by
   rw [←Kf Qz _ hoa]
   congr 1
   rw [Nn U o _ (by omega),List.take_of_length_le (Nat.le_refl _),Mu Qz]at hv
   exact hv
  exact Zv (.inl J) hsc _ _ (fun a w hs=>Qj hs Tryz.results194 J) J trivial J (Ps 3 J J pU hx Zj)
set_option maxHeartbeats 1000000 in
theorem Zxi(x:Nat)(hx:x<U):Cal Tryz.prog 198 #[.int .u64 (x:Int)] [] false (G:=Unit) (fun _=>True) (fun _=> .int .i64 (bl x:Int)) (fun _=>[]):=by
 refine Yd Tryz.func198 J Tryz.ntmps198 J trivial ?_
 intro w0 sc hw hsc
 simp only [Zp,Zn]
 simp only [U]at hx
 have e32:=Lz x 32
 have e16:=Lz x 16
 have e8:=Lz x 8
 have e24:=Lz x 24
 have e40:=Lz x 40
 have e48:=Lz x 48
 have e56:=Lz x 56
 have f32:=Zch 32 x
 have f16:=Zch 16 x
 have f8:=Zch 8 x
 have f24:=Zch 24 x
 have f40:=Zch 40 x
 have f48:=Zch 48 x
 have f56:=Zch 56 x
 have d1:=Nat.div_div_eq_div_mul x (2^32) (2^16)
 have d2:=Nat.div_div_eq_div_mul x (2^32) (2^8)
 have d3:=Nat.div_div_eq_div_mul x (2^16) (2^8)
 have d4:=Nat.div_div_eq_div_mul (x/2^32) (2^16) (2^8)
 have d5:=Nat.div_div_eq_div_mul x (2^32) (2^16*2^8)
 simp only [Nat.reducePow,Nat.reduceMul]at *
 refine Zb<|Zg<|as_ J J<|Zf<|Za<|Zb<|Zb<|Zg<|mv J J<|dt (Lq J J J) J<|Zf<|Za<|Zq J (fun h338=>?_) (fun h338=>?_)
 ·refine Zb<|Zg<|mv J J<|dt (Gj (n:=32) (n':=4294967296) J J J J J) J<|as_ J J<|Zf<|Za<|Zg<|as_ J J<|Zf<|Za<|Zb<|Zb<|Zg<|mv J J<|dt (Lq J J J) J<|Zf<|Za<|Zq J (fun h342=>?_) (fun h342=>?_)
  ·refine Zb<|Zg<|mv J J<|dt (Gj (n:=16) (n':=65536) J J J J J) J<|as_ J J<|Zf<|Za<|Zg<|mv J J<|dt (Yt J J J ⟨by omega,by omega⟩) J<|as_ J J<|Zf<|Za<|Zb<|Zb<|Zg<|mv J J<|dt (Lq J J J) J<|Zf<|Za<|Zq J (fun h346=>?_) (fun h346=>?_)
   ·exact Zb<|Zg<|mv J J<|dt (Gj (n:=8) (n':=256) J J J J J) J<|as_ J J<|Zf<|Za<|Zg<|mv J J<|dt (Yt J J J ⟨by omega,by omega⟩) J<|as_ J J<|Zf<|Za<|Zb<|Zg<|mv J J<|mv J J<|dt (Ze5 J J Zdc uT5) J<|dt (Zju J J J uT9 J (by omega) (by decide) (by decide +kernel)) J<|dt (Bf J J uT5 uT3 (Du _)) J<|dt (Yt J J J (Gq _ (by omega) (by omega))) J<|as_ J J<|Zf<|Za<|Zu<|Zv (.inl J) hsc () _ (fun a w hs=>Qj hs Tryz.results198 J) (Ds (n:=x) (by omega) (by first | omega | (simp only [Nat.div_div_eq_div_mul,Nat.reduceMul,e32,e16,e8,e24,e40,e48,e56];omega))).symm trivial J Zj
   ·exact Zk<|Za<|Zb<|Zg<|mv J J<|mv J J<|dt (Ze5 J J Zdc uT5) J<|dt (Zju J J J uT9 J (by omega) (by decide) (by decide +kernel)) J<|dt (Bf J J uT5 uT3 (Du _)) J<|dt (Yt J J J (Gq _ (by omega) (by omega))) J<|as_ J J<|Zf<|Za<|Zu<|Zv (.inl J) hsc () _ (fun a w hs=>Qj hs Tryz.results198 J) (Ds (n:=x) (by omega) (by first | omega | (simp only [Nat.div_div_eq_div_mul,Nat.reduceMul,e32,e16,e8,e24,e40,e48,e56];omega))).symm trivial J Zj
  ·refine Zk<|Za<|Zb<|Zb<|Zg<|mv J J<|dt (Lq J J J) J<|Zf<|Za<|Zq J (fun h346_2=>?_) (fun h346_2=>?_)
   ·exact Zb<|Zg<|mv J J<|dt (Gj (n:=8) (n':=256) J J J J J) J<|as_ J J<|Zf<|Za<|Zg<|mv J J<|dt (Yt J J J ⟨by omega,by omega⟩) J<|as_ J J<|Zf<|Za<|Zb<|Zg<|mv J J<|mv J J<|dt (Ze5 J J Zdc uT5) J<|dt (Zju J J J uT9 J (by omega) (by decide) (by decide +kernel)) J<|dt (Bf J J uT5 uT3 (Du _)) J<|dt (Yt J J J (Gq _ (by omega) (by omega))) J<|as_ J J<|Zf<|Za<|Zu<|Zv (.inl J) hsc () _ (fun a w hs=>Qj hs Tryz.results198 J) (Ds (n:=x) (by omega) (by first | omega | (simp only [Nat.div_div_eq_div_mul,Nat.reduceMul,e32,e16,e8,e24,e40,e48,e56];omega))).symm trivial J Zj
   ·exact Zk<|Za<|Zb<|Zg<|mv J J<|mv J J<|dt (Ze5 J J Zdc uT5) J<|dt (Zju J J J uT9 J (by omega) (by decide) (by decide +kernel)) J<|dt (Bf J J uT5 uT3 (Du _)) J<|dt (Yt J J J (Gq _ (by omega) (by omega))) J<|as_ J J<|Zf<|Za<|Zu<|Zv (.inl J) hsc () _ (fun a w hs=>Qj hs Tryz.results198 J) (Ds (n:=x) (by omega) (by first | omega | (simp only [Nat.div_div_eq_div_mul,Nat.reduceMul,e32,e16,e8,e24,e40,e48,e56];omega))).symm trivial J Zj
 ·refine Zk<|Za<|Zb<|Zb<|Zg<|mv J J<|dt (Lq J J J) J<|Zf<|Za<|Zq J (fun h342_2=>?_) (fun h342_2=>?_)
  ·refine Zb<|Zg<|mv J J<|dt (Gj (n:=16) (n':=65536) J J J J J) J<|as_ J J<|Zf<|Za<|Zg<|mv J J<|dt (Yt J J J ⟨by omega,by omega⟩) J<|as_ J J<|Zf<|Za<|Zb<|Zb<|Zg<|mv J J<|dt (Lq J J J) J<|Zf<|Za<|Zq J (fun h346_3=>?_) (fun h346_3=>?_)
   ·exact Zb<|Zg<|mv J J<|dt (Gj (n:=8) (n':=256) J J J J J) J<|as_ J J<|Zf<|Za<|Zg<|mv J J<|dt (Yt J J J ⟨by omega,by omega⟩) J<|as_ J J<|Zf<|Za<|Zb<|Zg<|mv J J<|mv J J<|dt (Ze5 J J Zdc uT5) J<|dt (Zju J J J uT9 J (by omega) (by decide) (by decide +kernel)) J<|dt (Bf J J uT5 uT3 (Du _)) J<|dt (Yt J J J (Gq _ (by omega) (by omega))) J<|as_ J J<|Zf<|Za<|Zu<|Zv (.inl J) hsc () _ (fun a w hs=>Qj hs Tryz.results198 J) (Ds (n:=x) (by omega) (by first | omega | (simp only [Nat.div_div_eq_div_mul,Nat.reduceMul,e32,e16,e8,e24,e40,e48,e56];omega))).symm trivial J Zj
   ·exact Zk<|Za<|Zb<|Zg<|mv J J<|mv J J<|dt (Ze5 J J Zdc uT5) J<|dt (Zju J J J uT9 J (by omega) (by decide) (by decide +kernel)) J<|dt (Bf J J uT5 uT3 (Du _)) J<|dt (Yt J J J (Gq _ (by omega) (by omega))) J<|as_ J J<|Zf<|Za<|Zu<|Zv (.inl J) hsc () _ (fun a w hs=>Qj hs Tryz.results198 J) (Ds (n:=x) (by omega) (by first | omega | (simp only [Nat.div_div_eq_div_mul,Nat.reduceMul,e32,e16,e8,e24,e40,e48,e56];omega))).symm trivial J Zj
  ·refine Zk<|Za<|Zb<|Zb<|Zg<|mv J J<|dt (Lq J J J) J<|Zf<|Za<|Zq J (fun h346_4=>?_) (fun h346_4=>?_)
   ·exact Zb<|Zg<|mv J J<|dt (Gj (n:=8) (n':=256) J J J J J) J<|as_ J J<|Zf<|Za<|Zg<|mv J J<|dt (Yt J J J ⟨by omega,by omega⟩) J<|as_ J J<|Zf<|Za<|Zb<|Zg<|mv J J<|mv J J<|dt (Ze5 J J Zdc uT5) J<|dt (Zju J J J uT9 J (by omega) (by decide) (by decide +kernel)) J<|dt (Bf J J uT5 uT3 (Du _)) J<|dt (Yt J J J (Gq _ (by omega) (by omega))) J<|as_ J J<|Zf<|Za<|Zu<|Zv (.inl J) hsc () _ (fun a w hs=>Qj hs Tryz.results198 J) (Ds (n:=x) (by omega) (by first | omega | (simp only [Nat.div_div_eq_div_mul,Nat.reduceMul,e32,e16,e8,e24,e40,e48,e56];omega))).symm trivial J Zj
   ·exact Zk<|Za<|Zb<|Zg<|mv J J<|mv J J<|dt (Ze5 J J Zdc uT5) J<|dt (Zju J J J uT9 J (by omega) (by decide) (by decide +kernel)) J<|dt (Bf J J uT5 uT3 (Du _)) J<|dt (Yt J J J (Gq _ (by omega) (by omega))) J<|as_ J J<|Zf<|Za<|Zu<|Zv (.inl J) hsc () _ (fun a w hs=>Qj hs Tryz.results198 J) (Ds (n:=x) (by omega) (by first | omega | (simp only [Nat.div_div_eq_div_mul,Nat.reduceMul,e32,e16,e8,e24,e40,e48,e56];omega))).symm trivial J Zj
theorem Zl6(x:Nat)(hx:x<U):Cal Tryz.prog 189 #[.int .u64 (x:Int)] [] false (G:=Unit) (fun _=>True) (fun _=> .int .i64 ((64-bl x:Nat):Int)) (fun _=>[]):=by
 refine Yd Tryz.func189 J Tryz.ntmps189 J trivial ?_
 intro w0 sc hw hsc
 simp only [Zp,Zn]
 have hb:bl x≤64:=(Mf 64 x).2 hx
 exact Zb<|Zg<|as_ J J<|Zf<|Za<|Zb<|Zg<|mv J J<|tt (Zh (n:=0) (Zxi _ hx) J J J K1 cF198 Ze J hw) J fun _ _=>dt (Qg J J J ⟨by omega,by omega⟩) J<|as_ J J<|Zf<|Za<|Zu<|Zv (.inl J) hsc () _ (fun a w hs=>Qj hs Tryz.results189 J) (by congr 1;omega) trivial J Zj
theorem Zhn(v:Value)(x:Nat)(hx:bl x≤1099511627776):Cal Tryz.prog 168 #[v] [dgp v x] false (G:=Unit) (fun _=>True) (fun _=> .int .i64 (bl x:Int)) (fun _=>[]):=by
 refine Yd Tryz.func168 J Tryz.ntmps168 J K1 ?_
 intro w0 sc hw hsc
 simp only [Zp,Zn]
 have hX:=Md x
 refine Zb<|Zg<|as_ J J<|Zf<|Za<|Zb<|Zb<|Zg<|mv J J<|dt (Zy J J (i:=1) J Zi Xt) J<|dt (Pi J J J) J<|Zf<|Za<|Zq J (fun h39=>?_) (fun h39=>?_)
 ·refine Zb<|Zg<|as_ J J<|Zf<|Za<|Zu<|Xe ?_
  have h0:x=0:=(Pe Qz x).1 (by omega)
  exact Zv (.inl J) hsc () _ (fun a w hs=>Qj hs Tryz.results168 J) (by rw [h0];rfl) trivial J Zj
 ·have hp:0<x:=by rcases Nat.eq_zero_or_pos x with rfl | h;(simp [Ky]at h39);exact h
  obtain⟨z1,z2,z3,z4⟩:=Zqf hp
  exact Zk<|Za<|Zb<|Zg<|mv J J<|dt (Zy J J (i:=1) J Zi Xt) J<|dt (Gz J J J ⟨by omega,by omega⟩) J<|mv J J<|mv J J<|dt (Zy J J (i:=1) J Zi Xt) J<|dt (Qg J J J ⟨by omega,by omega⟩) J<|dt (Yz (ii:=1) (i:=(dg U x).length-1) J J J J Zi Xt Nz (by omega) (by omega)) J<|dt (Xs (ii:=1) 0 J J J Zi pU (by first | omega | (simp only [List.length_set];omega))) J<|tt (Zh (n:=1) (Zl6 _ (Ql Pm (Le Qz _) _)) J J J K1 cF189 Ze J hw) J fun _ _=>dt (Qg J J J ⟨by omega,by omega⟩) J<|as_ J J<|Zf<|Za<|Zu<|Zv (.inl J) hsc () _ (fun a w hs=>Qj hs Tryz.results168 J) (by congr 1;omega) trivial J Zj
end Go.Sky

