/- rules, arithmetic and contracts: part 4
   Proved without conditions of its own: each theorem bears its own. -/
import Derived.Test.YtcmiiammekgooaaGreatSl02
import Derived.Test.YtcmiiammekgooaaGreatProg
import Derived.Test.YtcmiiammekgooaaGreatRows
import Derived.WalkKit
import Derived.ProofKit
import Derived.OpenShut
import Derived.ShutString
import Derived.ChangeOld
import Derived.Below
import Derived.Deep.Slices
import Derived.Lib.SmallJoins
import Derived.Test.YtcmiiammekgooaaGreatSl01
set_option linter.all false
namespace Go.Sky
open Go.Proofs
theorem pU:Enc Tryz.prog 149 1 Iz:=Enc.flat Tryz.sizeOf149 Tryz.isAgg149 (fun _=>rfl)
theorem pB:Enc Tryz.prog 5 1 Zqa:=Enc.flat Tryz.sizeOf5 Tryz.isAgg5 (fun _=>rfl)
theorem pN:Enc Tryz.prog 3 1 Ds:=Enc.flat Tryz.sizeOf3 Tryz.isAgg3 (fun _=>rfl)
theorem pZ:Enc Tryz.prog 3 1 Ay:=Enc.flat Tryz.sizeOf3 Tryz.isAgg3 (fun _=>rfl)
theorem Zff(args:Array Value)(w:World):(callFunc 190 args).run Tryz.prog w=((add64Entry args).run Tryz.prog w).andThen fun v w'=> .ok (.value v) w':=
 run_callFunc_extern Tryz.func190 (by kernel_rfl) (by kernel_rfl) (by kernel_rfl) (by kernel_rfl) args w
theorem Zqv(args:Array Value)(w:World):(callFunc 191 args).run Tryz.prog w=((Zbw args).run Tryz.prog w).andThen fun v w'=> .ok (.value v) w':=
 run_callFunc_extern Tryz.func191 (by kernel_rfl) (by kernel_rfl) (by kernel_rfl) (by kernel_rfl) args w
end Go.Sky
theorem Go.Proofs.Tryz.ti149:Go.Proofs.Tryz.prog.info? 149=some Go.Proofs.Tryz.t149:=by kernel_rfl
namespace Go.Sky
open Go.Proofs
end Go.Sky
theorem Go.Proofs.Tryz.ti5:Go.Proofs.Tryz.prog.info? 5=some Go.Proofs.Tryz.t5:=by kernel_rfl
namespace Go.Sky
open Go.Proofs
end Go.Sky
theorem Go.Proofs.Tryz.ti3:Go.Proofs.Tryz.prog.info? 3=some Go.Proofs.Tryz.t3:=by kernel_rfl
namespace Go.Sky
open Go.Proofs
theorem pW:Enc Tryz.prog 31 2 Zie:=Enc.agg (by decide) Tryz.sizeOf31 Tryz.isAgg31 (fun x=>⟨[.bool x.1,.string x.2],rfl,rfl,by simp [Value.oneCell']⟩)
theorem pV:Enc Tryz.prog 31 2 wv:=Enc.agg (by decide) Tryz.sizeOf31 Tryz.isAgg31 (fun x=>⟨[.bool (decide (x<0)),.string (Qq x.natAbs)],rfl,rfl,by simp [Value.oneCell']⟩)
theorem pI:Enc Tryz.prog 48 2 Es:=Enc.agg (by decide) Tryz.sizeOf48 Tryz.isAgg48 (fun x=>⟨[.bool (decide (x.1<0)),svv x.2],rfl,rfl,by simp [Value.oneCell']⟩)
theorem pS{α:Type} : Enc Tryz.prog 23 1 (Bh (α:=α)):=Enc.flat Tryz.sizeOf23 Tryz.isAgg23 (fun _=>rfl)
theorem pQ:Enc Tryz.prog 41 4 rq:=Enc.agg (by decide) Tryz.sizeOf41 Tryz.isAgg41 (fun x=>⟨[.bool (decide (x.1<0)),.string (Qq x.1.natAbs),.bool (decide (x.2<0)),.string (Qq x.2.natAbs)],rfl,rfl,by simp [Value.oneCell']⟩)
theorem sh31:Tryz.prog.stoodInHeld 31=false:=by kernel_rfl
theorem sh41:Tryz.prog.stoodInHeld 41=false:=by kernel_rfl
theorem eg31:Tryz.prog.eqGuardType Tryz.prog.depth 31=false:=by kernel_rfl
theorem in31(d:Nat)(w:World)(a:Bool)(s:ByteArray)(b:Bool)(t:ByteArray):(Op.equalIn (d+2) 31 (.agg #[.bool a,.string s]) (.agg #[.bool b,.string t])).run Tryz.prog w= .ok (eqW a s b t) w:=by
 have hu:Tryz.prog.underlying 31=some (.struct (Tryz.prog.fieldsOf 31)):=by unfold Program.fieldsOf;rw [Tryz.underlying31]
 rw [run_equalIn_agg w (d+1) 31 _ _ hu sh31]
 unfold Program.fieldsOf
 rw [Tryz.underlying31]
 simp [Op.eqFields,part,Tryz.isAgg4,Tryz.isAgg9,run_equalIn_bool' _ _ _ _ _ Tryz.underlying4,run_equalIn_string _ _ _ _ _ Tryz.underlying9]
 unfold eqW
 cases hab:(a == b)
 ·simp_all
 ·by_cases h:s.toList=t.toList<;>simp_all
theorem eql31(w:World)(a:Bool)(s:ByteArray)(b:Bool)(t:ByteArray):(binOp .eql 31 (.agg #[.bool a,.string s]) (.agg #[.bool b,.string t])).run Tryz.prog w= .ok (.bool (eqW a s b t)) w:=by
 rw [run_eql_struct,in31];rfl
theorem Zxa(w:World)(a:Bool)(s:ByteArray)(b:Bool)(t:ByteArray):(binOp .neq 31 (.agg #[.bool a,.string s]) (.agg #[.bool b,.string t])).run Tryz.prog w= .ok (.bool (!eqW a s b t)) w:=by
 rw [run_neq_struct,in31];rfl
theorem in41(d:Nat)(w:World)(a:Bool)(s:ByteArray)(a2:Bool)(s2:ByteArray)(b:Bool)(t:ByteArray)(b2:Bool)(t2:ByteArray):(Op.equalIn (d+3) 41 (.agg #[.bool a,.string s,.bool a2,.string s2]) (.agg #[.bool b,.string t,.bool b2,.string t2])).run Tryz.prog w= .ok (eqW a s b t && eqW a2 s2 b2 t2) w:=by
 have hu:Tryz.prog.underlying 41=some (.struct (Tryz.prog.fieldsOf 41)):=by unfold Program.fieldsOf;rw [Tryz.underlying41]
 rw [run_equalIn_agg w (d+2) 41 _ _ hu sh41]
 unfold Program.fieldsOf
 rw [Tryz.underlying41]
 simp [Op.eqFields,part,Tryz.isAgg31,Tryz.sizeOf31,in31]
 cases hab:eqW a s b t<;>cases hab2:eqW a2 s2 b2 t2<;>simp_all
theorem sh62:Tryz.prog.stoodInHeld 62=false:=by kernel_rfl
theorem eg62:Tryz.prog.eqGuardType Tryz.prog.depth 62=false:=by kernel_rfl
theorem in62(d:Nat)(w:World)(a:Bool)(s:ByteArray)(a2:Bool)(s2:ByteArray)(a3:Bool)(s3:ByteArray)(a4:Bool)(s4:ByteArray)(b:Bool)(t:ByteArray)(b2:Bool)(t2:ByteArray)(b3:Bool)(t3:ByteArray)(b4:Bool)(t4:ByteArray):(Op.equalIn (d+4) 62 (.agg #[.bool a,.string s,.bool a2,.string s2,.bool a3,.string s3,.bool a4,.string s4]) (.agg #[.bool b,.string t,.bool b2,.string t2,.bool b3,.string t3,.bool b4,.string t4])).run Tryz.prog w= .ok (eqW a s b t && eqW a2 s2 b2 t2 && (eqW a3 s3 b3 t3 && eqW a4 s4 b4 t4)) w:=by
 have hu:Tryz.prog.underlying 62=some (.struct (Tryz.prog.fieldsOf 62)):=by unfold Program.fieldsOf;rw [Tryz.underlying62]
 rw [run_equalIn_agg w (d+3) 62 _ _ hu sh62]
 unfold Program.fieldsOf
 rw [Tryz.underlying62]
 simp [Op.eqFields,part,Tryz.isAgg41,Tryz.sizeOf41,in41]
 cases hab:eqW a s b t && eqW a2 s2 b2 t2<;>cases hab2:eqW a3 s3 b3 t3 && eqW a4 s4 b4 t4<;>simp_all
theorem neq62(w:World)(a:Bool)(s:ByteArray)(a2:Bool)(s2:ByteArray)(a3:Bool)(s3:ByteArray)(a4:Bool)(s4:ByteArray)(b:Bool)(t:ByteArray)(b2:Bool)(t2:ByteArray)(b3:Bool)(t3:ByteArray)(b4:Bool)(t4:ByteArray):(binOp .neq 62 (.agg #[.bool a,.string s,.bool a2,.string s2,.bool a3,.string s3,.bool a4,.string s4]) (.agg #[.bool b,.string t,.bool b2,.string t2,.bool b3,.string t3,.bool b4,.string t4])).run Tryz.prog w= .ok (.bool (!(eqW a s b t && eqW a2 s2 b2 t2 && (eqW a3 s3 b3 t3 && eqW a4 s4 b4 t4)))) w:=by
 rw [run_neq_struct,in62];rfl
end Go.Sky
theorem Go.Proofs.Tryz.ti23:Go.Proofs.Tryz.prog.info? 23=some Go.Proofs.Tryz.t23:=by kernel_rfl
namespace Go.Sky
open Go.Proofs
end Go.Sky
theorem Go.Proofs.Tryz.ti31:Go.Proofs.Tryz.prog.info? 31=some Go.Proofs.Tryz.t31:=by kernel_rfl
namespace Go.Sky
open Go.Proofs
end Go.Sky
theorem Go.Proofs.Tryz.ti34:Go.Proofs.Tryz.prog.info? 34=some Go.Proofs.Tryz.t34:=by kernel_rfl
namespace Go.Sky
open Go.Proofs
end Go.Sky
theorem Go.Proofs.Tryz.ti41:Go.Proofs.Tryz.prog.info? 41=some Go.Proofs.Tryz.t41:=by kernel_rfl
namespace Go.Sky
open Go.Proofs
end Go.Sky
theorem Go.Proofs.Tryz.ti48:Go.Proofs.Tryz.prog.info? 48=some Go.Proofs.Tryz.t48:=by kernel_rfl
namespace Go.Sky
open Go.Proofs
end Go.Sky
theorem Go.Proofs.Tryz.ti79:Go.Proofs.Tryz.prog.info? 79=some Go.Proofs.Tryz.t79:=by kernel_rfl
namespace Go.Sky
open Go.Proofs
end Go.Sky
theorem Go.Proofs.Tryz.ti4:Go.Proofs.Tryz.prog.info? 4=some Go.Proofs.Tryz.t4:=by kernel_rfl
namespace Go.Sky
open Go.Proofs
end Go.Sky
theorem Go.Proofs.Tryz.ti9:Go.Proofs.Tryz.prog.info? 9=some Go.Proofs.Tryz.t9:=by kernel_rfl
namespace Go.Sky
open Go.Proofs
theorem Zye:Tryz.prog.built 31 []=some #[.bool false,.string ⟨#[]⟩]:=by
 refine Ol _ Tryz.ti31 Tryz.underlying31 rfl (pl:=[(0,1),(1,1)]) (by simp [Tryz.ti4,Tryz.ti9];try decide) ?_
 simp [Instr.fill,show(Value.agg #[.bool false,.string ⟨#[]⟩]).cells=#[.bool false,.string ⟨#[]⟩]from rfl]
theorem Zu2{v0 v1:Value}(h0:v0.oneCell'=true)(h1:v1.oneCell'=true):Tryz.prog.built 31 [(0,v0),(1,v1)]=some #[v0,v1]:=by
 refine Ol _ Tryz.ti31 Tryz.underlying31 rfl (pl:=[(0,1),(1,1)]) (by simp [Tryz.ti4,Tryz.ti9];try decide) ?_
 simp [Instr.fill,Md h0,Md h1,show(Value.agg #[.bool false,.string ⟨#[]⟩]).cells=#[.bool false,.string ⟨#[]⟩]from rfl]
theorem b31_1{v1:Value}(h1:v1.oneCell'=true):Tryz.prog.built 31 [(1,v1)]=some #[.bool false,v1]:=by
 refine Ol _ Tryz.ti31 Tryz.underlying31 rfl (pl:=[(0,1),(1,1)]) (by simp [Tryz.ti4,Tryz.ti9];try decide) ?_
 simp [Instr.fill,Md h1,show(Value.agg #[.bool false,.string ⟨#[]⟩]).cells=#[.bool false,.string ⟨#[]⟩]from rfl]
theorem b41_:Tryz.prog.built 41 []=some #[.bool false,.string ⟨#[]⟩,.bool false,.string ⟨#[]⟩]:=by
 refine Ol _ Tryz.ti41 Tryz.underlying41 rfl (pl:=[(0,2),(2,2)]) (by simp [Tryz.ti31];try decide) ?_
 simp [Instr.fill,show(Value.agg #[.bool false,.string ⟨#[]⟩,.bool false,.string ⟨#[]⟩]).cells=#[.bool false,.string ⟨#[]⟩,.bool false,.string ⟨#[]⟩]from rfl]
theorem Zfd{c0_0 c0_1 c1_0 c1_1:Value} : Tryz.prog.built 41 [(0,.agg #[c0_0,c0_1]),(1,.agg #[c1_0,c1_1])]=some #[c0_0,c0_1,c1_0,c1_1]:=by
 refine Ol _ Tryz.ti41 Tryz.underlying41 rfl (pl:=[(0,2),(2,2)]) (by simp [Tryz.ti31];try decide) ?_
 simp [Instr.fill,show(Value.agg #[c0_0,c0_1]).cells=#[c0_0,c0_1]from rfl,show(Value.agg #[c1_0,c1_1]).cells=#[c1_0,c1_1]from rfl,show(Value.agg #[.bool false,.string ⟨#[]⟩,.bool false,.string ⟨#[]⟩]).cells=#[.bool false,.string ⟨#[]⟩,.bool false,.string ⟨#[]⟩]from rfl]
theorem b41_1{c1_0 c1_1:Value} : Tryz.prog.built 41 [(1,.agg #[c1_0,c1_1])]=some #[.bool false,.string ⟨#[]⟩,c1_0,c1_1]:=by
 refine Ol _ Tryz.ti41 Tryz.underlying41 rfl (pl:=[(0,2),(2,2)]) (by simp [Tryz.ti31];try decide) ?_
 simp [Instr.fill,show(Value.agg #[c1_0,c1_1]).cells=#[c1_0,c1_1]from rfl,show(Value.agg #[.bool false,.string ⟨#[]⟩,.bool false,.string ⟨#[]⟩]).cells=#[.bool false,.string ⟨#[]⟩,.bool false,.string ⟨#[]⟩]from rfl]
end Go.Sky
theorem Go.Proofs.Tryz.ti46:Go.Proofs.Tryz.prog.info? 46=some Go.Proofs.Tryz.t46:=by kernel_rfl
namespace Go.Sky
open Go.Proofs
theorem b48_:Tryz.prog.built 48 []=some #[.bool false,.slice none 0 0]:=by
 refine Ol _ Tryz.ti48 Tryz.underlying48 rfl (pl:=[(0,1),(1,1)]) (by simp [Tryz.ti4,Tryz.ti46];try decide) ?_
 simp [Instr.fill,show(Value.agg #[.bool false,.slice none 0 0]).cells=#[.bool false,.slice none 0 0]from rfl]
theorem b48_01{v0 v1:Value}(h0:v0.oneCell'=true)(h1:v1.oneCell'=true):Tryz.prog.built 48 [(0,v0),(1,v1)]=some #[v0,v1]:=by
 refine Ol _ Tryz.ti48 Tryz.underlying48 rfl (pl:=[(0,1),(1,1)]) (by simp [Tryz.ti4,Tryz.ti46];try decide) ?_
 simp [Instr.fill,Md h0,Md h1,show(Value.agg #[.bool false,.slice none 0 0]).cells=#[.bool false,.slice none 0 0]from rfl]
end Go.Sky
theorem Go.Proofs.Tryz.ti50:Go.Proofs.Tryz.prog.info? 50=some Go.Proofs.Tryz.t50:=by kernel_rfl
namespace Go.Sky
open Go.Proofs
theorem Zo2{c0_0 c0_1 c1_0 c1_1:Value} : Tryz.prog.built 50 [(0,.agg #[c0_0,c0_1]),(1,.agg #[c1_0,c1_1])]=some #[c0_0,c0_1,c1_0,c1_1]:=by
 refine Ol _ Tryz.ti50 Tryz.underlying50 rfl (pl:=[(0,2),(2,2)]) (by simp [Tryz.ti48];try decide) ?_
 simp [Instr.fill,show(Value.agg #[c0_0,c0_1]).cells=#[c0_0,c0_1]from rfl,show(Value.agg #[c1_0,c1_1]).cells=#[c1_0,c1_1]from rfl,show(Value.agg #[.bool false,.slice none 0 0,.bool false,.slice none 0 0]).cells=#[.bool false,.slice none 0 0,.bool false,.slice none 0 0]from rfl]
end Go.Sky
theorem Go.Proofs.Tryz.ti62:Go.Proofs.Tryz.prog.info? 62=some Go.Proofs.Tryz.t62:=by kernel_rfl
namespace Go.Sky
open Go.Proofs
theorem b62_:Tryz.prog.built 62 []=some #[.bool false,.string ⟨#[]⟩,.bool false,.string ⟨#[]⟩,.bool false,.string ⟨#[]⟩,.bool false,.string ⟨#[]⟩]:=by
 refine Ol _ Tryz.ti62 Tryz.underlying62 rfl (pl:=[(0,4),(4,4)]) (by simp [Tryz.ti41];try decide) ?_
 simp [Instr.fill,show(Value.agg #[.bool false,.string ⟨#[]⟩,.bool false,.string ⟨#[]⟩,.bool false,.string ⟨#[]⟩,.bool false,.string ⟨#[]⟩]).cells=#[.bool false,.string ⟨#[]⟩,.bool false,.string ⟨#[]⟩,.bool false,.string ⟨#[]⟩,.bool false,.string ⟨#[]⟩]from rfl]
theorem b62_01{c0_0 c0_1 c0_2 c0_3 c1_0 c1_1 c1_2 c1_3:Value} : Tryz.prog.built 62 [(0,.agg #[c0_0,c0_1,c0_2,c0_3]),(1,.agg #[c1_0,c1_1,c1_2,c1_3])]=some #[c0_0,c0_1,c0_2,c0_3,c1_0,c1_1,c1_2,c1_3]:=by
 refine Ol _ Tryz.ti62 Tryz.underlying62 rfl (pl:=[(0,4),(4,4)]) (by simp [Tryz.ti41];try decide) ?_
 simp [Instr.fill,show(Value.agg #[c0_0,c0_1,c0_2,c0_3]).cells=#[c0_0,c0_1,c0_2,c0_3]from rfl,show(Value.agg #[c1_0,c1_1,c1_2,c1_3]).cells=#[c1_0,c1_1,c1_2,c1_3]from rfl,show(Value.agg #[.bool false,.string ⟨#[]⟩,.bool false,.string ⟨#[]⟩,.bool false,.string ⟨#[]⟩,.bool false,.string ⟨#[]⟩]).cells=#[.bool false,.string ⟨#[]⟩,.bool false,.string ⟨#[]⟩,.bool false,.string ⟨#[]⟩,.bool false,.string ⟨#[]⟩]from rfl]
end Go.Sky
theorem Go.Proofs.Tryz.ti77:Go.Proofs.Tryz.prog.info? 77=some Go.Proofs.Tryz.t77:=by kernel_rfl
namespace Go.Sky
open Go.Proofs
theorem b79_012{v0 c1_0 c1_1 c1_2 c1_3 c2_0 c2_1 c2_2 c2_3:Value}(h0:v0.oneCell'=true):Tryz.prog.built 79 [(0,v0),(1,.agg #[c1_0,c1_1,c1_2,c1_3]),(2,.agg #[c2_0,c2_1,c2_2,c2_3])]=some #[v0,c1_0,c1_1,c1_2,c1_3,c2_0,c2_1,c2_2,c2_3]:=by
 refine Ol _ Tryz.ti79 Tryz.underlying79 rfl (pl:=[(0,1),(1,4),(5,4)]) (by simp [Tryz.ti41,Tryz.ti77];try decide) ?_
 simp [Instr.fill,Md h0,show(Value.agg #[c1_0,c1_1,c1_2,c1_3]).cells=#[c1_0,c1_1,c1_2,c1_3]from rfl,show(Value.agg #[c2_0,c2_1,c2_2,c2_3]).cells=#[c2_0,c2_1,c2_2,c2_3]from rfl,show(Value.agg #[.int .i64 0,.bool false,.string ⟨#[]⟩,.bool false,.string ⟨#[]⟩,.bool false,.string ⟨#[]⟩,.bool false,.string ⟨#[]⟩]).cells=#[.int .i64 0,.bool false,.string ⟨#[]⟩,.bool false,.string ⟨#[]⟩,.bool false,.string ⟨#[]⟩,.bool false,.string ⟨#[]⟩]from rfl]
end Go.Sky
theorem Go.Proofs.Tryz.ti154:Go.Proofs.Tryz.prog.info? 154=some Go.Proofs.Tryz.t154:=by kernel_rfl
namespace Go.Sky
open Go.Proofs
end Go.Sky
theorem Go.Proofs.Tryz.ti151:Go.Proofs.Tryz.prog.info? 151=some Go.Proofs.Tryz.t151:=by kernel_rfl
namespace Go.Sky
open Go.Proofs
theorem Nb{v0 v1:Value}(h0:v0.oneCell'=true)(h1:v1.oneCell'=true):Tryz.prog.built 154 [(0,v0),(1,v1)]=some #[v0,v1]:=by
 refine Ol _ Tryz.ti154 Tryz.underlying154 rfl (pl:=[(0,1),(1,1)]) (by simp [Tryz.ti151,Tryz.ti4];try decide) ?_
 simp [Instr.fill,Md h0,Md h1,show(Value.agg #[.bool false,.slice none 0 0]).cells=#[.bool false,.slice none 0 0]from rfl]
theorem J{α:Sort _}{a:α} : a=a:=rfl
theorem CA{α:Type _}(a:α)(s t:List α):(a :: s) ++ t=a :: (s ++ t):=rfl
theorem NA{α:Type _}(t:List α):[] ++ t=t:=rfl
abbrev Ml (P:Program) (f:FuncId) (a:Array Value) (p:List Pc) (v:Value):Prop:=Cal P f a p false (G:=Unit) (fun _=>True) (fun _=>v) (fun _=>[])
abbrev rX (x y:Int):Value:= .agg #[.bool (decide (x<0)),.string (Qq x.natAbs),.bool (decide (y<0)),.string (Qq y.natAbs)]
theorem xU{P:Program}{N:Nat}{sc:Nat→Prop}{env:Env}{H:Hp}{fn:Func}{pre:List Pc}{al:Bool}{val:Unit→Value}{w0:World}{r1:ResultVar}{v:Value}(hsc:∀b,sc b→w0.heap.size≤b∨∃q∈pre,q.fp b)(hf:fn.results=#[r1])(h1:RV P N sc env H r1 v)(h0:lk H 0=some (Ip w0 (fun _=>False)))(hv:val ()=v):X N sc .ret (Zyj P fn w0 pre al (fun _=>True) val (fun _=>[])) env H:=Yn (.inl rfl) hsc () v (fun a w hs=>Nn hs hf h1) hv trivial h0 Zk
theorem K1{t0:Sort _}{a0:t0} : a0=a0∧True:=⟨rfl,trivial⟩
theorem K2{t0:Sort _}{a0:t0}{t1:Sort _}{a1:t1} : a0=a0∧a1=a1∧True:=⟨rfl,rfl,trivial⟩
theorem K3{t0:Sort _}{a0:t0}{t1:Sort _}{a1:t1}{t2:Sort _}{a2:t2} : a0=a0∧a1=a1∧a2=a2∧True:=⟨rfl,rfl,rfl,trivial⟩
theorem K4{t0:Sort _}{a0:t0}{t1:Sort _}{a1:t1}{t2:Sort _}{a2:t2}{t3:Sort _}{a3:t3} : a0=a0∧a1=a1∧a2=a2∧a3=a3∧True:=⟨rfl,rfl,rfl,rfl,trivial⟩
theorem K5{t0:Sort _}{a0:t0}{t1:Sort _}{a1:t1}{t2:Sort _}{a2:t2}{t3:Sort _}{a3:t3}{t4:Sort _}{a4:t4} : a0=a0∧a1=a1∧a2=a2∧a3=a3∧a4=a4∧True:=⟨rfl,rfl,rfl,rfl,rfl,trivial⟩
theorem K6{t0:Sort _}{a0:t0}{t1:Sort _}{a1:t1}{t2:Sort _}{a2:t2}{t3:Sort _}{a3:t3}{t4:Sort _}{a4:t4}{t5:Sort _}{a5:t5} : a0=a0∧a1=a1∧a2=a2∧a3=a3∧a4=a4∧a5=a5∧True:=⟨rfl,rfl,rfl,rfl,rfl,rfl,trivial⟩
theorem K7{t0:Sort _}{a0:t0}{t1:Sort _}{a1:t1}{t2:Sort _}{a2:t2}{t3:Sort _}{a3:t3}{t4:Sort _}{a4:t4}{t5:Sort _}{a5:t5}{t6:Sort _}{a6:t6} : a0=a0∧a1=a1∧a2=a2∧a3=a3∧a4=a4∧a5=a5∧a6=a6∧True:=⟨rfl,rfl,rfl,rfl,rfl,rfl,rfl,trivial⟩
theorem K8{t0:Sort _}{a0:t0}{t1:Sort _}{a1:t1}{t2:Sort _}{a2:t2}{t3:Sort _}{a3:t3}{t4:Sort _}{a4:t4}{t5:Sort _}{a5:t5}{t6:Sort _}{a6:t6}{t7:Sort _}{a7:t7} : a0=a0∧a1=a1∧a2=a2∧a3=a3∧a4=a4∧a5=a5∧a6=a6∧a7=a7∧True:=⟨rfl,rfl,rfl,rfl,rfl,rfl,rfl,rfl,trivial⟩
theorem K9{t0:Sort _}{a0:t0}{t1:Sort _}{a1:t1}{t2:Sort _}{a2:t2}{t3:Sort _}{a3:t3}{t4:Sort _}{a4:t4}{t5:Sort _}{a5:t5}{t6:Sort _}{a6:t6}{t7:Sort _}{a7:t7}{t8:Sort _}{a8:t8} : a0=a0∧a1=a1∧a2=a2∧a3=a3∧a4=a4∧a5=a5∧a6=a6∧a7=a7∧a8=a8∧True:=⟨rfl,rfl,rfl,rfl,rfl,rfl,rfl,rfl,rfl,trivial⟩
theorem K10{t0:Sort _}{a0:t0}{t1:Sort _}{a1:t1}{t2:Sort _}{a2:t2}{t3:Sort _}{a3:t3}{t4:Sort _}{a4:t4}{t5:Sort _}{a5:t5}{t6:Sort _}{a6:t6}{t7:Sort _}{a7:t7}{t8:Sort _}{a8:t8}{t9:Sort _}{a9:t9} : a0=a0∧a1=a1∧a2=a2∧a3=a3∧a4=a4∧a5=a5∧a6=a6∧a7=a7∧a8=a8∧a9=a9∧True:=⟨rfl,rfl,rfl,rfl,rfl,rfl,rfl,rfl,rfl,rfl,trivial⟩
theorem K11{t0:Sort _}{a0:t0}{t1:Sort _}{a1:t1}{t2:Sort _}{a2:t2}{t3:Sort _}{a3:t3}{t4:Sort _}{a4:t4}{t5:Sort _}{a5:t5}{t6:Sort _}{a6:t6}{t7:Sort _}{a7:t7}{t8:Sort _}{a8:t8}{t9:Sort _}{a9:t9}{t10:Sort _}{a10:t10} : a0=a0∧a1=a1∧a2=a2∧a3=a3∧a4=a4∧a5=a5∧a6=a6∧a7=a7∧a8=a8∧a9=a9∧a10=a10∧True:=⟨rfl,rfl,rfl,rfl,rfl,rfl,rfl,rfl,rfl,rfl,rfl,trivial⟩
theorem K12{t0:Sort _}{a0:t0}{t1:Sort _}{a1:t1}{t2:Sort _}{a2:t2}{t3:Sort _}{a3:t3}{t4:Sort _}{a4:t4}{t5:Sort _}{a5:t5}{t6:Sort _}{a6:t6}{t7:Sort _}{a7:t7}{t8:Sort _}{a8:t8}{t9:Sort _}{a9:t9}{t10:Sort _}{a10:t10}{t11:Sort _}{a11:t11} : a0=a0∧a1=a1∧a2=a2∧a3=a3∧a4=a4∧a5=a5∧a6=a6∧a7=a7∧a8=a8∧a9=a9∧a10=a10∧a11=a11∧True:=⟨rfl,rfl,rfl,rfl,rfl,rfl,rfl,rfl,rfl,rfl,rfl,rfl,trivial⟩
theorem K14{t0:Sort _}{a0:t0}{t1:Sort _}{a1:t1}{t2:Sort _}{a2:t2}{t3:Sort _}{a3:t3}{t4:Sort _}{a4:t4}{t5:Sort _}{a5:t5}{t6:Sort _}{a6:t6}{t7:Sort _}{a7:t7}{t8:Sort _}{a8:t8}{t9:Sort _}{a9:t9}{t10:Sort _}{a10:t10}{t11:Sort _}{a11:t11}{t12:Sort _}{a12:t12}{t13:Sort _}{a13:t13} : a0=a0∧a1=a1∧a2=a2∧a3=a3∧a4=a4∧a5=a5∧a6=a6∧a7=a7∧a8=a8∧a9=a9∧a10=a10∧a11=a11∧a12=a12∧a13=a13∧True:=⟨rfl,rfl,rfl,rfl,rfl,rfl,rfl,rfl,rfl,rfl,rfl,rfl,rfl,rfl,trivial⟩
def Zft:=@Go.Proofs.Tryz.call103
def Lj:=@Go.Proofs.Tryz.call130
def Mm:=@Go.Proofs.Tryz.call133
def Av:=@Go.Proofs.Tryz.call149
def Zgo:=@Go.Proofs.Tryz.call44
def Zct:=@Go.Proofs.Tryz.call45
def Zdr:=@Go.Proofs.Tryz.call49
def Zkt:=@Go.Proofs.Tryz.call69
def Zfs:=@Go.Proofs.Tryz.call74
def Bj:=@Go.Proofs.Tryz.call81
def Fl:=@Go.Proofs.Tryz.isAgg151
def Lt:=@Go.Proofs.Tryz.isAgg154
def Ax:=@Go.Proofs.Tryz.isAgg26
def Qj:=@Go.Proofs.Tryz.isAgg31
def iA4:=@Go.Proofs.Tryz.isAgg4
def Pv:=@Go.Proofs.Tryz.isAgg41
def Zj1:=@Go.Proofs.Tryz.isAgg46
def Lg:=@Go.Proofs.Tryz.isAgg48
def Ze1:=@Go.Proofs.Tryz.isAgg50
def Ziw:=@Go.Proofs.Tryz.isAgg62
def iA9:=@Go.Proofs.Tryz.isAgg9
def Zc1:=@Go.Proofs.Tryz.isAgg98
def Mg:=@Go.Proofs.Tryz.sizeOf149
def Fe:=@Go.Proofs.Tryz.sizeOf151
def Xb:=@Go.Proofs.Tryz.sizeOf154
def Zgr:=@Go.Proofs.Tryz.sizeOf165
def Gr:=@Go.Proofs.Tryz.sizeOf26
def zT3:=@Go.Proofs.Tryz.sizeOf3
def Yj:=@Go.Proofs.Tryz.sizeOf31
def zT4:=@Go.Proofs.Tryz.sizeOf4
def Xz:=@Go.Proofs.Tryz.sizeOf41
def Zix:=@Go.Proofs.Tryz.sizeOf46
def Qe:=@Go.Proofs.Tryz.sizeOf48
def Zbp:=@Go.Proofs.Tryz.sizeOf50
def Bl:=@Go.Proofs.Tryz.sizeOf62
def zT9:=@Go.Proofs.Tryz.sizeOf9
def Zqe:=@Go.Proofs.Tryz.sizeOf96
def Ct:=@Go.Proofs.Tryz.sizeOf98
def Ky:=@Go.Proofs.Tryz.underlying102
def Zd0:=@Go.Proofs.Tryz.underlying149
def Xv:=@Go.Proofs.Tryz.underlying151
def Mx:=@Go.Proofs.Tryz.underlying154
def Zkw:=@Go.Proofs.Tryz.underlying165
def Zg1:=@Go.Proofs.Tryz.underlying167
def Zpb:=@Go.Proofs.Tryz.underlying172
def uT22:=@Go.Proofs.Tryz.underlying22
def Qp:=@Go.Proofs.Tryz.underlying23
def Zkv:=@Go.Proofs.Tryz.underlying29
def uT3:=@Go.Proofs.Tryz.underlying3
def Zcw:=@Go.Proofs.Tryz.underlying31
def Nc:=@Go.Proofs.Tryz.underlying34
def uT4:=@Go.Proofs.Tryz.underlying4
def Zac:=@Go.Proofs.Tryz.underlying41
def Ny:=@Go.Proofs.Tryz.underlying46
def Zab:=@Go.Proofs.Tryz.underlying48
def uT5:=@Go.Proofs.Tryz.underlying5
def uT50:=@Go.Proofs.Tryz.underlying50
def Zp7:=@Go.Proofs.Tryz.underlying62
def Zvi:=@Go.Proofs.Tryz.underlying74
def Zfg:=@Go.Proofs.Tryz.underlying79
def uT83:=@Go.Proofs.Tryz.underlying83
def uT9:=@Go.Proofs.Tryz.underlying9
def Zku:=@Go.Proofs.Tryz.underlying96
def Zvh:=@Go.Proofs.Tryz.underlying98
open Go.ChangeShapes Go.WideShapes Go.ChangeAt Go.RowKit Go.Joins Go.Deep
variable {P:Program} {W:World} {H:Type} {enc:TypeId×Value→H}
theorem Zo8 {base:Nat} {spare:Nat→Bool} {held:Bool} {fuel:Nat} {t:TypeId} {f0 f1:Field} {cs:List Value} {x:DataW H×List MemPlace}
  (ht:P.underlying t=some (.struct #[f0,f1])) (hC:P.cellsOf t=2) (ho0:f0.offset=0) (ho1:f1.offset=1) (hc0:P.cellsOf f0.type=1) (hc1:P.cellsOf f1.type=1) (h0:P.underlying f0.type=some .bool) (h1:P.underlying f1.type=some .string)
  (h:DataW.trod enc P W base spare held fuel t cs=some x):∃(b:Bool) (s:ByteArray),cs=[.bool b,.string s]∧s.size≤maxLen:=by
 obtain⟨y0,y1,n,hx,hl,e0,e1⟩:=trod_struct2 ht h
 rw [hC]at hl
 match cs,hl with
 | [c0,c1],_=>
  rw [ho0,hc0]at e0
  rw [ho1,hc1]at e1
  obtain⟨b,hb,_⟩:=DataW.trod_bool h0 e0
  obtain⟨s,hs,_,hz⟩:=DataW.trod_string h1 e1
  simp at hb hs
  exact⟨b,s,by rw [hb,hs],hz⟩
theorem Ze9{α:Type}[Inhabited α]{p:Nat→α→Prop} : ∀n,(∀i,i<n→∃x,p i x)→∃xs:List α,xs.length=n∧∀i x,xs[i]? = some x→p i x
 | 0,_=>⟨[],rfl,fun i x h=>by simp at h⟩
 | n+1,h=>by
  obtain⟨xs,hl,hp⟩:=Ze9 n fun i hi=>h i (by omega)
  obtain⟨x,hx⟩:=h n (by omega)
  refine⟨xs ++ [x],by simp [hl],fun i y hy=>?_⟩
  rcases Nat.lt_or_ge i n with hi | hi
  ·rw [List.getElem?_append_left (by omega)]at hy;exact hp i y hy
  ·rw [List.getElem?_append_right (by omega),hl]at hy
   rcases Nat.eq_zero_or_pos (i-n)with h0 | h0
   ·rw [h0]at hy;simp at hy;subst hy;rw [show i=n by omega];exact hx
   ·rw [List.getElem?_eq_none (by simp;omega)]at hy;cases hy
theorem Zgc{r:Reach}{b0:Nat}{t e:TypeId}{a:Addr}{len cap:Nat}(hs:P.underlying t=some (.slice e))(hv:Value.okWide P W r b0 t (.slice (some a) len cap)):a.spot=none∧a.block<W.heap.size:=by
 unfold Value.okWide at hv
 rw [hs]at hv
 simp only at hv
 unfold Cell.okWide at hv
 rw [hs]at hv
 simp only at hv
 unfold Cell.ok at hv
 rw [hs]at hv
 simp only at hv
 obtain⟨_,_,_,h1,row,cells,h2,_⟩:=hv
 refine⟨h1,?_⟩
 unfold World.shape? at h2
 rcases Nat.lt_or_ge a.block W.heap.size with h | h
 ·exact h
 ·rw [Array.getElem?_eq_none h]at h2
  simp at h2
theorem Zpv {t e:TypeId} {f0 f1:Field} {v:Value} {d:DataW H} {p:List MemPlace} (hs:P.underlying t=some (.slice e))
  (ht:P.underlying e=some (.struct #[f0,f1])) (hC:P.cellsOf e=2) (ho0:f0.offset=0) (ho1:f1.offset=1) (hc0:P.cellsOf f0.type=1) (hc1:P.cellsOf f1.type=1) (h0:P.underlying f0.type=some .bool) (h1:P.underlying f1.type=some .string)
  {r:Reach} {b0:Nat} (hv:Value.okWide P W r b0 t v) (h:DataW.Trod enc P W 0 (fun _=>true) true t v d p) (hlt:∀x∈p,x.block<W.heap.size) :
  ∃r:List (Bool×ByteArray),(slp 2 Zie v r).holds W:=by
 obtain⟨a0,len,cap,rfl⟩:=okWide_slice hs hv
 obtain⟨fuel,hf⟩:=h
 rcases open_slice hs hf with⟨hcs,_⟩ | ⟨a,len',cap',m,n,D,Pl,hcs,_,hl,hm,hmm,hx,hel⟩
 ·simp [Value.cells]at hcs
  obtain⟨rfl,rfl,rfl⟩:=hcs
  exact⟨[],Zaw 2 Zie W⟩
 ·simp [Value.cells]at hcs
  obtain⟨rfl,rfl,rfl⟩:=hcs
  simp at hmm
  subst hmm
  obtain⟨xs,hxl,hxs⟩:=Ze9 (p:=fun i (z:Bool×ByteArray)=>W.cells? 0 (a.add (i*2)) 2=some [.bool z.1,.string z.2]) len fun i hi=>by
   obtain⟨cs',h2,h3⟩:=hel i (by omega)
   rw [hC]at h2
   obtain⟨b,s,rfl,_⟩:=Zo8 ht hC ho0 ho1 hc0 hc1 h0 h1 h3
   exact⟨(b,s),h2⟩
  have hp:p=MemPlace.row a (m*2) ++ (List.range m).flatMap Pl:=by rw [hC]at hx;exact(Prod.mk.inj hx).2
  refine⟨xs,⟨some a,m,by rw [hxl],by omega,hm,?_⟩,fun b hb=>?_⟩
  ·rcases Nat.eq_zero_or_pos len with hz | hz
   ·exact .inl (List.eq_nil_of_length_eq_zero (by omega))
   ·right
    obtain⟨g,off,spot⟩:=a
    obtain⟨hsp,_⟩:=Zgc hs hv
    simp only at hsp
    subst hsp
    refine⟨g,off,rfl,fun i x hi j u hj=>?_⟩
    obtain⟨_,_,hc⟩:=World.cells?_some (hxs i x hi)
    have hj2:j<2:=by
     rcases Nat.lt_or_ge j 2 with h | h
     ·exact h
     ·rw [List.getElem?_eq_none (by simp [Value.cells];omega)]at hj;cases hj
    have:=hc j hj2
    simp only [Mf]at this
    rw [this]
    simpa [Value.cells]using hj
  ·cases hb
   exact(Zgc hs hv).2
end Go.Sky
namespace Go.Sky
set_option maxRecDepth 20000
theorem Zmk{K:Nat}{f:Nat→Int}{n:Nat}(h:∀i,i<n→bl (f i).natAbs≤K)(hn:n≤1023):bl (Qn f n).natAbs≤K+10:=by
 rw [Me]
 have h1:=Zuv h
 have h2:n*(2^K-1)≤1023*(2^K-1):=Nat.mul_le_mul_right _ hn
 have h3:0<2^K:=Nat.two_pow_pos K
 rw [Nat.pow_add]
 omega
theorem Kh(zs:List (Int×SL))(z:Int×SL):Zs (zs ++ [z])=Zs zs ++ [z.1]:=by simp [Zs]
theorem padd_mk(p q:List Int):tzl (mk (max p.length q.length) fun t=>cf p t+cf q t)=Zw0 p q:=rfl
theorem Zpr(p:List Int)(c:Int):tzl (mk p.length fun t=>cf p t*c)=Xj p c:=by rw [Zn1 p (· * c)];rfl
theorem pmul_mk(p q:List Int):tzl (mk (p.length+q.length-1) fun t=>Qn (fun k=>cf p k*cf q (t-k)) (t+1))=Mb p q:=rfl
theorem Ad{x:Int}{m:Nat}(h:bl x.natAbs≤m)(n:Nat):bl (x^n).natAbs≤n*m+1:=by
 rcases Nat.eq_zero_or_pos n with h0 | h0
 ·rw [h0,Int.pow_zero];have:bl (1:Int).natAbs=1:=by decide
  omega
 ·have:=Fq x h n h0;omega
theorem Zxh(p:List Int)(i:Nat)(h:i<p.length):msz (p.take (i+1))=max (msz (p.take i)) (bl (cf p i).natAbs):=by
 rw [Zpe _ _ h,Znz]
theorem Kt(p:List Int)(c:Int):(Xj p c).length≤p.length:=by
 unfold Xj;have:=Hu (p.map (· * c));rwa [List.length_map]at this
theorem bl_i1{i:Nat}(h:i≤1000):bl ((i:Int)+1).natAbs≤1000000000:=by
 have h1:=Ow (show((i:Int)+1).natAbs≤1001 by omega)
 have h2:bl 1001≤10:=by decide
 omega
theorem ev_tb{p:List Int}{x y:Int}(hs:Sz 1000000 p)(hx:∀k,bl (x^k).natAbs≤k*1000000+1)(hy:∀k,bl (y^k).natAbs≤k*1000000+1)(hl:p.length≤30)(t:Nat):bl (cf p t*(x^t*y^(p.length-1-t))).natAbs≤100000000:=by
 rcases Nat.lt_or_ge t p.length with h | h
 ·have h1:=hx t
  have h2:=hy (p.length-1-t)
  have h3:=Xs (x^t) (y^(p.length-1-t))
  have h4:=Xs (cf p t) (x^t*y^(p.length-1-t))
  have h5:=hs t
  have h6:t*1000000+(p.length-1-t)*1000000≤30*1000000:=by rw [←Nat.add_mul];exact Nat.mul_le_mul_right _ (by omega)
  omega
 ·rw [Qf h,Int.zero_mul];exact Nat.zero_le _
theorem Nl{y:Int}(h:y≠0):∀n:Nat,y^n≠0
 | 0=>by rw [Int.pow_zero];omega
 | n+1=>by rw [Int.pow_succ];exact Int.mul_ne_zero (Nl h n) h
theorem Zpx(xs ys:List Int):xs.map wr=ys.map wr↔xs=ys:=by
 refine⟨fun h=>?_,fun h=>by rw [h]⟩
 exact List.map_inj_right (fun x y h=>wv_inj (congrArg Prod.fst h) (congrArg Prod.snd h)) |>.1 h
theorem Cal.imp2{P:Program}{f:FuncId}{args:Array Value}{p1 p q:Pc}{pre:List Pc}{al:Bool}{G:Type}{φ:G→Prop}{val:G→Value}{its:G→List Pc}(h:Cal P f args (p1 :: p :: pre) al φ val its)(hh:∀w,q.holds w→p.holds w)(hf:∀b,p.fp b→q.fp b) :
  Cal P f args (p1 :: q :: pre) al φ val its:=fun w hp=>by
 refine(h w fun r hr=>?_).mono ?_
 ·rcases List.mem_cons.1 hr with rfl | hr
  ·exact hp _ (List.mem_cons_self ..)
  ·rcases List.mem_cons.1 hr with rfl | hr
   ·exact hh w (hp q (List.mem_cons_of_mem _ (List.mem_cons_self ..)))
   ·exact hp r (List.mem_cons_of_mem _ (List.mem_cons_of_mem _ hr))
 ·rintro e w' ⟨g,he,hg,hb,hits⟩
  refine⟨g,he,hg,hb,fun p' hp'=>?_⟩
  obtain⟨h1,h2,h3⟩:=hits p' hp'
  refine⟨h1,h2,fun b hb=>?_⟩
  rcases h3 b hb with h | ⟨h,r,hr,hrb⟩
  ·exact .inl h
  ·refine .inr ⟨h,?_⟩
   rcases List.mem_cons.1 hr with rfl | hr
   ·exact⟨r,List.mem_cons_self ..,hrb⟩
   ·rcases List.mem_cons.1 hr with rfl | hr
    ·exact⟨q,List.mem_cons_of_mem _ (List.mem_cons_self ..),hf b hrb⟩
    ·exact⟨r,List.mem_cons_of_mem _ (List.mem_cons_of_mem _ hr),hrb⟩
theorem Zh0{r:List (Bool×ByteArray)}(ha:r.all (fun w=>okW w.1 w.2)=true):okP r=(decide (r.length≤25) && (decide (r.length=0) || decide ((0:Int)<(((r.getD (r.length-1) (false,⟨#[]⟩)).2.size:Nat):Int)))):=by
 unfold okP
 rw [ha,Bool.true_and]
 congr 2
 rw [decide_eq_decide];omega
def shm(q:List Int)(c:Int)(s i:Nat):List Int:=mk (s+i) fun t=>if t<s then 0 else c*cf q (t-s)
theorem Zc6(q:List Int)(c:Int)(s:Nat):List.replicate s 0=shm q c s 0:=by
 rw [Znh];unfold shm
 exact Ie fun i hi=>by rw [if_pos hi]
theorem Zc7(q:List Int)(c:Int)(s i:Nat):shm q c s i ++ [c*cf q i]=shm q c s (i+1):=by
 unfold shm
 rw [show s+(i+1)=s+i+1 by omega,An,if_neg (by omega),show s+i-s=i by omega]
theorem Zoy(q:List Int)(c:Int)(s t:Nat):cf (shm q c s q.length) t=if s≤t∧t<s+q.length then c*cf q (t-s)else 0:=by
 unfold shm
 rw [Il]
 by_cases h1:t<s
 ·rw [if_neg (by omega:¬(s≤t∧t<s+q.length))];split
  ·rfl
  ·rfl
 ·by_cases h2:t<s+q.length
  ·rw [if_pos h2,if_neg h1,if_pos (show s≤t∧t<s+q.length by omega)]
  ·rw [if_neg h2,if_neg (show ¬(s≤t∧t<s+q.length) by omega)]
section
variable {p q:List Int}
theorem Zb0(hq:0<q.length)(hl:q.length≤p.length):∀j,j≤p.length-q.length+1→∀t,p.length-j≤t→cf (Pe p q j) t=0
 | 0,_,t,ht=>Qf (by unfold Pe;omega)
 | j+1,hj,t,ht=>by
  rcases Nat.lt_or_ge t p.length with h | h
  ·unfold Pe
   rw [Zdp (by rw [Pa];exact h)]
   by_cases he:t=p.length-1-j
   ·subst he
    rw [if_pos (by omega),show p.length-1-j-(p.length-1-j-(q.length-1))=q.length-1 by omega]
    omega
   ·rw [Zb0 hq hl j (by omega) t (by omega),Int.zero_mul,if_neg (by omega)];rfl
  ·exact Qf (by rw [Pa];omega)
theorem Ae(hq:0<q.length)(hl:q.length≤p.length){j:Nat} : ∀k,j+k≤p.length-q.length+1→(∀t,p.length-(j+k)≤t→cf (Pe p q j) t=0)→∀t,cf (Pe p q (j+k)) t=cf (Pe p q j) t*cf q (q.length-1)^k
 | 0,_,_,t=>by rw [Int.pow_zero,Int.mul_one];rfl
 | k+1,hk,hz,t=>by
  have ih:=Ae hq hl k (by omega) (fun t ht=>hz t (by omega))
  rcases Nat.lt_or_ge t p.length with h | h
  ·show cf (Zfl q (Pe p q (j+k)) (p.length-1-(j+k))) t=_
   rw [Zdp (by rw [Pa];exact h),ih t,ih (p.length-1-(j+k)),hz (p.length-1-(j+k)) (by omega),Int.zero_mul,Int.zero_mul]
   split<;>rw [Int.sub_zero,Int.pow_succ,Int.mul_assoc]
  ·rw [Qf (by rw [Pa];omega),Qf (by rw [Pa];omega),Int.zero_mul]
def Fr(p q R:List Int)(j:Nat):Prop:=Tr R∧∀t,cf R t=cf (Pe p q j) t*cf q (q.length-1)^(p.length-q.length+1-j)
theorem Zjk:Fr p q (Xj p (cf q (q.length-1)^(p.length-q.length+1))) 0:=⟨Qw _ _,fun t=>by rw [Xn];rfl⟩
theorem Zpm{R:List Int}{j:Nat}(hq:0<q.length)(hl:q.length≤p.length)(hlead:cf q (q.length-1)≠0)(hj:j≤p.length-q.length+1)(h:Fr p q R j)(hR:q.length≤R.length):j≤p.length-R.length∧p.length-R.length≤p.length-q.length∧R.length≤p.length∧Fr p q R (p.length-R.length):=by
 have hpow:∀n,cf q (q.length-1)^n≠0:=fun n=>Nl hlead n
 have htop:cf R (R.length-1)≠0:=h.1.mem (fun e=>by rw [e,List.length_nil]at hR;omega)
 have h1:R.length-1<p.length-j:=by
  rcases Nat.lt_or_ge (R.length-1) (p.length-j)with h1 | h1
  ·exact h1
  ·rw [h.2,Zb0 hq hl j hj _ h1,Int.zero_mul]at htop;exact absurd rfl htop
 have hjl:j≤p.length-R.length:=by omega
 refine⟨hjl,by omega,by omega,h.1,fun t=>?_⟩
 have hz:∀t,p.length-(j+(p.length-R.length-j))≤t→cf (Pe p q j) t=0:=fun t ht=>by
  have h2:=h.2 t
  rw [Qf (by omega)]at h2
  rcases Int.mul_eq_zero.1 h2.symm with h3 | h3
  ·exact h3
  ·exact absurd h3 (hpow _)
 have h2:=Ae hq hl (j:=j) (p.length-R.length-j) (by omega) hz t
 rw [show j+(p.length-R.length-j)=p.length-R.length by omega]at h2
 rw [h2,h.2,Int.mul_assoc,←Int.pow_add]
 congr 2;omega
theorem Zel{R:List Int}(hlead:cf q (q.length-1)≠0)(h:Fr p q R (p.length-R.length))(hq:0<q.length)(hR:q.length≤R.length)(hp:R.length≤p.length):cf R (R.length-1)/cf q (q.length-1)=cf (Pe p q (p.length-R.length)) (R.length-1)*cf q (q.length-1)^(p.length-q.length-(p.length-R.length)):=by
 rw [h.2,show p.length-q.length+1-(p.length-R.length)=p.length-q.length-(p.length-R.length)+1 by omega,Int.pow_succ,←Int.mul_assoc]
 exact Int.mul_ediv_cancel _ hlead
theorem Zjl{R:List Int}(hlead:cf q (q.length-1)≠0)(h:Fr p q R (p.length-R.length))(hq:0<q.length)(hR:q.length≤R.length)(hp:R.length≤p.length) :
  Fr p q (Zfm R (shm q (cf R (R.length-1)/cf q (q.length-1)) (R.length-q.length) q.length)) (p.length-R.length+1):=by
 refine⟨Zbs _ _,fun t=>?_⟩
 rw [Kq,Zoy,Zel hlead h hq hR hp,h.2]
 rcases Nat.lt_or_ge t p.length with ht | ht
 ·show _=cf (Zfl q (Pe p q (p.length-R.length)) (p.length-1-(p.length-R.length))) t*_
  rw [Zdp (by rw [Pa];exact ht),show p.length-1-(p.length-R.length)=R.length-1 by omega,show R.length-1-(q.length-1)=R.length-q.length by omega]
  rw [show p.length-q.length+1-(p.length-R.length)=p.length-q.length-(p.length-R.length)+1 by omega,show p.length-q.length+1-(p.length-R.length+1)=p.length-q.length-(p.length-R.length) by omega,Int.pow_succ]
  split<;>grind
 ·rw [Qf (p:=Pe p q (p.length-R.length)) (by rw [Pa];exact ht),Qf (p:=Pe p q (p.length-R.length+1)) (by rw [Pa];exact ht),if_neg (by omega)]
  simp
theorem Zlb{R:List Int}{j:Nat}(hq:0<q.length)(hl:q.length≤p.length)(hlead:cf q (q.length-1)≠0)(hj:j≤p.length-q.length+1)(h:Fr p q R j)(hR:R.length<q.length):R=Pk p q:=by
 unfold Pk
 rw [if_neg (by omega)]
 refine h.1.ext (Oy _) fun t=>?_
 have hz:∀t,p.length-(j+(p.length-q.length+1-j))≤t→cf (Pe p q j) t=0:=fun t ht=>by
  have h2:=h.2 t
  rw [Qf (by omega)]at h2
  rcases Int.mul_eq_zero.1 h2.symm with h3 | h3
  ·exact h3
  ·exact absurd h3 (Nl hlead _)
 have h2:=Ae hq hl (j:=j) (p.length-q.length+1-j) (by omega) hz t
 rw [show j+(p.length-q.length+1-j)=p.length-q.length+1 by omega]at h2
 rw [Lr,h2,h.2]
theorem Zpn{R:List Int}{j:Nat}(hj:j≤p.length-q.length+1)(h:Fr p q R j):Sz (msz p+(p.length-q.length+1)*(msz q+1)+1) R:=fun t=>by
 rw [h.2]
 have h1:=Fv p q j t
 have h2:=Ad (Od q (q.length-1)) (p.length-q.length+1-j)
 have h3:=Xs (cf (Pe p q j) t) (cf q (q.length-1)^(p.length-q.length+1-j))
 have h4:(p.length-q.length+1-j)*msz q≤(p.length-q.length+1-j)*(msz q+1):=Nat.mul_le_mul_left _ (by omega)
 have h5:j*(msz q+1)+(p.length-q.length+1-j)*(msz q+1)=(p.length-q.length+1)*(msz q+1):=by rw [←Nat.add_mul];congr 1;omega
 omega
theorem Zla{R:List Int}{j:Nat}(h:Fr p q R j):R.length≤p.length:=by
 rcases Nat.lt_or_ge p.length R.length with h1 | h1
 ·have h2:=h.1.mem (fun e=>by rw [e]at h1;simp at h1)
  rw [h.2,Qf (by rw [Pa];omega),Int.zero_mul]at h2
  exact absurd rfl h2
 ·exact h1
end
end Go.Sky
namespace Go.Sky
section
variable {P:Program} {N:Nat} {sc:Nat→Prop} {env env':Env} {H H':Hp}
theorem Fy(n k:Nat):∀a w,Sat N sc env H a w→Sat N sc env ((n,Zb7 qI (List.replicate k I0)) :: H) a w:=fun a w hs=>by
 have hz:∀z,z∈List.replicate k I0→z=I0:=fun z hz=>(List.mem_replicate.1 hz).2
 refine hs.add n _ (fun z h=>by rw [hz z h];exact Zaw 1 Ds w) (fun j' jt _ _ hor b hb hb'=>?_) (fun b hb=>?_)
 ·obtain⟨z,h1,h2⟩:=hb;rw [hz z h1]at h2;cases h2
 ·obtain⟨z,h1,h2⟩:=hb;rw [hz z h1]at h2;cases h2
end
theorem Zuy{c r l:Int}{n A B:Nat}(h:c=r*l^n)(hr:bl r.natAbs≤A)(hl:bl l.natAbs≤B):bl c.natAbs≤A+(n*B+1):=by
 rw [h]
 have h1:=Xs r (l^n)
 rcases Nat.eq_zero_or_pos n with h0 | h0
 ·rw [h0,Int.pow_zero];rw [Int.mul_one];omega
 ·have:=Fq l hl n h0;omega
theorem restq_b{p q R:List Int}(hq:q.length≤R.length)(hl:q.length≤p.length)(hp:R.length≤p.length) :
  msz p+(p.length-R.length)*(msz q+1)+((p.length-q.length-(p.length-R.length))*msz q+1)≤msz p+(p.length-q.length+1)*(msz q+1):=by
 have h1:(p.length-q.length-(p.length-R.length))*msz q≤(p.length-q.length-(p.length-R.length))*(msz q+1):=Nat.mul_le_mul_left _ (by omega)
 have h2:(p.length-R.length)*(msz q+1)+(p.length-q.length-(p.length-R.length))*(msz q+1)=(p.length-q.length)*(msz q+1):=by rw [←Nat.add_mul];congr 1;omega
 rw [Nat.succ_mul];omega
theorem Zwe{p q R:List Int}{c r:Int}(h:c=r*cf q (q.length-1)^(p.length-q.length-(p.length-R.length)))(hr:bl r.natAbs≤msz p+(p.length-R.length)*(msz q+1))(hs:Sz (msz q) q)(hq:q.length≤R.length)(hl:q.length≤p.length)(hp:R.length≤p.length)(t:Nat) :
  bl (c*cf q t).natAbs≤msz p+(p.length-q.length+1)*(msz q+1)+1:=by
 have h1:=Zuy h hr (hs _)
 have h2:=Xs c (cf q t)
 have h3:=hs t
 have h4:(p.length-q.length-(p.length-R.length))*msz q≤(p.length-q.length-(p.length-R.length))*(msz q+1):=Nat.mul_le_mul_left _ (by omega)
 have h5:(p.length-R.length)*(msz q+1)+(p.length-q.length-(p.length-R.length))*(msz q+1)=(p.length-q.length)*(msz q+1):=by rw [←Nat.add_mul];congr 1;omega
 rw [Nat.succ_mul];omega
theorem Zm5{q:List Int}{c:Int}{s i n:Nat}(h:∀t,bl (c*cf q t).natAbs≤n):Sz n (shm q c s i):=by
 unfold shm
 refine Zay fun t _=>?_
 split
 ·exact Nat.zero_le _
 ·exact h _
end Go.Sky
namespace Go.Sky
theorem vp_lit{l:List Int}(h1:∀x∈l,inI x)(h2:tzl l=l)(h3:l.length≤25):Vp l:=⟨Zd5 h1,h2▸Oy l,h3⟩
theorem Zta{l:List Int}(h:(l.all fun x=>decide (-1000000≤x) && decide (x≤1000000))=true):∀x∈l,inI x:=fun x hx=>by
 have h1:=List.all_eq_true.1 h x hx
 simp only [Bool.and_eq_true,decide_eq_true_eq]at h1
 exact⟨by omega,by omega⟩
def litb(l:List Int):Bool:=(l.all fun x=>decide (-1000000≤x) && decide (x≤1000000)) && (decide (tzl l=l) && decide (l.length≤25))
theorem vp_b{l:List Int}(h:litb l=true):Vp l:=by
 unfold litb at h
 rw [Bool.and_eq_true,Bool.and_eq_true]at h
 exact vp_lit (Zta h.1) (of_decide_eq_true h.2.1) (of_decide_eq_true h.2.2)
instance eokDec:∀f a b,Decidable (eok f a b)
 | 0,_,b=>inferInstanceAs (Decidable (b=[]))
 | f+1,a,b=>@instDecidableOr _ _ _ (@instDecidableAnd _ _ _ (eokDec f b (Yx (Pk a b))))
open Go.Proofs.Tryz
open Go.Proofs
set_option maxRecDepth 20000
set_option maxHeartbeats 4000000
set_option linter.unusedSimpArgs false
theorem Zxc(v:Value)(xs:List Nat):Cal prog 127 #[v] [slp 1 Iz v xs] true (G:=Unit) (fun _=>True) (fun _=>Fs v (tz xs).length) (fun _=>[slp 1 Iz (Fs v (tz xs).length) (tz xs)]):=by
 refine Ya func127 J ntmps127 J K1 ?_
 intro w0 sc hw hsc
 simp only [Zp,Zn]
 refine Mc (Zti (i:=1) J Zi) fun hself=>Mc (Gj (i:=1) J Zi) fun hlen=>Zc<|Zg<|as_ J<|Zf<|Za<|Zc<|Zl<|Nt [] [(0,_)] (fun(k:Nat)=>[(0,Fs v k)]) (fun(k:Nat)=>[(1,slp 1 Iz (Fs v k) (xs.take k))]) (fun(k:Nat)=>(k≤xs.length)∧(tz (xs.take k)=tz xs)) (fun(k:Nat)=>k) xs.length ⟨Nat.le_refl _,by rw [List.take_length]⟩ ⟨by rw [hself];rfl,trivial⟩ ⟨by rw [hself,List.take_length];rfl,rfl,trivial⟩ ?_
 rintro k ⟨hk,ht⟩
 simp only [CA,NA]
 have hl:(xs.take k).length=k:=by rw [List.length_take];omega
 refine Zc<|Zc<|Zg<|mv J<|dt (Yb J J (i:=1) J Zi Xv)<|dt (Oq J J J)<|mv J<|Qu (d:=6) J (fun s21=>?_) (fun s21=>?_)
 ·refine gdt (Ym J J) J J<|gdt (Ym J J) J J<|gdt (Yb J J (i:=1) J Zi Xv) J J<|gdt (Qa J J J ⟨by omega,by omega⟩) J J<|gdt (Yw (ii:=1) (i:=k-1) J J J J Zi Xv Mg) J J<|gdt (Xm (ii:=1) 0 J J J Zi pU) J J<|gdt (Pm J J J) J J<|dt (Xh J J J)<|Zf<|Za<|Zq J (fun h21=>?_) (fun h21=>?_)
  ·have hstep:=Zqq hk (by omega) (by omega:(xs.take k).getD (k-1) 0=0)
   exact Zj<|Za<|Zl<|Zg<|mv J<|mv J<|dt (Yb J J (i:=1) J Zi Xv)<|dt (Qa J J J ⟨by omega,by omega⟩)<|dt (Zx3 (ii:=1) (i:=k-1) J J J J Zi Xv Mg)<|as_ J<|Zf<|Oa<|Qv (s_pre 1 1 (k-1) J J)<|Xk (k-1) ⟨by first | omega | (dsimp only<;>omega),by rw [←ht,←hstep]⟩ (by first | omega | (dsimp only<;>omega)) ⟨by rw [←Hi v k (k-1)];rfl,trivial⟩ ⟨by rw [Hi,List.take_take,Nat.min_eq_left (by omega)];rfl,rfl,trivial⟩
  ·refine Yu<|Zu<|Zu<|Ox<|Za<|Zc<|Zg<|mv J<|as_ J<|Zf<|Za<|Zv ?_
   have hx:tz xs=xs.take k:=by rw [←ht];exact Zd1 hk (by omega)
   exact Yn (.inl J) hsc () _ (fun a w hs=>Nn hs results127 J) (by rw [hx,hl]) trivial J (Yk 1 J J J (by rw [hx,hl]) Zk)
 ·refine gsk J J J<|gsk J J J<|gsk J J J<|gsk J J J<|gsk J J J<|gsk J J J<|gsk J J J<|dt (Yh J J J)<|Zf<|Za<|Ye J<|Yu<|Zu<|Zu<|Ox<|Za<|Zc<|Zg<|mv J<|as_ J<|Zf<|Za<|Zv ?_
  have hx:tz xs=xs.take k:=by rw [←ht];exact Zd1 hk (by omega)
  exact Yn (.inl J) hsc () _ (fun a w hs=>Nn hs results127 J) (by rw [hx,hl]) trivial J (Yk 1 J J J (by rw [hx,hl]) Zk)
theorem Oi(v:Value)(xs:List Nat):Cal prog 127 #[v] [slp 1 Iz v xs] false (G:=Unit) (fun _=>True) (fun _=>Fs v (tz xs).length) (fun _=>[]):=(Zxc v xs).bare
theorem Zsn(v w:Value)(x y:Nat)(hx:bl x≤4294967296)(hy:bl y≤4294967296):Cal prog 171 #[v,w] [dgp v x,dgp w y] false (G:=Value) (fun r=>True) (fun r=>r) (fun r=>[dgp r (x+y)]):=by
 refine Ya func171 J ntmps171 J K2 ?_
 intro w0 sc hw hsc
 simp only [Zp,Zn]
 have hX:=Mj x
 have hY:=Mj y
 refine Zc<|Zg<|as_ J<|Zf<|Za<|Dj [] [(0,_),(1,_),(2,_)] (fun(q:Value×Value×Nat×Nat)=>[(0,q.1),(1,q.2.1)]) (fun(q:Value×Value×Nat×Nat)=>[(91,dgp q.1 q.2.2.1),(92,dgp q.2.1 q.2.2.2)]) (fun(q:Value×Value×Nat×Nat)=>(q.2.2.1+q.2.2.2=x+y)∧((dg U q.2.2.2).length≤(dg U q.2.2.1).length)∧((dg U q.2.2.1).length≤1099511627776)) trivial K3 ?_ ?_
 ·refine Zc<|Zg<|mv J<|dt (Yb J J (i:=1) J Zi Xv)<|mv J<|dt (Yb J J (i:=2) J Zi Xv)<|dt (Xu J J J)<|Zf<|Za<|Zq J (fun h73=>?_) (fun h73=>?_)
  ·exact Zg<|mv J<|mv J<|as_ J<|as_ J<|Zf<|Qv (Oc 2 91 J J J)<|Qv (Oc 1 92 J J J)<|Qy (w,v,y,x) ⟨by first | omega | (dsimp only<;>omega),by first | omega | (dsimp only<;>omega),by first | omega | (dsimp only<;>omega)⟩ K2 K5
  ·exact Zj<|Qv (Oc 1 91 J J J)<|Qv (Oc 2 92 J J J)<|Qy (v,w,x,y) ⟨by first | omega | (dsimp only<;>omega),by first | omega | (dsimp only<;>omega),by first | omega | (dsimp only<;>omega)⟩ K2 K5
 ·rintro⟨va,vb,a,b⟩ ⟨hs,hl,hla⟩
  dsimp only at hs hl hla
  simp only [CA,NA]
  refine Zc<|Zg<|mv J<|dt (Yb J J (i:=91) J Zi Xv)<|dt (Ys J J J ⟨by omega,by omega⟩)<|tt (Hr (i:=3) (n:=(dg U a).length+1) (by_:=8) (enc:=Iz) 0 J J J J Xv ti149 J pU.cells pU.pos J J J hw) fun v _=>as_ J<|Zf<|Za<|Zc<|Zg<|as_ J<|Zf<|Za<|Zc<|Zc<|Zg<|mv J<|dt (Yb J J (i:=91) J Zi Xv)<|mv J<|Zf<|Za<|Zl<|Nt [(0,_),(1,_),(5,_),(21,_)] [(0,_),(91,_),(92,_),(1,_),(2,_)] (fun(q:Nat×List Nat×Nat)=>[(22,.int .i64 (q.1:Int)),(6,.int .u64 (q.2.2:Int))]) (fun(q:Nat×List Nat×Nat)=>[(3,osl 1 149 Iz v q.2.1)]) (fun(q:Nat×List Nat×Nat)=>(q.1≤(dg U a).length)∧(q.2.1.length=(dg U a).length+1)∧(∀d∈q.2.1,d<U)∧(q.2.2≤1)∧(val U (q.2.1.take q.1)+q.2.2*U^q.1=val U ((dg U a).take q.1)+val U ((dg U b).take q.1))) (fun(q:Nat×List Nat×Nat)=>(dg U a).length-q.1) (0,List.replicate ((dg U a).length+1) 0,0) ⟨by first | omega | (dsimp only<;>omega),by simp,Nf _ Pq,by first | omega | (dsimp only<;>omega),by simp [val]⟩ K6 K6 ?_
  rintro⟨k,o,c⟩ ⟨hk,hol,hoa,hc,hv⟩
  dsimp only at hk hol hoa hc hv
  simp only [CA,NA]
  refine Zc<|Zg<|dt (Xu J J J)<|Zf<|Za<|Zc<|Zq J (fun h78=>?_) (fun h78=>?_)
  ·refine Zj<|Za<|Zc<|Zl<|Zc<|Zg<|mv J<|as_ J<|Zf<|Za<|Zc<|Zg<|as_ J<|Zf<|Za<|Dj [(0,_),(1,_),(5,_),(6,_),(7,_),(21,_),(22,_)] [(0,_),(3,_),(91,_),(92,_),(1,_),(2,_)] (fun(_:Unit)=>[(8,.int .u64 ((dg U b).getD k 0:Int))]) (fun(_:Unit)=>[]) (fun(_:Unit)=>True) K7 K6 ?_ ?_
   ·refine Zc<|Zg<|mv J<|mv J<|dt (Yb J J (i:=92) J Zi Xv)<|dt (Xu J J J)<|Zf<|Za<|Zq J (fun h80=>?_) (fun h80=>?_)
    ·refine Zg<|mv J<|mv J<|dt (Yw (ii:=92) J J J J Zi Xv Mg J (by first | omega | (simp only [List.length_set];omega)))<|dt (Xm (ii:=92) 0 J J J Zi pU (by first | omega | (simp only [List.length_set];omega)))<|as_ J<|Zf ?_
     try (have hz:(dg U b).getD k 0=0:=by simp [List.getD,List.getElem?_eq_none (by omega:(dg U b).length≤k)])
     exact Qy () trivial ⟨by first | rfl | (rw [hz];rfl),rfl,rfl,rfl,rfl,rfl,rfl,rfl,trivial⟩ K6
    ·refine Zj ?_
     try (have hz:(dg U b).getD k 0=0:=by simp [List.getD,List.getElem?_eq_none (by omega:(dg U b).length≤k)])
     exact Qy () trivial ⟨by first | rfl | (rw [hz];rfl),rfl,rfl,rfl,rfl,rfl,rfl,rfl,trivial⟩ K6
   ·rintro _ -
    simp only [CA,NA]
    exact Zg<|mv J<|mv J<|mv J<|mv J<|dt (Yw (ii:=91) J J J J Zi Xv Mg J (by first | omega | (simp only [List.length_set];omega)))<|dt (Xm (ii:=91) 0 J J J Zi pU (by first | omega | (simp only [List.length_set];omega)))<|mv J<|mv J<|dt (Zmd J J J J (by omega) Zff)<|mv J<|dt (Yf J J J)<|dt (Yf J J J)<|dt (Yw (ii:=3) J J J J (Yq pU) Xv Mg J (by first | omega | (simp only [List.length_set];omega)))<|tt (Kz (i:=3) (enc:=Iz) _ J J J J J J pU J hw (by decide) (by first | omega | (simp only [List.length_set];omega))) fun _ _=>as_ J<|Zf<|Oa<|Za<|Zg<|dt (Ys J J J ⟨by omega,by omega⟩)<|mv J<|Zf<|Xk (k+1,_,_) ⟨by first | omega | (dsimp only<;>omega),by simp;omega,Ln hoa _ _ (Nat.mod_lt _ Pq),by have h1:=Qm Pq (Li Pd a) k;have h2:=Qm Pq (Li Pd b) k;simp only [U]at *;omega,Zyf hv (by omega)⟩ (by first | omega | (dsimp only<;>omega)) K6 K6
  ·refine Yu<|Zu<|Zu<|Ox<|Za<|Zc ?_
   obtain rfl:k=(dg U a).length:=by omega
   refine Zg<|mv J<|mv J<|dt (Yb J J (i:=91) J Zi Xv)<|mv J<|dt (Yw (ii:=3) J J J J (Yq pU) Xv Mg J (by first | omega | (simp only [List.length_set];omega)))<|tt (Kz (i:=3) (enc:=Iz) _ J J J J J J pU J hw (by decide) (by first | omega | (simp only [List.length_set];omega))) fun _ _=>Zf<|Za<|Zc<|Zg<|mv J<|tt (Zh (n:=3) (Oi _ _) J J J K1 call127 (Xw 3 J J pU Ze) J hw) fun _ _=>Pr (Zf1 3 J J pU)<|as_ J<|Zf<|Za<|Zv ?_
   have hx:tz (o.set (dg U a).length c)=dg U (x+y):=by
    rw [←Kk Pd _ (Ln hoa _ _ (by simp only [U];omega)),←hs]
    congr 1
    conv=>rhs;rw [←My Pd a,←My Pd b]
    rw [List.take_of_length_le (Nat.le_refl (dg U a).length),Nr U (dg U b) _ hl]at hv
    rw [←hv,←Gt U o _ c (by omega),Nr _ _ _ (by simp;omega)]
   exact Yn (.inl J) hsc _ _ (fun a w hs=>Nn hs results171 J) J trivial J (Py 3 J J pU hx Zk)
theorem Zew(v w:Value)(x y:Nat)(hx:bl x≤4294967296)(hxy:y≤x:=by omega):Cal prog 173 #[v,w] [dgp v x,dgp w y] false (G:=Value) (fun r=>True) (fun r=>r) (fun r=>[dgp r (x-y)]):=by
 refine Ya func173 J ntmps173 J K2 ?_
 intro w0 sc hw hsc
 simp only [Zp,Zn]
 have hX:=Mj x
 have hY:=Mj y
 have hm:=Ow hxy
 refine Zc<|Zg<|as_ J<|Zf<|Za<|Zc<|Zg<|mv J<|dt (Yb J J (i:=1) J Zi Xv)<|tt (Hr (i:=3) (n:=(dg U x).length) (by_:=8) (enc:=Iz) 0 J J J J Xv ti149 J pU.cells pU.pos J J J hw) fun v _=>as_ J<|Zf<|Za<|Zc<|Zg<|as_ J<|Zf<|Za<|Zc<|Zc<|Zg<|mv J<|dt (Yb J J (i:=1) J Zi Xv)<|mv J<|Zf<|Za<|Zl<|Nt [(0,_),(1,_),(5,_),(13,_)] [(0,_),(1,_),(2,_)] (fun(q:Nat×List Nat×Nat)=>[(14,.int .i64 (q.1:Int)),(6,.int .u64 (q.2.2:Int))]) (fun(q:Nat×List Nat×Nat)=>[(3,osl 1 149 Iz v q.2.1)]) (fun(q:Nat×List Nat×Nat)=>(q.1≤(dg U x).length)∧(q.2.1.length=(dg U x).length)∧(∀d∈q.2.1,d<U)∧(q.2.2≤1)∧(val U (q.2.1.take q.1)+val U ((dg U y).take q.1)=val U ((dg U x).take q.1)+q.2.2*U^q.1)) (fun(q:Nat×List Nat×Nat)=>(dg U x).length-q.1) (0,List.replicate ((dg U x).length) 0,0) ⟨by first | omega | (dsimp only<;>omega),by simp,Nf _ Pq,by first | omega | (dsimp only<;>omega),by simp [val]⟩ K6 K4 ?_
 rintro⟨k,o,c⟩ ⟨hk,hol,hoa,hc,hv⟩
 dsimp only at hk hol hoa hc hv
 simp only [CA,NA]
 refine Zc<|Zg<|dt (Xu J J J)<|Zf<|Za<|Zc<|Zq J (fun h93=>?_) (fun h93=>?_)
 ·refine Zj<|Za<|Zc<|Zl<|Zc<|Zg<|mv J<|as_ J<|Zf<|Za<|Zc<|Zg<|as_ J<|Zf<|Za<|Dj [(0,_),(1,_),(5,_),(6,_),(7,_),(13,_),(14,_)] [(0,_),(3,_),(1,_),(2,_)] (fun(_:Unit)=>[(8,.int .u64 ((dg U y).getD k 0:Int))]) (fun(_:Unit)=>[]) (fun(_:Unit)=>True) K7 K4 ?_ ?_
  ·refine Zc<|Zg<|mv J<|mv J<|dt (Yb J J (i:=2) J Zi Xv)<|dt (Xu J J J)<|Zf<|Za<|Zq J (fun h95=>?_) (fun h95=>?_)
   ·refine Zg<|mv J<|mv J<|dt (Yw (ii:=2) J J J J Zi Xv Mg J (by first | omega | (simp only [List.length_set];omega)))<|dt (Xm (ii:=2) 0 J J J Zi pU (by first | omega | (simp only [List.length_set];omega)))<|as_ J<|Zf ?_
    try (have hz:(dg U y).getD k 0=0:=by simp [List.getD,List.getElem?_eq_none (by omega:(dg U y).length≤k)])
    exact Qy () trivial ⟨by first | rfl | (rw [hz];rfl),rfl,rfl,rfl,rfl,rfl,rfl,rfl,trivial⟩ K4
   ·refine Zj ?_
    try (have hz:(dg U y).getD k 0=0:=by simp [List.getD,List.getElem?_eq_none (by omega:(dg U y).length≤k)])
    exact Qy () trivial ⟨by first | rfl | (rw [hz];rfl),rfl,rfl,rfl,rfl,rfl,rfl,rfl,trivial⟩ K4
  ·rintro _ -
   simp only [CA,NA]
   exact Zg<|mv J<|mv J<|mv J<|mv J<|dt (Yw (ii:=1) J J J J Zi Xv Mg J (by first | omega | (simp only [List.length_set];omega)))<|dt (Xm (ii:=1) 0 J J J Zi pU (by first | omega | (simp only [List.length_set];omega)))<|mv J<|mv J<|dt (d_sub64 J J J J (by omega) Zqv)<|mv J<|dt (Yf J J J)<|dt (Yf J J J)<|dt (Yw (ii:=3) J J J J (Yq pU) Xv Mg J (by first | omega | (simp only [List.length_set];omega)))<|tt (Kz (i:=3) (enc:=Iz) _ J J J J J J pU J hw (by decide) (by first | omega | (simp only [List.length_set];omega))) fun _ _=>as_ J<|Zf<|Oa<|Za<|Zg<|dt (Ys J J J ⟨by omega,by omega⟩)<|mv J<|Zf<|Xk (k+1,_,_) ⟨by first | omega | (dsimp only<;>omega),by simp;omega,Ln hoa _ _ (Nat.mod_lt _ Pq),brw_le _ _ _,Zvq hc (Qm Pq (Li Pd x) k) (Qm Pq (Li Pd y) k) hv (by omega)⟩ (by first | omega | (dsimp only<;>omega)) K6 K4
 ·refine Yu<|Zu<|Zu<|Ox<|Za<|Zc<|Zg<|mv J<|tt (Zh (n:=3) (Oi _ _) J J J K1 call127 (Xw 3 J J pU Ze) J hw) fun _ _=>Pr (Zf1 3 J J pU)<|as_ J<|Zf<|Za<|Zv ?_
  obtain rfl:k=(dg U x).length:=by omega
  have hx:tz o=dg U (x-y):=by
   rw [←Kk Pd _ hoa]
   congr 1
   have hly:(dg U y).length≤(dg U x).length:=by omega
   rw [Nr U o _ (by omega),Nr U (dg U y) _ hly,Nr U (dg U x) _ (Nat.le_refl _),My Pd,My Pd]at hv
   have h1:=Zfv Pq o hoa
   rw [hol]at h1
   have h0:c=0∨c=1:=by omega
   rcases h0 with rfl | rfl<;>omega
  exact Yn (.inl J) hsc _ _ (fun a w hs=>Nn hs results173 J) J trivial J (Py 3 J J pU hx Zk)
theorem Am(v w:Value)(x y:Nat)(hx:bl x≤4294967296)(hy:bl y≤4294967296):Cal prog 172 #[v,w] [dgp v x,dgp w y] false (G:=Int) (fun r=>(r<0↔x<y)∧(0<r↔y<x)) (fun r=> .int .i64 r) (fun r=>[]):=by
 refine Ya func172 J ntmps172 J K2 ?_
 intro w0 sc hw hsc
 simp only [Zp,Zn]
 have hX:=Mj x
 have hY:=Mj y
 refine Zc<|Zg<|as_ J<|Zf<|Za<|Zc<|Zc<|Zg<|mv J<|dt (Yb J J (i:=1) J Zi Xv)<|mv J<|dt (Yb J J (i:=2) J Zi Xv)<|dt (Qb J J J)<|Zf<|Za<|Zq J (fun h57=>?_) (fun h57=>?_)
 ·exact Zc<|Zg<|mv J<|dt (Yb J J (i:=1) J Zi Xv)<|mv J<|dt (Yb J J (i:=2) J Zi Xv)<|dt (Qa J J J ⟨by omega,by omega⟩)<|as_ J<|Zf<|Za<|Zv<|Xc<|Yn (.inl J) hsc _ _ (fun a w hs=>Nn hs results172 J) J ⟨⟨fun h=>Cn Pd (by omega),fun h=>by have:=Ow (Nat.le_of_lt h);omega⟩,⟨fun h=>Cn Pd (by omega),fun h=>by have:=Ow (Nat.le_of_lt h);omega⟩⟩ J Zk
 ·have hlen:(dg U x).length=(dg U y).length:=by omega
  refine Zj<|Za<|Zc<|Zc<|Zg<|mv J<|dt (Yb J J (i:=1) J Zi Xv)<|dt (Qa J J J ⟨by omega,by omega⟩)<|as_ J<|Zf<|Za<|Zl<|Nt [(0,_),(1,_)] [(0,_),(1,_),(2,_)] (fun(k:Nat)=>[(5,.int .i64 ((k:Int)-1))]) (fun(k:Nat)=>[]) (fun(k:Nat)=>(k≤(dg U x).length)∧((dg U x).drop k=(dg U y).drop k)) (fun(k:Nat)=>k) (dg U x).length ⟨by first | omega | (dsimp only<;>omega),by rw [List.drop_length,hlen,List.drop_length]⟩ K3 K3 ?_
  rintro k ⟨hk,hd⟩
  simp only [CA,NA]
  refine Zc<|Zc<|Zg<|mv J<|dt (Lx J J J)<|Zf<|Za<|Zq J (fun h60=>?_) (fun h60=>?_)
  ·refine Zj<|Za<|Zc<|Zl<|Zl<|Zc<|Ql (fun _=>False) [(0,0),(1,0),(2,0),(3,0),(4,0),(5,0),(6,0),(7,0),(8,0),(9,0)] ?_ ?_
   ·kernel_rfl
   refine r0' J J (st0 (Ym J J))<|r0' J J (st0 (Ym J J))<|r0' J J (st0 (Yw (ii:=1) (i:=k-1) J J J J Zi Xv Mg))<|r0' J J (st0 (Xm (ii:=1) 0 J J J Zi pU (by first | omega | (simp only [List.length_set];omega))))<|r0' J J (st0 (Ym J J))<|r0' J J (st0 (Ym J J))<|r0' J J (st0 (Yw (ii:=2) (i:=k-1) J J J J Zi Xv Mg))<|r0' J J (st0 (Xm (ii:=2) 0 J J J Zi pU (by first | omega | (simp only [List.length_set];omega))))<|r0' J J (st0 (Xu J J J))<|r0' J J (st0 (Lq J J))<|Og<|Za<|Zq J (fun h62=>?_) (fun h62=>?_)
   ·refine Zc<|Zg<|as_ J<|Zf<|Za<|Zv<|Hf<|Hf<|Xc<|Xc<|Hf<|Xc ?_
    have hlt:=Zot Pq (xs:=dg U x) (ys:=dg U y) (Li Pd x) (k:=k-1) (by omega) (by omega) (by rw [show k-1+1=k by omega];exact hd) (by omega)
    rw [My Pd,My Pd]at hlt
    exact Yn (.inl J) hsc (-1) _ (fun a w hs=>Nn hs results172 J) J (by omega) J Zk
   ·refine Zc<|Ql (fun _=>False) [(0,0),(1,0),(2,0),(3,0),(4,0),(5,0),(6,0),(7,0),(8,0),(9,0)] ?_ ?_
    ·kernel_rfl
    refine r0' J J (st0 (Ym J J))<|r0' J J (st0 (Ym J J))<|r0' J J (st0 (Yw (ii:=1) (i:=k-1) J J J J Zi Xv Mg))<|r0' J J (st0 (Xm (ii:=1) 0 J J J Zi pU (by first | omega | (simp only [List.length_set];omega))))<|r0' J J (st0 (Ym J J))<|r0' J J (st0 (Ym J J))<|r0' J J (st0 (Yw (ii:=2) (i:=k-1) J J J J Zi Xv Mg))<|r0' J J (st0 (Xm (ii:=2) 0 J J J Zi pU (by first | omega | (simp only [List.length_set];omega))))<|r0' J J (st0 (Oq J J J))<|r0' J J (st0 (Lq J J))<|Og<|Za<|Zq J (fun h64=>?_) (fun h64=>?_)
    ·refine Zc<|Zg<|as_ J<|Zf<|Za<|Zv<|Hf<|Hf<|Xc<|Xc<|Hf<|Xc ?_
     have hlt:=Zot Pq (xs:=dg U y) (ys:=dg U x) (Li Pd y) (k:=k-1) (by omega) (by omega) (by rw [show k-1+1=k by omega];exact hd.symm) (by omega)
     rw [My Pd,My Pd]at hlt
     exact Yn (.inl J) hsc 1 _ (fun a w hs=>Nn hs results172 J) J (by omega) J Zk
    ·exact Zj<|Oa<|Oa<|Za<|Zg<|mv J<|dt (Qa J J J ⟨by omega,by omega⟩)<|as_ J<|Zf<|Xk (k-1) ⟨by first | omega | (dsimp only<;>omega),by have:=Zcs (xs:=dg U x) (ys:=dg U y) (k:=k-1) (by omega) (by omega) (by rw [show k-1+1=k by omega];exact hd) (by omega);exact this⟩ (by first | omega | (dsimp only<;>omega)) ⟨by rw [show(((k-1:Nat):Int)-1)=(k:Int)-1-1 by omega];rfl,rfl,rfl,trivial⟩ K3
  ·refine Yu<|Zu<|Zu<|Ox<|Za<|Zc<|Zg<|as_ J<|Zf<|Za<|Zv ?_
   obtain rfl:k=0:=by omega
   have heq:x=y:=(Ze5 Pd).1 (by simpa using hd)
   exact Yn (.inl J) hsc 0 _ (fun a w hs=>Nn hs results172 J) J (by omega) J Zk
theorem Zyc(x y:Nat)(hx:x<U)(hy:y<U):Ml prog 199 #[.int .u64 (x:Int),.int .u64 (y:Int)] [] (.tuple #[.int .u64 ((x*y/U:Nat):Int),.int .u64 ((x*y%U:Nat):Int)]):=by
 refine Ya func199 J ntmps199 J trivial ?_
 intro w0 sc hw hsc
 simp only [Zp,Zn]
 simp only [U]at hx hy
 exact Zc<|Zg<|as_ J<|as_ J<|Zf<|Za<|Zc<|Zg<|mv J<|dt (Zqp J J J hx)<|as_ J<|Zf<|Za<|Zc<|Zg<|mv J<|dt (Gu (n:=32) (n':=4294967296) J J J J J)<|as_ J<|Zf<|Za<|Zc<|Zg<|mv J<|dt (Zqp J J J hy)<|as_ J<|Zf<|Za<|Zc<|Zg<|mv J<|dt (Gu (n:=32) (n':=4294967296) J J J J J)<|as_ J<|Zf<|Za<|Zc<|Zg<|mv J<|mv J<|dt (Bm J J J)<|as_ J<|Zf<|Za<|Zc<|Zg<|mv J<|mv J<|dt (Bm J J J)<|mv J<|dt (Gu (n:=32) (n':=4294967296) J J J J J)<|dt (Ac J J J)<|as_ J<|Zf<|Za<|Zc<|Zg<|mv J<|dt (Zqp J J J (Nat.mod_lt _ Pq))<|as_ J<|Zf<|Za<|Zc<|Zg<|mv J<|dt (Gu (n:=32) (n':=4294967296) J J J J J)<|as_ J<|Zf<|Za<|Zc<|Zg<|mv J<|mv J<|mv J<|dt (Bm J J J)<|dt (Ac J J J)<|as_ J<|Zf<|Za<|Zc<|Zg<|mv J<|mv J<|dt (Bm J J J)<|mv J<|dt (Ac J J J)<|mv J<|dt (Gu (n:=32) (n':=4294967296) J J J J J)<|dt (Ac J J J)<|as_ J<|Zf<|Za<|Zc<|Zg<|mv J<|mv J<|dt (Bm J J J)<|as_ J<|Zf<|Za<|Zv<|Yn (.inl J) hsc () _ (fun a w hs=>Np hs results199 J J) (by rw [Zxe hx hy _ _ rfl rfl]) trivial J Zk
theorem Zsl(v w:Value)(x y:Nat)(hx:bl x≤4294967296)(hy:bl y≤4294967296):Cal prog 194 #[v,w] [dgp v x,dgp w y] false (G:=Value) (fun r=>True) (fun r=>r) (fun r=>[dgp r (x*y)]):=by
 refine Ya func194 J ntmps194 J K2 ?_
 intro w0 sc hw hsc
 simp only [Zp,Zn]
 have hX:=Mj x
 have hY:=Mj y
 refine Zc<|Zg<|as_ J<|Zf<|Za<|Zc<|Zg<|mv J<|dt (Yb J J (i:=1) J Zi Xv)<|mv J<|dt (Yb J J (i:=2) J Zi Xv)<|dt (Ys J J J ⟨by omega,by omega⟩)<|tt (Hr (i:=3) (n:=(dg U x).length+(dg U y).length) (by_:=8) (enc:=Iz) 0 J J J J Xv ti149 J pU.cells pU.pos J J J hw) fun v _=>as_ J<|Zf<|Za<|Zc<|Zc<|Zg<|mv J<|dt (Yb J J (i:=1) J Zi Xv)<|mv J<|Zf<|Za<|Zl<|Nt [(1,_),(5,_),(20,_),(21,_)] [(0,_),(1,_),(2,_)] (fun(q:Nat×List Nat)=>[(22,.int .i64 (q.1:Int))]) (fun(q:Nat×List Nat)=>[(3,osl 1 149 Iz v q.2)]) (fun(q:Nat×List Nat)=>(q.1≤(dg U x).length)∧(q.2.length=(dg U x).length+(dg U y).length)∧(∀d∈q.2,d<U)∧(∀j,q.1+(dg U y).length≤j→q.2.getD j 0=0)∧(val U (q.2.take (q.1+(dg U y).length))=val U ((dg U x).take q.1)*y)) (fun(q:Nat×List Nat)=>(dg U x).length-q.1) (0,List.replicate ((dg U x).length+(dg U y).length) 0) ⟨by first | omega | (dsimp only<;>omega),by simp,Nf _ Pq,fun j _=>Lk _ j,by simp [val,List.take_replicate,Ia]⟩ K5 K4 ?_
 rintro⟨i,o⟩ ⟨hi,hol,hoa,hz,hv⟩
 dsimp only at hi hol hoa hz hv
 simp only [CA,NA]
 refine Zc<|Zg<|dt (Xu J J J)<|Zf<|Za<|Zc<|Zq J (fun h106=>?_) (fun h106=>?_)
 ·refine Zj<|Za<|Zc<|Zl<|Zc<|Zg<|mv J<|dt (Yw (ii:=1) J J J J Zi Xv Mg J (by first | omega | (simp only [List.length_set];omega)))<|dt (Xm (ii:=1) 0 J J J Zi pU (by first | omega | (simp only [List.length_set];omega)))<|as_ J<|as_ J<|Zf<|Za<|Zc<|Zg<|as_ J<|Zf<|Za<|Zc<|Zc<|Zg<|mv J<|dt (Yb J J (i:=2) J Zi Xv)<|mv J<|Zf<|Za<|Zl<|Nt [(1,_),(5,_),(6,_),(7,_),(20,_),(21,_),(22,_),(27,_),(28,_)] [(0,_),(1,_),(2,_)] (fun(q:Nat×List Nat×Nat)=>[(29,.int .i64 (q.1:Int)),(8,.int .u64 (q.2.2:Int))]) (fun(q:Nat×List Nat×Nat)=>[(3,osl 1 149 Iz v q.2.1)]) (fun(q:Nat×List Nat×Nat)=>(q.1≤(dg U y).length)∧(q.2.1.length=(dg U x).length+(dg U y).length)∧(∀d∈q.2.1,d<U)∧(∀j,i+(dg U y).length≤j→q.2.1.getD j 0=0)∧(q.2.2<U)∧(val U (q.2.1.take (i+(dg U y).length))+q.2.2*U^(i+q.1)=val U ((dg U x).take i)*y+(dg U x).getD i 0*U^i*val U ((dg U y).take q.1))) (fun(q:Nat×List Nat×Nat)=>(dg U y).length-q.1) (0,o,0) ⟨by first | omega | (dsimp only<;>omega),hol,hoa,hz,Pq,by rw [hv];simp [val]⟩ K11 K4 ?_
  rintro⟨k,p,c⟩ ⟨hk,hpl,hpa,hpz,hcU,hpv⟩
  dsimp only at hk hpl hpa hpz hcU hpv
  simp only [CA,NA]
  have hdig:=Zsq (Qm Pq (Li Pd x) i) (Qm Pq (Li Pd y) k) (Qm Pq hpa (i+k)) hcU
  refine Zc<|Zg<|dt (Xu J J J)<|Zf<|Za<|Zc<|Zq J (fun h108=>?_) (fun h108=>?_)
  ·refine Zj<|Za<|Zc<|Zl<|Zc<|Zg<|mv J<|dt (Yw (ii:=2) J J J J Zi Xv Mg J (by first | omega | (simp only [List.length_set];omega)))<|dt (Xm (ii:=2) 0 J J J Zi pU (by first | omega | (simp only [List.length_set];omega)))<|as_ J<|as_ J<|Zf<|Za<|Zc<|Zg<|mv J<|mv J<|tt (Zh (n:=3) (Zyc _ _ (Qm Pq (Li Pd _) _) (Qm Pq (Li Pd _) _)) J J J K2 call199 Ze J hw) fun _ _=>mv J<|dt (Yf J J J)<|dt (Yf J J J)<|as_ J<|as_ J<|Zf<|Za<|Zc<|Zg<|mv J<|mv J<|mv J<|mv J<|dt (Ys J J J ⟨by omega,by omega⟩)<|dt (Yw (ii:=3) (i:=i+k) J J J J (Yq pU) Xv Mg)<|dt (Xm (ii:=3) 0 J J J (Yq pU) pU (by first | omega | (simp only [List.length_set];omega)))<|dt (Zmd (c:=0) J J J J (by omega) Zff)<|mv J<|dt (Yf J J J)<|dt (Yf J J J)<|as_ J<|as_ J<|Zf<|Za<|Zc<|Zg<|mv J<|mv J<|dt (Ac J J J)<|as_ J<|Zf<|Za<|Zc<|Zg<|mv J<|mv J<|dt (Zmd (c:=0) J J J J (by omega) Zff)<|mv J<|dt (Yf J J J)<|dt (Yf J J J)<|as_ J<|as_ J<|Zf<|Za<|Zg<|mv J<|mv J<|mv J<|dt (Ys J J J ⟨by omega,by omega⟩)<|mv J<|mv J<|mv J<|dt (Ac J J J)<|dt (Yw (ii:=3) (i:=i+k) J J J J (Yq pU) Xv Mg) ?_
   exact tt (Kz (i:=3) (enc:=Iz) _ J J J J J J pU J hw (by decide) (by first | omega | (simp only [List.length_set];omega))) fun _ _=>as_ J<|Zf<|Oa<|Za<|Zg<|dt (Ys J J J ⟨by omega,by omega⟩)<|mv J<|Zf<|Xk (k+1,_,_) ⟨by first | omega | (dsimp only<;>omega),by simp;omega,Ln hpa _ _ (Nat.mod_lt _ Pq),fun j hj=>by rw [Nm _ _ _ _ _ (by omega),if_neg (by omega)];exact hpz j hj,hdig.2,Zxd hpv (by omega) (by omega) hdig.1⟩ (by first | omega | (dsimp only<;>omega)) K11 K4
  ·refine Yu<|Zu<|Zu<|Ox<|Za ?_
   obtain rfl:k=(dg U y).length:=by omega
   have hfin:=hpv
   rw [List.take_of_length_le (Nat.le_refl (dg U y).length),My Pd]at hfin
   exact Zg<|mv J<|mv J<|mv J<|dt (Yb J J (i:=2) J Zi Xv)<|dt (Ys J J J ⟨by omega,by omega⟩)<|mv J<|dt (Yw (ii:=3) (i:=i+(dg U y).length) J J J J (Yq pU) Xv Mg)<|tt (Kz (i:=3) (enc:=Iz) _ J J J J J J pU J hw (by decide) (by first | omega | (simp only [List.length_set];omega))) fun _ _=>Zf<|Oa<|Za<|Zg<|dt (Ys J J J ⟨by omega,by omega⟩)<|mv J<|Zf<|Xk (i+1,_) ⟨by first | omega | (dsimp only<;>omega),by simp;omega,Ln hpa _ _ hcU,fun j hj=>by rw [Nm _ _ _ _ _ (by omega),if_neg (by omega)];exact hpz j (by omega),by dsimp only;rw [show i+1+(dg U y).length=i+(dg U y).length+1 by omega,Gt _ _ _ _ (by omega),Qs,Nat.add_mul,←hfin]⟩ (by first | omega | (dsimp only<;>omega)) K5 K4
 ·refine Yu<|Zu<|Zu<|Ox<|Za<|Zc<|Zg<|mv J<|tt (Zh (n:=3) (Oi _ _) J J J K1 call127 (Xw 3 J J pU Ze) J hw) fun _ _=>Pr (Zf1 3 J J pU)<|as_ J<|Zf<|Za<|Zv ?_
  obtain rfl:i=(dg U x).length:=by omega
  have hx:tz o=dg U (x*y):=by
   rw [←Kk Pd _ hoa]
   congr 1
   rw [Nr U o _ (by omega),List.take_of_length_le (Nat.le_refl _),My Pd]at hv
   exact hv
  exact Yn (.inl J) hsc _ _ (fun a w hs=>Nn hs results194 J) J trivial J (Py 3 J J pU hx Zk)
set_option maxHeartbeats 1000000 in
theorem Zyd(x:Nat)(hx:x<U):Ml prog 198 #[.int .u64 (x:Int)] [] (.int .i64 (bl x:Int)):=by
 refine Ya func198 J ntmps198 J trivial ?_
 intro w0 sc hw hsc
 simp only [Zp,Zn]
 simp only [U]at hx
 have e32:=Kc x 32
 have e16:=Kc x 16
 have e8:=Kc x 8
 have e24:=Kc x 24
 have e40:=Kc x 40
 have e48:=Kc x 48
 have e56:=Kc x 56
 have f32:=Zc2 32 x
 have f16:=Zc2 16 x
 have f8:=Zc2 8 x
 have f24:=Zc2 24 x
 have f40:=Zc2 40 x
 have f48:=Zc2 48 x
 have f56:=Zc2 56 x
 have d1:=Nat.div_div_eq_div_mul x (2^32) (2^16)
 have d2:=Nat.div_div_eq_div_mul x (2^32) (2^8)
 have d3:=Nat.div_div_eq_div_mul x (2^16) (2^8)
 have d4:=Nat.div_div_eq_div_mul (x/2^32) (2^16) (2^8)
 have d5:=Nat.div_div_eq_div_mul x (2^32) (2^16*2^8)
 simp only [Nat.reducePow,Nat.reduceMul]at *
 refine Zc<|Zg<|as_ J<|Zf<|Za<|Zc<|Zc<|Zg<|mv J<|dt (Lx J J J)<|Zf<|Za<|Zq J (fun h338=>?_) (fun h338=>?_)
 ·refine Zc<|Zg<|mv J<|dt (Gu (n:=32) (n':=4294967296) J J J J J)<|as_ J<|Zf<|Za<|Zg<|as_ J<|Zf<|Za<|Zc<|Zc<|Zg<|mv J<|dt (Lx J J J)<|Zf<|Za<|Zq J (fun h342=>?_) (fun h342=>?_)
  ·refine Zc<|Zg<|mv J<|dt (Gu (n:=16) (n':=65536) J J J J J)<|as_ J<|Zf<|Za<|Zg<|mv J<|dt (Ys J J J ⟨by omega,by omega⟩)<|as_ J<|Zf<|Za<|Zc<|Zc<|Zg<|mv J<|dt (Lx J J J)<|Zf<|Za<|Zq J (fun h346=>?_) (fun h346=>?_)
   ·exact Zc<|Zg<|mv J<|dt (Gu (n:=8) (n':=256) J J J J J)<|as_ J<|Zf<|Za<|Zg<|mv J<|dt (Ys J J J ⟨by omega,by omega⟩)<|as_ J<|Zf<|Za<|Zc<|Zg<|mv J<|mv J<|dt (Zfr J J Zd0 uT5)<|dt (Zkg J J J uT9 J (by omega) (by decide) (by decide +kernel))<|dt (Aa J J uT5 uT3 (Cj _))<|dt (Ys J J J (Fc _ (by omega) (by omega)))<|as_ J<|Zf<|Za<|Zv<|xU hsc results198 J J (Ch (n:=x) (by omega) (by first | omega | (simp only [Nat.div_div_eq_div_mul,Nat.reduceMul,e32,e16,e8,e24,e40,e48,e56];omega))).symm
   ·exact Zj<|Za<|Zc<|Zg<|mv J<|mv J<|dt (Zfr J J Zd0 uT5)<|dt (Zkg J J J uT9 J (by omega) (by decide) (by decide +kernel))<|dt (Aa J J uT5 uT3 (Cj _))<|dt (Ys J J J (Fc _ (by omega) (by omega)))<|as_ J<|Zf<|Za<|Zv<|xU hsc results198 J J (Ch (n:=x) (by omega) (by first | omega | (simp only [Nat.div_div_eq_div_mul,Nat.reduceMul,e32,e16,e8,e24,e40,e48,e56];omega))).symm
  ·refine Zj<|Za<|Zc<|Zc<|Zg<|mv J<|dt (Lx J J J)<|Zf<|Za<|Zq J (fun h346_2=>?_) (fun h346_2=>?_)
   ·exact Zc<|Zg<|mv J<|dt (Gu (n:=8) (n':=256) J J J J J)<|as_ J<|Zf<|Za<|Zg<|mv J<|dt (Ys J J J ⟨by omega,by omega⟩)<|as_ J<|Zf<|Za<|Zc<|Zg<|mv J<|mv J<|dt (Zfr J J Zd0 uT5)<|dt (Zkg J J J uT9 J (by omega) (by decide) (by decide +kernel))<|dt (Aa J J uT5 uT3 (Cj _))<|dt (Ys J J J (Fc _ (by omega) (by omega)))<|as_ J<|Zf<|Za<|Zv<|xU hsc results198 J J (Ch (n:=x) (by omega) (by first | omega | (simp only [Nat.div_div_eq_div_mul,Nat.reduceMul,e32,e16,e8,e24,e40,e48,e56];omega))).symm
   ·exact Zj<|Za<|Zc<|Zg<|mv J<|mv J<|dt (Zfr J J Zd0 uT5)<|dt (Zkg J J J uT9 J (by omega) (by decide) (by decide +kernel))<|dt (Aa J J uT5 uT3 (Cj _))<|dt (Ys J J J (Fc _ (by omega) (by omega)))<|as_ J<|Zf<|Za<|Zv<|xU hsc results198 J J (Ch (n:=x) (by omega) (by first | omega | (simp only [Nat.div_div_eq_div_mul,Nat.reduceMul,e32,e16,e8,e24,e40,e48,e56];omega))).symm
 ·refine Zj<|Za<|Zc<|Zc<|Zg<|mv J<|dt (Lx J J J)<|Zf<|Za<|Zq J (fun h342_2=>?_) (fun h342_2=>?_)
  ·refine Zc<|Zg<|mv J<|dt (Gu (n:=16) (n':=65536) J J J J J)<|as_ J<|Zf<|Za<|Zg<|mv J<|dt (Ys J J J ⟨by omega,by omega⟩)<|as_ J<|Zf<|Za<|Zc<|Zc<|Zg<|mv J<|dt (Lx J J J)<|Zf<|Za<|Zq J (fun h346_3=>?_) (fun h346_3=>?_)
   ·exact Zc<|Zg<|mv J<|dt (Gu (n:=8) (n':=256) J J J J J)<|as_ J<|Zf<|Za<|Zg<|mv J<|dt (Ys J J J ⟨by omega,by omega⟩)<|as_ J<|Zf<|Za<|Zc<|Zg<|mv J<|mv J<|dt (Zfr J J Zd0 uT5)<|dt (Zkg J J J uT9 J (by omega) (by decide) (by decide +kernel))<|dt (Aa J J uT5 uT3 (Cj _))<|dt (Ys J J J (Fc _ (by omega) (by omega)))<|as_ J<|Zf<|Za<|Zv<|xU hsc results198 J J (Ch (n:=x) (by omega) (by first | omega | (simp only [Nat.div_div_eq_div_mul,Nat.reduceMul,e32,e16,e8,e24,e40,e48,e56];omega))).symm
   ·exact Zj<|Za<|Zc<|Zg<|mv J<|mv J<|dt (Zfr J J Zd0 uT5)<|dt (Zkg J J J uT9 J (by omega) (by decide) (by decide +kernel))<|dt (Aa J J uT5 uT3 (Cj _))<|dt (Ys J J J (Fc _ (by omega) (by omega)))<|as_ J<|Zf<|Za<|Zv<|xU hsc results198 J J (Ch (n:=x) (by omega) (by first | omega | (simp only [Nat.div_div_eq_div_mul,Nat.reduceMul,e32,e16,e8,e24,e40,e48,e56];omega))).symm
  ·refine Zj<|Za<|Zc<|Zc<|Zg<|mv J<|dt (Lx J J J)<|Zf<|Za<|Zq J (fun h346_4=>?_) (fun h346_4=>?_)
   ·exact Zc<|Zg<|mv J<|dt (Gu (n:=8) (n':=256) J J J J J)<|as_ J<|Zf<|Za<|Zg<|mv J<|dt (Ys J J J ⟨by omega,by omega⟩)<|as_ J<|Zf<|Za<|Zc<|Zg<|mv J<|mv J<|dt (Zfr J J Zd0 uT5)<|dt (Zkg J J J uT9 J (by omega) (by decide) (by decide +kernel))<|dt (Aa J J uT5 uT3 (Cj _))<|dt (Ys J J J (Fc _ (by omega) (by omega)))<|as_ J<|Zf<|Za<|Zv<|xU hsc results198 J J (Ch (n:=x) (by omega) (by first | omega | (simp only [Nat.div_div_eq_div_mul,Nat.reduceMul,e32,e16,e8,e24,e40,e48,e56];omega))).symm
   ·exact Zj<|Za<|Zc<|Zg<|mv J<|mv J<|dt (Zfr J J Zd0 uT5)<|dt (Zkg J J J uT9 J (by omega) (by decide) (by decide +kernel))<|dt (Aa J J uT5 uT3 (Cj _))<|dt (Ys J J J (Fc _ (by omega) (by omega)))<|as_ J<|Zf<|Za<|Zv<|xU hsc results198 J J (Ch (n:=x) (by omega) (by first | omega | (simp only [Nat.div_div_eq_div_mul,Nat.reduceMul,e32,e16,e8,e24,e40,e48,e56];omega))).symm
theorem Zmn(x:Nat)(hx:x<U):Ml prog 189 #[.int .u64 (x:Int)] [] (.int .i64 ((64-bl x:Nat):Int)):=by
 refine Ya func189 J ntmps189 J trivial ?_
 intro w0 sc hw hsc
 simp only [Zp,Zn]
 have hb:bl x≤64:=(Me 64 x).2 hx
 exact Zc<|Zg<|as_ J<|Zf<|Za<|Zc<|Zg<|mv J<|tt (Zh (n:=0) (Zyd _ hx) J J J K1 call198 Ze J hw) fun _ _=>dt (Qa J J J ⟨by omega,by omega⟩)<|as_ J<|Zf<|Za<|Zv<|xU hsc results189 J J (by congr 1;omega)
theorem Zh4(v:Value)(x:Nat)(hx:bl x≤1099511627776:=by omega):Ml prog 168 #[v] [dgp v x] (.int .i64 (bl x:Int)):=by
 refine Ya func168 J ntmps168 J K1 ?_
 intro w0 sc hw hsc
 simp only [Zp,Zn]
 have hX:=Mj x
 refine Zc<|Zg<|as_ J<|Zf<|Za<|Zc<|Zc<|Zg<|mv J<|dt (Yb J J (i:=1) J Zi Xv)<|dt (Pm J J J)<|Zf<|Za<|Zq J (fun h39=>?_) (fun h39=>?_)
 ·refine Zc<|Zg<|as_ J<|Zf<|Za<|Zv<|Xc ?_
  have h0:x=0:=(Ph Pd x).1 (by omega)
  exact xU hsc results168 J J (by rw [h0];rfl)
 ·have hp:0<x:=by rcases Nat.eq_zero_or_pos x with rfl | h;(simp [Ii]at h39);exact h
  obtain⟨z1,z2,z3,z4⟩:=Zq3 hp
  exact Zj<|Za<|Zc<|Zg<|mv J<|dt (Yb J J (i:=1) J Zi Xv)<|dt (Gq J J J ⟨by omega,by omega⟩)<|mv J<|mv J<|dt (Yb J J (i:=1) J Zi Xv)<|dt (Qa J J J ⟨by omega,by omega⟩)<|dt (Yw (ii:=1) (i:=(dg U x).length-1) J J J J Zi Xv Mg)<|dt (Xm (ii:=1) 0 J J J Zi pU (by first | omega | (simp only [List.length_set];omega)))<|tt (Zh (n:=1) (Zmn _ (Qm Pq (Li Pd _) _)) J J J K1 call189 Ze J hw) fun _ _=>dt (Qa J J J ⟨by omega,by omega⟩)<|as_ J<|Zf<|Za<|Zv<|xU hsc results168 J J (by congr 1;omega)
end Go.Sky

