/- rules, arithmetic and contracts: part 4
   Proved without conditions of its own: each theorem bears its own. -/
import Derived.Test.YtcmiiammekgooaaGreatSd02
import Derived.Test.YtcmiiammekgooaaGreatProg
import Derived.Test.YtcmiiammekgooaaGreatRows
import Derived.WalkKit
import Derived.ProofKit
import Derived.OpenShut
import Derived.ShutString
import Derived.ChangeOld
import Derived.Below
import Derived.Deep.Slices
import Derived.Lib.SmallJoins
set_option linter.all false
namespace Go.Sky
open Go.Proofs
theorem pU:Enc Tryz.prog 149 1 It:=Enc.flat Tryz.sizeOf149 Tryz.isAgg149 (fun _=>rfl)
theorem pB:Enc Tryz.prog 5 1 Zty:=Enc.flat Tryz.sizeOf5 Tryz.isAgg5 (fun _=>rfl)
theorem pN:Enc Tryz.prog 3 1 Ab:=Enc.flat Tryz.sizeOf3 Tryz.isAgg3 (fun _=>rfl)
theorem pZ:Enc Tryz.prog 3 1 Zb6:=Enc.flat Tryz.sizeOf3 Tryz.isAgg3 (fun _=>rfl)
theorem Zew(args:Array Value)(w:World):(callFunc 190 args).run Tryz.prog w=((add64Entry args).run Tryz.prog w).andThen fun v w'=> .ok (.value v) w':=
 run_callFunc_extern Tryz.func190 (by kernel_rfl) (by kernel_rfl) (by kernel_rfl) (by kernel_rfl) args w
theorem Zpp(args:Array Value)(w:World):(callFunc 191 args).run Tryz.prog w=((Za4 args).run Tryz.prog w).andThen fun v w'=> .ok (.value v) w':=
 run_callFunc_extern Tryz.func191 (by kernel_rfl) (by kernel_rfl) (by kernel_rfl) (by kernel_rfl) args w
end Go.Sky
theorem Go.Proofs.Tryz.ti149:Go.Proofs.Tryz.prog.info? 149=some Go.Proofs.Tryz.t149:=by kernel_rfl
namespace Go.Sky
open Go.Proofs
end Go.Sky
theorem Go.Proofs.Tryz.ti5:Go.Proofs.Tryz.prog.info? 5=some Go.Proofs.Tryz.t5:=by kernel_rfl
namespace Go.Sky
open Go.Proofs
end Go.Sky
theorem Go.Proofs.Tryz.ti3:Go.Proofs.Tryz.prog.info? 3=some Go.Proofs.Tryz.t3:=by kernel_rfl
namespace Go.Sky
open Go.Proofs
theorem pW:Enc Tryz.prog 31 2 Zeg:=Enc.agg (by decide) Tryz.sizeOf31 Tryz.isAgg31 (fun x=>⟨[.bool x.1,.string x.2],rfl,rfl,by simp [Value.oneCell']⟩)
theorem pV:Enc Tryz.prog 31 2 wv:=Enc.agg (by decide) Tryz.sizeOf31 Tryz.isAgg31 (fun x=>⟨[.bool (decide (x<0)),.string (Qc x.natAbs)],rfl,rfl,by simp [Value.oneCell']⟩)
theorem pI:Enc Tryz.prog 48 2 Zk3:=Enc.agg (by decide) Tryz.sizeOf48 Tryz.isAgg48 (fun x=>⟨[.bool (decide (x.1<0)),svv x.2],rfl,rfl,by simp [Value.oneCell']⟩)
theorem pS{α:Type} : Enc Tryz.prog 23 1 (Zaz (α:=α)):=Enc.flat Tryz.sizeOf23 Tryz.isAgg23 (fun _=>rfl)
theorem pQ:Enc Tryz.prog 41 4 rq:=Enc.agg (by decide) Tryz.sizeOf41 Tryz.isAgg41 (fun x=>⟨[.bool (decide (x.1<0)),.string (Qc x.1.natAbs),.bool (decide (x.2<0)),.string (Qc x.2.natAbs)],rfl,rfl,by simp [Value.oneCell']⟩)
theorem pR:Enc Tryz.prog 41 4 encQ:=Enc.agg (by decide) Tryz.sizeOf41 Tryz.isAgg41 (fun x=>⟨[.bool x.1.1,.string x.1.2,.bool x.2.1,.string x.2.2],rfl,rfl,by simp [Value.oneCell']⟩)
theorem sh31:Tryz.prog.stoodInHeld 31=false:=by kernel_rfl
theorem sh41:Tryz.prog.stoodInHeld 41=false:=by kernel_rfl
theorem eg31:Tryz.prog.eqGuardType Tryz.prog.depth 31=false:=by kernel_rfl
theorem in31(d:Nat)(w:World)(a:Bool)(s:ByteArray)(b:Bool)(t:ByteArray):(Op.equalIn (d+2) 31 (.agg #[.bool a,.string s]) (.agg #[.bool b,.string t])).run Tryz.prog w= .ok (eqW a s b t) w:=by
 have hu:Tryz.prog.underlying 31=some (.struct (Tryz.prog.fieldsOf 31)):=by unfold Program.fieldsOf;rw [Tryz.underlying31]
 rw [run_equalIn_agg w (d+1) 31 _ _ hu sh31]
 unfold Program.fieldsOf
 rw [Tryz.underlying31]
 simp [Op.eqFields,part,Tryz.isAgg4,Tryz.isAgg9,run_equalIn_bool' _ _ _ _ _ Tryz.underlying4,run_equalIn_string _ _ _ _ _ Tryz.underlying9]
 unfold eqW
 cases hab:(a == b)
 ·simp_all
 ·by_cases h:s.toList=t.toList<;>simp_all
theorem Zvk(w:World)(a:Bool)(s:ByteArray)(b:Bool)(t:ByteArray):(binOp .neq 31 (.agg #[.bool a,.string s]) (.agg #[.bool b,.string t])).run Tryz.prog w= .ok (.bool (!eqW a s b t)) w:=by
 rw [run_neq_struct,in31];rfl
theorem in41(d:Nat)(w:World)(a:Bool)(s:ByteArray)(a2:Bool)(s2:ByteArray)(b:Bool)(t:ByteArray)(b2:Bool)(t2:ByteArray):(Op.equalIn (d+3) 41 (.agg #[.bool a,.string s,.bool a2,.string s2]) (.agg #[.bool b,.string t,.bool b2,.string t2])).run Tryz.prog w= .ok (eqW a s b t && eqW a2 s2 b2 t2) w:=by
 have hu:Tryz.prog.underlying 41=some (.struct (Tryz.prog.fieldsOf 41)):=by unfold Program.fieldsOf;rw [Tryz.underlying41]
 rw [run_equalIn_agg w (d+2) 41 _ _ hu sh41]
 unfold Program.fieldsOf
 rw [Tryz.underlying41]
 simp [Op.eqFields,part,Tryz.isAgg31,Tryz.sizeOf31,in31]
 cases hab:eqW a s b t<;>cases hab2:eqW a2 s2 b2 t2<;>simp_all
theorem sh62:Tryz.prog.stoodInHeld 62=false:=by kernel_rfl
theorem eg62:Tryz.prog.eqGuardType Tryz.prog.depth 62=false:=by kernel_rfl
theorem in62(d:Nat)(w:World)(a:Bool)(s:ByteArray)(a2:Bool)(s2:ByteArray)(a3:Bool)(s3:ByteArray)(a4:Bool)(s4:ByteArray)(b:Bool)(t:ByteArray)(b2:Bool)(t2:ByteArray)(b3:Bool)(t3:ByteArray)(b4:Bool)(t4:ByteArray):(Op.equalIn (d+4) 62 (.agg #[.bool a,.string s,.bool a2,.string s2,.bool a3,.string s3,.bool a4,.string s4]) (.agg #[.bool b,.string t,.bool b2,.string t2,.bool b3,.string t3,.bool b4,.string t4])).run Tryz.prog w= .ok (eqW a s b t && eqW a2 s2 b2 t2 && (eqW a3 s3 b3 t3 && eqW a4 s4 b4 t4)) w:=by
 have hu:Tryz.prog.underlying 62=some (.struct (Tryz.prog.fieldsOf 62)):=by unfold Program.fieldsOf;rw [Tryz.underlying62]
 rw [run_equalIn_agg w (d+3) 62 _ _ hu sh62]
 unfold Program.fieldsOf
 rw [Tryz.underlying62]
 simp [Op.eqFields,part,Tryz.isAgg41,Tryz.sizeOf41,in41]
 cases hab:eqW a s b t && eqW a2 s2 b2 t2<;>cases hab2:eqW a3 s3 b3 t3 && eqW a4 s4 b4 t4<;>simp_all
theorem neq62(w:World)(a:Bool)(s:ByteArray)(a2:Bool)(s2:ByteArray)(a3:Bool)(s3:ByteArray)(a4:Bool)(s4:ByteArray)(b:Bool)(t:ByteArray)(b2:Bool)(t2:ByteArray)(b3:Bool)(t3:ByteArray)(b4:Bool)(t4:ByteArray):(binOp .neq 62 (.agg #[.bool a,.string s,.bool a2,.string s2,.bool a3,.string s3,.bool a4,.string s4]) (.agg #[.bool b,.string t,.bool b2,.string t2,.bool b3,.string t3,.bool b4,.string t4])).run Tryz.prog w= .ok (.bool (!(eqW a s b t && eqW a2 s2 b2 t2 && (eqW a3 s3 b3 t3 && eqW a4 s4 b4 t4)))) w:=by
 rw [run_neq_struct,in62];rfl
end Go.Sky
theorem Go.Proofs.Tryz.ti23:Go.Proofs.Tryz.prog.info? 23=some Go.Proofs.Tryz.t23:=by kernel_rfl
namespace Go.Sky
open Go.Proofs
end Go.Sky
theorem Go.Proofs.Tryz.ti31:Go.Proofs.Tryz.prog.info? 31=some Go.Proofs.Tryz.t31:=by kernel_rfl
namespace Go.Sky
open Go.Proofs
end Go.Sky
theorem Go.Proofs.Tryz.ti41:Go.Proofs.Tryz.prog.info? 41=some Go.Proofs.Tryz.t41:=by kernel_rfl
namespace Go.Sky
open Go.Proofs
end Go.Sky
theorem Go.Proofs.Tryz.ti48:Go.Proofs.Tryz.prog.info? 48=some Go.Proofs.Tryz.t48:=by kernel_rfl
namespace Go.Sky
open Go.Proofs
end Go.Sky
theorem Go.Proofs.Tryz.ti79:Go.Proofs.Tryz.prog.info? 79=some Go.Proofs.Tryz.t79:=by kernel_rfl
namespace Go.Sky
open Go.Proofs
end Go.Sky
theorem Go.Proofs.Tryz.ti4:Go.Proofs.Tryz.prog.info? 4=some Go.Proofs.Tryz.t4:=by kernel_rfl
namespace Go.Sky
open Go.Proofs
end Go.Sky
theorem Go.Proofs.Tryz.ti9:Go.Proofs.Tryz.prog.info? 9=some Go.Proofs.Tryz.t9:=by kernel_rfl
namespace Go.Sky
open Go.Proofs
theorem b31_:Tryz.prog.built 31 []=some #[.bool false,.string ⟨#[]⟩]:=by
 refine Oi _ Tryz.ti31 Tryz.underlying31 rfl (pl:=[(0,1),(1,1)]) (by simp [Tryz.ti4,Tryz.ti9];try decide) ?_
 simp [Instr.fill,show(Value.agg #[.bool false,.string ⟨#[]⟩]).cells=#[.bool false,.string ⟨#[]⟩]from rfl]
theorem Zto{v0 v1:Value}(h0:v0.oneCell'=true)(h1:v1.oneCell'=true):Tryz.prog.built 31 [(0,v0),(1,v1)]=some #[v0,v1]:=by
 refine Oi _ Tryz.ti31 Tryz.underlying31 rfl (pl:=[(0,1),(1,1)]) (by simp [Tryz.ti4,Tryz.ti9];try decide) ?_
 simp [Instr.fill,Mr h0,Mr h1,show(Value.agg #[.bool false,.string ⟨#[]⟩]).cells=#[.bool false,.string ⟨#[]⟩]from rfl]
theorem b41_:Tryz.prog.built 41 []=some #[.bool false,.string ⟨#[]⟩,.bool false,.string ⟨#[]⟩]:=by
 refine Oi _ Tryz.ti41 Tryz.underlying41 rfl (pl:=[(0,2),(2,2)]) (by simp [Tryz.ti31];try decide) ?_
 simp [Instr.fill,show(Value.agg #[.bool false,.string ⟨#[]⟩,.bool false,.string ⟨#[]⟩]).cells=#[.bool false,.string ⟨#[]⟩,.bool false,.string ⟨#[]⟩]from rfl]
theorem Zeu{c0_0 c0_1 c1_0 c1_1:Value} : Tryz.prog.built 41 [(0,.agg #[c0_0,c0_1]),(1,.agg #[c1_0,c1_1])]=some #[c0_0,c0_1,c1_0,c1_1]:=by
 refine Oi _ Tryz.ti41 Tryz.underlying41 rfl (pl:=[(0,2),(2,2)]) (by simp [Tryz.ti31];try decide) ?_
 simp [Instr.fill,show(Value.agg #[c0_0,c0_1]).cells=#[c0_0,c0_1]from rfl,show(Value.agg #[c1_0,c1_1]).cells=#[c1_0,c1_1]from rfl,show(Value.agg #[.bool false,.string ⟨#[]⟩,.bool false,.string ⟨#[]⟩]).cells=#[.bool false,.string ⟨#[]⟩,.bool false,.string ⟨#[]⟩]from rfl]
theorem b41_1{c1_0 c1_1:Value} : Tryz.prog.built 41 [(1,.agg #[c1_0,c1_1])]=some #[.bool false,.string ⟨#[]⟩,c1_0,c1_1]:=by
 refine Oi _ Tryz.ti41 Tryz.underlying41 rfl (pl:=[(0,2),(2,2)]) (by simp [Tryz.ti31];try decide) ?_
 simp [Instr.fill,show(Value.agg #[c1_0,c1_1]).cells=#[c1_0,c1_1]from rfl,show(Value.agg #[.bool false,.string ⟨#[]⟩,.bool false,.string ⟨#[]⟩]).cells=#[.bool false,.string ⟨#[]⟩,.bool false,.string ⟨#[]⟩]from rfl]
end Go.Sky
theorem Go.Proofs.Tryz.ti46:Go.Proofs.Tryz.prog.info? 46=some Go.Proofs.Tryz.t46:=by kernel_rfl
namespace Go.Sky
open Go.Proofs
theorem b48_:Tryz.prog.built 48 []=some #[.bool false,.slice none 0 0]:=by
 refine Oi _ Tryz.ti48 Tryz.underlying48 rfl (pl:=[(0,1),(1,1)]) (by simp [Tryz.ti4,Tryz.ti46];try decide) ?_
 simp [Instr.fill,show(Value.agg #[.bool false,.slice none 0 0]).cells=#[.bool false,.slice none 0 0]from rfl]
theorem b48_01{v0 v1:Value}(h0:v0.oneCell'=true)(h1:v1.oneCell'=true):Tryz.prog.built 48 [(0,v0),(1,v1)]=some #[v0,v1]:=by
 refine Oi _ Tryz.ti48 Tryz.underlying48 rfl (pl:=[(0,1),(1,1)]) (by simp [Tryz.ti4,Tryz.ti46];try decide) ?_
 simp [Instr.fill,Mr h0,Mr h1,show(Value.agg #[.bool false,.slice none 0 0]).cells=#[.bool false,.slice none 0 0]from rfl]
end Go.Sky
theorem Go.Proofs.Tryz.ti50:Go.Proofs.Tryz.prog.info? 50=some Go.Proofs.Tryz.t50:=by kernel_rfl
namespace Go.Sky
open Go.Proofs
theorem b50_01{c0_0 c0_1 c1_0 c1_1:Value} : Tryz.prog.built 50 [(0,.agg #[c0_0,c0_1]),(1,.agg #[c1_0,c1_1])]=some #[c0_0,c0_1,c1_0,c1_1]:=by
 refine Oi _ Tryz.ti50 Tryz.underlying50 rfl (pl:=[(0,2),(2,2)]) (by simp [Tryz.ti48];try decide) ?_
 simp [Instr.fill,show(Value.agg #[c0_0,c0_1]).cells=#[c0_0,c0_1]from rfl,show(Value.agg #[c1_0,c1_1]).cells=#[c1_0,c1_1]from rfl,show(Value.agg #[.bool false,.slice none 0 0,.bool false,.slice none 0 0]).cells=#[.bool false,.slice none 0 0,.bool false,.slice none 0 0]from rfl]
end Go.Sky
theorem Go.Proofs.Tryz.ti62:Go.Proofs.Tryz.prog.info? 62=some Go.Proofs.Tryz.t62:=by kernel_rfl
namespace Go.Sky
open Go.Proofs
theorem b62_:Tryz.prog.built 62 []=some #[.bool false,.string ⟨#[]⟩,.bool false,.string ⟨#[]⟩,.bool false,.string ⟨#[]⟩,.bool false,.string ⟨#[]⟩]:=by
 refine Oi _ Tryz.ti62 Tryz.underlying62 rfl (pl:=[(0,4),(4,4)]) (by simp [Tryz.ti41];try decide) ?_
 simp [Instr.fill,show(Value.agg #[.bool false,.string ⟨#[]⟩,.bool false,.string ⟨#[]⟩,.bool false,.string ⟨#[]⟩,.bool false,.string ⟨#[]⟩]).cells=#[.bool false,.string ⟨#[]⟩,.bool false,.string ⟨#[]⟩,.bool false,.string ⟨#[]⟩,.bool false,.string ⟨#[]⟩]from rfl]
theorem b62_01{c0_0 c0_1 c0_2 c0_3 c1_0 c1_1 c1_2 c1_3:Value} : Tryz.prog.built 62 [(0,.agg #[c0_0,c0_1,c0_2,c0_3]),(1,.agg #[c1_0,c1_1,c1_2,c1_3])]=some #[c0_0,c0_1,c0_2,c0_3,c1_0,c1_1,c1_2,c1_3]:=by
 refine Oi _ Tryz.ti62 Tryz.underlying62 rfl (pl:=[(0,4),(4,4)]) (by simp [Tryz.ti41];try decide) ?_
 simp [Instr.fill,show(Value.agg #[c0_0,c0_1,c0_2,c0_3]).cells=#[c0_0,c0_1,c0_2,c0_3]from rfl,show(Value.agg #[c1_0,c1_1,c1_2,c1_3]).cells=#[c1_0,c1_1,c1_2,c1_3]from rfl,show(Value.agg #[.bool false,.string ⟨#[]⟩,.bool false,.string ⟨#[]⟩,.bool false,.string ⟨#[]⟩,.bool false,.string ⟨#[]⟩]).cells=#[.bool false,.string ⟨#[]⟩,.bool false,.string ⟨#[]⟩,.bool false,.string ⟨#[]⟩,.bool false,.string ⟨#[]⟩]from rfl]
end Go.Sky
theorem Go.Proofs.Tryz.ti77:Go.Proofs.Tryz.prog.info? 77=some Go.Proofs.Tryz.t77:=by kernel_rfl
namespace Go.Sky
open Go.Proofs
theorem b79_012{v0 c1_0 c1_1 c1_2 c1_3 c2_0 c2_1 c2_2 c2_3:Value}(h0:v0.oneCell'=true):Tryz.prog.built 79 [(0,v0),(1,.agg #[c1_0,c1_1,c1_2,c1_3]),(2,.agg #[c2_0,c2_1,c2_2,c2_3])]=some #[v0,c1_0,c1_1,c1_2,c1_3,c2_0,c2_1,c2_2,c2_3]:=by
 refine Oi _ Tryz.ti79 Tryz.underlying79 rfl (pl:=[(0,1),(1,4),(5,4)]) (by simp [Tryz.ti41,Tryz.ti77];try decide) ?_
 simp [Instr.fill,Mr h0,show(Value.agg #[c1_0,c1_1,c1_2,c1_3]).cells=#[c1_0,c1_1,c1_2,c1_3]from rfl,show(Value.agg #[c2_0,c2_1,c2_2,c2_3]).cells=#[c2_0,c2_1,c2_2,c2_3]from rfl,show(Value.agg #[.int .i64 0,.bool false,.string ⟨#[]⟩,.bool false,.string ⟨#[]⟩,.bool false,.string ⟨#[]⟩,.bool false,.string ⟨#[]⟩]).cells=#[.int .i64 0,.bool false,.string ⟨#[]⟩,.bool false,.string ⟨#[]⟩,.bool false,.string ⟨#[]⟩,.bool false,.string ⟨#[]⟩]from rfl]
end Go.Sky
theorem Go.Proofs.Tryz.ti154:Go.Proofs.Tryz.prog.info? 154=some Go.Proofs.Tryz.t154:=by kernel_rfl
namespace Go.Sky
open Go.Proofs
end Go.Sky
theorem Go.Proofs.Tryz.ti151:Go.Proofs.Tryz.prog.info? 151=some Go.Proofs.Tryz.t151:=by kernel_rfl
namespace Go.Sky
open Go.Proofs
theorem Ol{v0 v1:Value}(h0:v0.oneCell'=true)(h1:v1.oneCell'=true):Tryz.prog.built 154 [(0,v0),(1,v1)]=some #[v0,v1]:=by
 refine Oi _ Tryz.ti154 Tryz.underlying154 rfl (pl:=[(0,1),(1,1)]) (by simp [Tryz.ti151,Tryz.ti4];try decide) ?_
 simp [Instr.fill,Mr h0,Mr h1,show(Value.agg #[.bool false,.slice none 0 0]).cells=#[.bool false,.slice none 0 0]from rfl]
theorem J{α:Sort _}{a:α} : a=a:=rfl
theorem CA{α:Type _}(a:α)(s t:List α):(a :: s) ++ t=a :: (s ++ t):=rfl
theorem NA{α:Type _}(t:List α):[] ++ t=t:=rfl
abbrev Mv (P:Program) (f:FuncId) (a:Array Value) (p:List Pc) (v:Value):Prop:=Cal P f a p false (G:=Unit) (fun _=>True) (fun _=>v) (fun _=>[])
abbrev rX (x y:Int):Value:= .agg #[.bool (decide (x<0)),.string (Qc x.natAbs),.bool (decide (y<0)),.string (Qc y.natAbs)]
theorem xU{P:Program}{N:Nat}{sc:Nat→Prop}{env:Env}{H:Hp}{fn:Func}{pre:List Pc}{al:Bool}{val:Unit→Value}{w0:World}{r1:ResultVar}{v:Value}(hsc:∀b,sc b→w0.heap.size≤b∨∃q∈pre,q.fp b)(hf:fn.results=#[r1])(h1:RV P N sc env H r1 v)(h0:lk H 0=some (Ix w0 (fun _=>False)))(hv:val ()=v):X N sc .ret (Zwu P fn w0 pre al (fun _=>True) val (fun _=>[])) env H:=Yl (.inl rfl) hsc () v (fun a w hs=>Np hs hf h1) hv trivial h0 Zk
theorem K1{t0:Sort _}{a0:t0} : a0=a0∧True:=⟨rfl,trivial⟩
theorem K2{t0:Sort _}{a0:t0}{t1:Sort _}{a1:t1} : a0=a0∧a1=a1∧True:=⟨rfl,rfl,trivial⟩
theorem K3{t0:Sort _}{a0:t0}{t1:Sort _}{a1:t1}{t2:Sort _}{a2:t2} : a0=a0∧a1=a1∧a2=a2∧True:=⟨rfl,rfl,rfl,trivial⟩
theorem K4{t0:Sort _}{a0:t0}{t1:Sort _}{a1:t1}{t2:Sort _}{a2:t2}{t3:Sort _}{a3:t3} : a0=a0∧a1=a1∧a2=a2∧a3=a3∧True:=⟨rfl,rfl,rfl,rfl,trivial⟩
theorem K5{t0:Sort _}{a0:t0}{t1:Sort _}{a1:t1}{t2:Sort _}{a2:t2}{t3:Sort _}{a3:t3}{t4:Sort _}{a4:t4} : a0=a0∧a1=a1∧a2=a2∧a3=a3∧a4=a4∧True:=⟨rfl,rfl,rfl,rfl,rfl,trivial⟩
theorem K6{t0:Sort _}{a0:t0}{t1:Sort _}{a1:t1}{t2:Sort _}{a2:t2}{t3:Sort _}{a3:t3}{t4:Sort _}{a4:t4}{t5:Sort _}{a5:t5} : a0=a0∧a1=a1∧a2=a2∧a3=a3∧a4=a4∧a5=a5∧True:=⟨rfl,rfl,rfl,rfl,rfl,rfl,trivial⟩
theorem K7{t0:Sort _}{a0:t0}{t1:Sort _}{a1:t1}{t2:Sort _}{a2:t2}{t3:Sort _}{a3:t3}{t4:Sort _}{a4:t4}{t5:Sort _}{a5:t5}{t6:Sort _}{a6:t6} : a0=a0∧a1=a1∧a2=a2∧a3=a3∧a4=a4∧a5=a5∧a6=a6∧True:=⟨rfl,rfl,rfl,rfl,rfl,rfl,rfl,trivial⟩
theorem K8{t0:Sort _}{a0:t0}{t1:Sort _}{a1:t1}{t2:Sort _}{a2:t2}{t3:Sort _}{a3:t3}{t4:Sort _}{a4:t4}{t5:Sort _}{a5:t5}{t6:Sort _}{a6:t6}{t7:Sort _}{a7:t7} : a0=a0∧a1=a1∧a2=a2∧a3=a3∧a4=a4∧a5=a5∧a6=a6∧a7=a7∧True:=⟨rfl,rfl,rfl,rfl,rfl,rfl,rfl,rfl,trivial⟩
theorem K9{t0:Sort _}{a0:t0}{t1:Sort _}{a1:t1}{t2:Sort _}{a2:t2}{t3:Sort _}{a3:t3}{t4:Sort _}{a4:t4}{t5:Sort _}{a5:t5}{t6:Sort _}{a6:t6}{t7:Sort _}{a7:t7}{t8:Sort _}{a8:t8} : a0=a0∧a1=a1∧a2=a2∧a3=a3∧a4=a4∧a5=a5∧a6=a6∧a7=a7∧a8=a8∧True:=⟨rfl,rfl,rfl,rfl,rfl,rfl,rfl,rfl,rfl,trivial⟩
theorem K10{t0:Sort _}{a0:t0}{t1:Sort _}{a1:t1}{t2:Sort _}{a2:t2}{t3:Sort _}{a3:t3}{t4:Sort _}{a4:t4}{t5:Sort _}{a5:t5}{t6:Sort _}{a6:t6}{t7:Sort _}{a7:t7}{t8:Sort _}{a8:t8}{t9:Sort _}{a9:t9} : a0=a0∧a1=a1∧a2=a2∧a3=a3∧a4=a4∧a5=a5∧a6=a6∧a7=a7∧a8=a8∧a9=a9∧True:=⟨rfl,rfl,rfl,rfl,rfl,rfl,rfl,rfl,rfl,rfl,trivial⟩
theorem K11{t0:Sort _}{a0:t0}{t1:Sort _}{a1:t1}{t2:Sort _}{a2:t2}{t3:Sort _}{a3:t3}{t4:Sort _}{a4:t4}{t5:Sort _}{a5:t5}{t6:Sort _}{a6:t6}{t7:Sort _}{a7:t7}{t8:Sort _}{a8:t8}{t9:Sort _}{a9:t9}{t10:Sort _}{a10:t10} : a0=a0∧a1=a1∧a2=a2∧a3=a3∧a4=a4∧a5=a5∧a6=a6∧a7=a7∧a8=a8∧a9=a9∧a10=a10∧True:=⟨rfl,rfl,rfl,rfl,rfl,rfl,rfl,rfl,rfl,rfl,rfl,trivial⟩
theorem K12{t0:Sort _}{a0:t0}{t1:Sort _}{a1:t1}{t2:Sort _}{a2:t2}{t3:Sort _}{a3:t3}{t4:Sort _}{a4:t4}{t5:Sort _}{a5:t5}{t6:Sort _}{a6:t6}{t7:Sort _}{a7:t7}{t8:Sort _}{a8:t8}{t9:Sort _}{a9:t9}{t10:Sort _}{a10:t10}{t11:Sort _}{a11:t11} : a0=a0∧a1=a1∧a2=a2∧a3=a3∧a4=a4∧a5=a5∧a6=a6∧a7=a7∧a8=a8∧a9=a9∧a10=a10∧a11=a11∧True:=⟨rfl,rfl,rfl,rfl,rfl,rfl,rfl,rfl,rfl,rfl,rfl,rfl,trivial⟩
theorem K14{t0:Sort _}{a0:t0}{t1:Sort _}{a1:t1}{t2:Sort _}{a2:t2}{t3:Sort _}{a3:t3}{t4:Sort _}{a4:t4}{t5:Sort _}{a5:t5}{t6:Sort _}{a6:t6}{t7:Sort _}{a7:t7}{t8:Sort _}{a8:t8}{t9:Sort _}{a9:t9}{t10:Sort _}{a10:t10}{t11:Sort _}{a11:t11}{t12:Sort _}{a12:t12}{t13:Sort _}{a13:t13} : a0=a0∧a1=a1∧a2=a2∧a3=a3∧a4=a4∧a5=a5∧a6=a6∧a7=a7∧a8=a8∧a9=a9∧a10=a10∧a11=a11∧a12=a12∧a13=a13∧True:=⟨rfl,rfl,rfl,rfl,rfl,rfl,rfl,rfl,rfl,rfl,rfl,rfl,rfl,rfl,trivial⟩
theorem K22{t0:Sort _}{a0:t0}{t1:Sort _}{a1:t1}{t2:Sort _}{a2:t2}{t3:Sort _}{a3:t3}{t4:Sort _}{a4:t4}{t5:Sort _}{a5:t5}{t6:Sort _}{a6:t6}{t7:Sort _}{a7:t7}{t8:Sort _}{a8:t8}{t9:Sort _}{a9:t9}{t10:Sort _}{a10:t10}{t11:Sort _}{a11:t11}{t12:Sort _}{a12:t12}{t13:Sort _}{a13:t13}{t14:Sort _}{a14:t14}{t15:Sort _}{a15:t15}{t16:Sort _}{a16:t16}{t17:Sort _}{a17:t17}{t18:Sort _}{a18:t18}{t19:Sort _}{a19:t19}{t20:Sort _}{a20:t20}{t21:Sort _}{a21:t21} : a0=a0∧a1=a1∧a2=a2∧a3=a3∧a4=a4∧a5=a5∧a6=a6∧a7=a7∧a8=a8∧a9=a9∧a10=a10∧a11=a11∧a12=a12∧a13=a13∧a14=a14∧a15=a15∧a16=a16∧a17=a17∧a18=a18∧a19=a19∧a20=a20∧a21=a21∧True:=⟨rfl,rfl,rfl,rfl,rfl,rfl,rfl,rfl,rfl,rfl,rfl,rfl,rfl,rfl,rfl,rfl,rfl,rfl,rfl,rfl,rfl,rfl,trivial⟩
theorem K24{t0:Sort _}{a0:t0}{t1:Sort _}{a1:t1}{t2:Sort _}{a2:t2}{t3:Sort _}{a3:t3}{t4:Sort _}{a4:t4}{t5:Sort _}{a5:t5}{t6:Sort _}{a6:t6}{t7:Sort _}{a7:t7}{t8:Sort _}{a8:t8}{t9:Sort _}{a9:t9}{t10:Sort _}{a10:t10}{t11:Sort _}{a11:t11}{t12:Sort _}{a12:t12}{t13:Sort _}{a13:t13}{t14:Sort _}{a14:t14}{t15:Sort _}{a15:t15}{t16:Sort _}{a16:t16}{t17:Sort _}{a17:t17}{t18:Sort _}{a18:t18}{t19:Sort _}{a19:t19}{t20:Sort _}{a20:t20}{t21:Sort _}{a21:t21}{t22:Sort _}{a22:t22}{t23:Sort _}{a23:t23} : a0=a0∧a1=a1∧a2=a2∧a3=a3∧a4=a4∧a5=a5∧a6=a6∧a7=a7∧a8=a8∧a9=a9∧a10=a10∧a11=a11∧a12=a12∧a13=a13∧a14=a14∧a15=a15∧a16=a16∧a17=a17∧a18=a18∧a19=a19∧a20=a20∧a21=a21∧a22=a22∧a23=a23∧True:=⟨rfl,rfl,rfl,rfl,rfl,rfl,rfl,rfl,rfl,rfl,rfl,rfl,rfl,rfl,rfl,rfl,rfl,rfl,rfl,rfl,rfl,rfl,rfl,rfl,trivial⟩
theorem K25{t0:Sort _}{a0:t0}{t1:Sort _}{a1:t1}{t2:Sort _}{a2:t2}{t3:Sort _}{a3:t3}{t4:Sort _}{a4:t4}{t5:Sort _}{a5:t5}{t6:Sort _}{a6:t6}{t7:Sort _}{a7:t7}{t8:Sort _}{a8:t8}{t9:Sort _}{a9:t9}{t10:Sort _}{a10:t10}{t11:Sort _}{a11:t11}{t12:Sort _}{a12:t12}{t13:Sort _}{a13:t13}{t14:Sort _}{a14:t14}{t15:Sort _}{a15:t15}{t16:Sort _}{a16:t16}{t17:Sort _}{a17:t17}{t18:Sort _}{a18:t18}{t19:Sort _}{a19:t19}{t20:Sort _}{a20:t20}{t21:Sort _}{a21:t21}{t22:Sort _}{a22:t22}{t23:Sort _}{a23:t23}{t24:Sort _}{a24:t24} : a0=a0∧a1=a1∧a2=a2∧a3=a3∧a4=a4∧a5=a5∧a6=a6∧a7=a7∧a8=a8∧a9=a9∧a10=a10∧a11=a11∧a12=a12∧a13=a13∧a14=a14∧a15=a15∧a16=a16∧a17=a17∧a18=a18∧a19=a19∧a20=a20∧a21=a21∧a22=a22∧a23=a23∧a24=a24∧True:=⟨rfl,rfl,rfl,rfl,rfl,rfl,rfl,rfl,rfl,rfl,rfl,rfl,rfl,rfl,rfl,rfl,rfl,rfl,rfl,rfl,rfl,rfl,rfl,rfl,rfl,trivial⟩
def Ze9:=@Go.Proofs.Tryz.call103
def Cj:=@Go.Proofs.Tryz.call117
def Mz:=@Go.Proofs.Tryz.call130
def Me:=@Go.Proofs.Tryz.call133
def Af:=@Go.Proofs.Tryz.call149
def Bl:=@Go.Proofs.Tryz.call21
def Zf4:=@Go.Proofs.Tryz.call44
def Zb9:=@Go.Proofs.Tryz.call45
def Zes:=@Go.Proofs.Tryz.call49
def cF69:=@Go.Proofs.Tryz.call69
def cF74:=@Go.Proofs.Tryz.call74
def Bg:=@Go.Proofs.Tryz.call81
def Fg:=@Go.Proofs.Tryz.isAgg151
def Lg:=@Go.Proofs.Tryz.isAgg154
def Ai:=@Go.Proofs.Tryz.isAgg26
def Qg:=@Go.Proofs.Tryz.isAgg31
def iA4:=@Go.Proofs.Tryz.isAgg4
def Xt:=@Go.Proofs.Tryz.isAgg41
def Zou:=@Go.Proofs.Tryz.isAgg46
def Bp:=@Go.Proofs.Tryz.isAgg48
def iA50:=@Go.Proofs.Tryz.isAgg50
def Zhy:=@Go.Proofs.Tryz.isAgg62
def iA9:=@Go.Proofs.Tryz.isAgg9
def Zcg:=@Go.Proofs.Tryz.isAgg98
def Nx:=@Go.Proofs.Tryz.sizeOf149
def Fa:=@Go.Proofs.Tryz.sizeOf151
def Yy:=@Go.Proofs.Tryz.sizeOf154
def Zf7:=@Go.Proofs.Tryz.sizeOf165
def Gj:=@Go.Proofs.Tryz.sizeOf26
def zT3:=@Go.Proofs.Tryz.sizeOf3
def Ye:=@Go.Proofs.Tryz.sizeOf31
def zT4:=@Go.Proofs.Tryz.sizeOf4
def Yq:=@Go.Proofs.Tryz.sizeOf41
def Zn3:=@Go.Proofs.Tryz.sizeOf46
def Kd:=@Go.Proofs.Tryz.sizeOf48
def zT50:=@Go.Proofs.Tryz.sizeOf50
def Bi:=@Go.Proofs.Tryz.sizeOf62
def zT9:=@Go.Proofs.Tryz.sizeOf9
def Zo7:=@Go.Proofs.Tryz.sizeOf96
def Ck:=@Go.Proofs.Tryz.sizeOf98
def Ks:=@Go.Proofs.Tryz.underlying102
def Zc8:=@Go.Proofs.Tryz.underlying149
def Xp:=@Go.Proofs.Tryz.underlying151
def Mn:=@Go.Proofs.Tryz.underlying154
def Zjl:=@Go.Proofs.Tryz.underlying165
def Zgf:=@Go.Proofs.Tryz.underlying167
def Zn7:=@Go.Proofs.Tryz.underlying172
def uT22:=@Go.Proofs.Tryz.underlying22
def Qi:=@Go.Proofs.Tryz.underlying23
def Zo3:=@Go.Proofs.Tryz.underlying29
def uT3:=@Go.Proofs.Tryz.underlying3
def Cm:=@Go.Proofs.Tryz.underlying31
def Zbu:=@Go.Proofs.Tryz.underlying34
def uT4:=@Go.Proofs.Tryz.underlying4
def Fb:=@Go.Proofs.Tryz.underlying41
def Lc:=@Go.Proofs.Tryz.underlying46
def Zc7:=@Go.Proofs.Tryz.underlying48
def uT5:=@Go.Proofs.Tryz.underlying5
def uT50:=@Go.Proofs.Tryz.underlying50
def Zo2:=@Go.Proofs.Tryz.underlying62
def Zji:=@Go.Proofs.Tryz.underlying74
def Bm:=@Go.Proofs.Tryz.underlying79
def Zh5:=@Go.Proofs.Tryz.underlying83
def uT9:=@Go.Proofs.Tryz.underlying9
def Zjk:=@Go.Proofs.Tryz.underlying96
def Zt6:=@Go.Proofs.Tryz.underlying98
open Go.ChangeShapes Go.WideShapes Go.ChangeAt Go.RowKit Go.Joins Go.Deep
variable {P:Program} {W:World} {H:Type} {enc:TypeId×Value→H}
theorem Fn {base:Nat} {spare:Nat→Bool} {held:Bool} {fuel:Nat} {t:TypeId} {f0 f1:Field} {cs:List Value} {x:DataW H×List MemPlace}
  (ht:P.underlying t=some (.struct #[f0,f1])) (hC:P.cellsOf t=2) (ho0:f0.offset=0) (ho1:f1.offset=1) (hc0:P.cellsOf f0.type=1) (hc1:P.cellsOf f1.type=1) (h0:P.underlying f0.type=some .bool) (h1:P.underlying f1.type=some .string)
  (h:DataW.trod enc P W base spare held fuel t cs=some x):∃(b:Bool) (s:ByteArray),cs=[.bool b,.string s]∧s.size≤maxLen:=by
 obtain⟨y0,y1,n,hx,hl,e0,e1⟩:=trod_struct2 ht h
 rw [hC]at hl
 match cs,hl with
 | [c0,c1],_=>
  rw [ho0,hc0]at e0
  rw [ho1,hc1]at e1
  obtain⟨b,hb,_⟩:=DataW.trod_bool h0 e0
  obtain⟨s,hs,_,hz⟩:=DataW.trod_string h1 e1
  simp at hb hs
  exact⟨b,s,by rw [hb,hs],hz⟩
theorem Ae{α:Type}[Inhabited α]{p:Nat→α→Prop} : ∀n,(∀i,i<n→∃x,p i x)→∃xs:List α,xs.length=n∧∀i x,xs[i]? = some x→p i x
 | 0,_=>⟨[],rfl,fun i x h=>by simp at h⟩
 | n+1,h=>by
  obtain⟨xs,hl,hp⟩:=Ae n fun i hi=>h i (by omega)
  obtain⟨x,hx⟩:=h n (by omega)
  refine⟨xs ++ [x],by simp [hl],fun i y hy=>?_⟩
  rcases Nat.lt_or_ge i n with hi | hi
  ·rw [List.getElem?_append_left (by omega)]at hy;exact hp i y hy
  ·rw [List.getElem?_append_right (by omega),hl]at hy
   rcases Nat.eq_zero_or_pos (i-n)with h0 | h0
   ·rw [h0]at hy;simp at hy;subst hy;rw [show i=n by omega];exact hx
   ·rw [List.getElem?_eq_none (by simp;omega)]at hy;cases hy
theorem Ba{r:Reach}{b0:Nat}{t e:TypeId}{a:Addr}{len cap:Nat}(hs:P.underlying t=some (.slice e))(hv:Value.okWide P W r b0 t (.slice (some a) len cap)):a.spot=none∧a.block<W.heap.size:=by
 unfold Value.okWide at hv
 rw [hs]at hv
 simp only at hv
 unfold Cell.okWide at hv
 rw [hs]at hv
 simp only at hv
 unfold Cell.ok at hv
 rw [hs]at hv
 simp only at hv
 obtain⟨_,_,_,h1,row,cells,h2,_⟩:=hv
 refine⟨h1,?_⟩
 unfold World.shape? at h2
 rcases Nat.lt_or_ge a.block W.heap.size with h | h
 ·exact h
 ·rw [Array.getElem?_eq_none h]at h2
  simp at h2
theorem Zft {t e:TypeId} {f0 f1:Field} {v:Value} {d:DataW H} {p:List MemPlace} (hs:P.underlying t=some (.slice e))
  (ht:P.underlying e=some (.struct #[f0,f1])) (hC:P.cellsOf e=2) (ho0:f0.offset=0) (ho1:f1.offset=1) (hc0:P.cellsOf f0.type=1) (hc1:P.cellsOf f1.type=1) (h0:P.underlying f0.type=some .bool) (h1:P.underlying f1.type=some .string)
  {r:Reach} {b0:Nat} (hv:Value.okWide P W r b0 t v) (h:DataW.Trod enc P W 0 (fun _=>true) true t v d p) (hlt:∀x∈p,x.block<W.heap.size) :
  ∃r:List (Bool×ByteArray),(slp 2 Zeg v r).holds W:=by
 obtain⟨a0,len,cap,rfl⟩:=okWide_slice hs hv
 obtain⟨fuel,hf⟩:=h
 rcases open_slice hs hf with⟨hcs,_⟩ | ⟨a,len',cap',m,n,D,Pl,hcs,_,hl,hm,hmm,hx,hel⟩
 ·simp [Value.cells]at hcs
  obtain⟨rfl,rfl,rfl⟩:=hcs
  exact⟨[],Zac 2 Zeg W⟩
 ·simp [Value.cells]at hcs
  obtain⟨rfl,rfl,rfl⟩:=hcs
  simp at hmm
  subst hmm
  obtain⟨xs,hxl,hxs⟩:=Ae (p:=fun i (z:Bool×ByteArray)=>W.cells? 0 (a.add (i*2)) 2=some [.bool z.1,.string z.2]) len fun i hi=>by
   obtain⟨cs',h2,h3⟩:=hel i (by omega)
   rw [hC]at h2
   obtain⟨b,s,rfl,_⟩:=Fn ht hC ho0 ho1 hc0 hc1 h0 h1 h3
   exact⟨(b,s),h2⟩
  have hp:p=MemPlace.row a (m*2) ++ (List.range m).flatMap Pl:=by rw [hC]at hx;exact(Prod.mk.inj hx).2
  refine⟨xs,⟨some a,m,by rw [hxl],by omega,hm,?_⟩,fun b hb=>?_⟩
  ·rcases Nat.eq_zero_or_pos len with hz | hz
   ·exact .inl (List.eq_nil_of_length_eq_zero (by omega))
   ·right
    obtain⟨g,off,spot⟩:=a
    obtain⟨hsp,_⟩:=Ba hs hv
    simp only at hsp
    subst hsp
    refine⟨g,off,rfl,fun i x hi j u hj=>?_⟩
    obtain⟨_,_,hc⟩:=World.cells?_some (hxs i x hi)
    have hj2:j<2:=by
     rcases Nat.lt_or_ge j 2 with h | h
     ·exact h
     ·rw [List.getElem?_eq_none (by simp [Value.cells];omega)]at hj;cases hj
    have:=hc j hj2
    simp only [Nw]at this
    rw [this]
    simpa [Value.cells]using hj
  ·cases hb
   exact(Ba hs hv).2
theorem Zbb {t e:TypeId} {g0 g1 f0 f1:Field} {v:Value} {d:DataW H} {p:List MemPlace} {base:Nat} {spare:Nat→Bool} {held:Bool} {r:Reach} {b0:Nat}
  (hg:P.underlying t=some (.struct #[g0,g1])) (ht:P.underlying e=some (.struct #[f0,f1])) (hC4:P.cellsOf t=4) (hC:P.cellsOf e=2) (hg0:g0.type=e) (hg1:g1.type=e) (hp0:g0.offset=0) (hp1:g1.offset=2)
  (hc0:P.cellsOf f0.type=1) (hc1:P.cellsOf f1.type=1) (h0:P.underlying f0.type=some .bool) (h1:P.underlying f1.type=some .string) (ho0:f0.offset=0) (ho1:f1.offset=1)
  (hv:Value.okWide P W r b0 t v) (h:DataW.Trod enc P W base spare held t v d p):∃(b:Bool) (s:ByteArray) (c:Bool) (u:ByteArray),v= .agg #[.bool b,.string s,.bool c,.string u]:=by
 obtain⟨cs,rfl,hsz⟩:=okWide_struct hg hv
 obtain⟨fuel,hf⟩:=h
 obtain⟨y0,y1,n,hx,hl,e0,e1⟩:=trod_struct2 hg hf
 rw [hg0,hp0,hC]at e0
 rw [hg1,hp1,hC]at e1
 obtain⟨b,s,hb,_⟩:=Fn ht hC ho0 ho1 hc0 hc1 h0 h1 e0
 obtain⟨c,u,hc,_⟩:=Fn ht hC ho0 ho1 hc0 hc1 h0 h1 e1
 refine⟨b,s,c,u,?_⟩
 rw [show cs=#[.bool b,.string s,.bool c,.string u]from Array.ext' ?_]
 obtain⟨l⟩:=cs
 simp only [Value.cells]at hb hc
 match l,hsz,hb,hc with
 | l,hsz,hb,hc=>
  have h4:l.length=4:=by rw [←hC4];exact hsz
  match l,h4 with
  | [a,b',c',d'],_=>simp_all
end Go.Sky
namespace Go.Sky
set_option maxRecDepth 20000
theorem Zlj{K:Nat}{f:Nat→Int}{n:Nat}(h:∀i,i<n→bl (f i).natAbs≤K)(hn:n≤1023):bl (Qa f n).natAbs≤K+10:=by
 rw [Md]
 have h1:=Zti h
 have h2:n*(2^K-1)≤1023*(2^K-1):=Nat.mul_le_mul_right _ hn
 have h3:0<2^K:=Nat.two_pow_pos K
 rw [Nat.pow_add]
 omega
theorem Zef(zs:List (Int×SL))(z:Int×SL):Oz (zs ++ [z])=Oz zs ++ [z.1]:=by simp [Oz]
theorem padd_mk(p q:List Int):tzl (mk (max p.length q.length) fun t=>cf p t+cf q t)=Zon p q:=rfl
theorem pmul_mk(p q:List Int):tzl (mk (p.length+q.length-1) fun t=>Qa (fun k=>cf p k*cf q (t-k)) (t+1))=Nr p q:=rfl
theorem Zde{x:Int}{m:Nat}(h:bl x.natAbs≤m)(n:Nat):bl (x^n).natAbs≤n*m+1:=by
 rcases Nat.eq_zero_or_pos n with h0 | h0
 ·rw [h0,Int.pow_zero];have:bl (1:Int).natAbs=1:=by decide
  omega
 ·have:=Dg x h n h0;omega
theorem Ct(p:List Int)(c:Int):(Xr p c).length≤p.length:=by
 unfold Xr;have:=Gp (p.map (· * c));rwa [List.length_map]at this
theorem ev_tb{p:List Int}{x y:Int}(hs:Sz 1000000 p)(hx:∀k,bl (x^k).natAbs≤k*1000000+1)(hy:∀k,bl (y^k).natAbs≤k*1000000+1)(hl:p.length≤30)(t:Nat):bl (cf p t*(x^t*y^(p.length-1-t))).natAbs≤100000000:=by
 rcases Nat.lt_or_ge t p.length with h | h
 ·have h1:=hx t
  have h2:=hy (p.length-1-t)
  have h3:=Qb (x^t) (y^(p.length-1-t))
  have h4:=Qb (cf p t) (x^t*y^(p.length-1-t))
  have h5:=hs t
  have h6:t*1000000+(p.length-1-t)*1000000≤30*1000000:=by rw [←Nat.add_mul];exact Nat.mul_le_mul_right _ (by omega)
  omega
 ·rw [Qe h,Int.zero_mul];exact Nat.zero_le _
theorem Lb{y:Int}(h:y≠0):∀n:Nat,y^n≠0
 | 0=>by rw [Int.pow_zero];omega
 | n+1=>by rw [Int.pow_succ];exact Int.mul_ne_zero (Lb h n) h
theorem Zos(xs ys:List Int):xs.map wr=ys.map wr↔xs=ys:=by
 refine⟨fun h=>?_,fun h=>by rw [h]⟩
 exact List.map_inj_right (fun x y h=>Zo9 (congrArg Prod.fst h) (congrArg Prod.snd h)) |>.1 h
theorem Cal.imp2{P:Program}{f:FuncId}{args:Array Value}{p1 p q:Pc}{pre:List Pc}{al:Bool}{G:Type}{φ:G→Prop}{val:G→Value}{its:G→List Pc}(h:Cal P f args (p1 :: p :: pre) al φ val its)(hh:∀w,q.holds w→p.holds w)(hf:∀b,p.fp b→q.fp b) :
  Cal P f args (p1 :: q :: pre) al φ val its:=fun w hp=>by
 refine(h w fun r hr=>?_).mono ?_
 ·rcases List.mem_cons.1 hr with rfl | hr
  ·exact hp _ (List.mem_cons_self ..)
  ·rcases List.mem_cons.1 hr with rfl | hr
   ·exact hh w (hp q (List.mem_cons_of_mem _ (List.mem_cons_self ..)))
   ·exact hp r (List.mem_cons_of_mem _ (List.mem_cons_of_mem _ hr))
 ·rintro e w' ⟨g,he,hg,hb,hits⟩
  refine⟨g,he,hg,hb,fun p' hp'=>?_⟩
  obtain⟨h1,h2,h3⟩:=hits p' hp'
  refine⟨h1,h2,fun b hb=>?_⟩
  rcases h3 b hb with h | ⟨h,r,hr,hrb⟩
  ·exact .inl h
  ·refine .inr ⟨h,?_⟩
   rcases List.mem_cons.1 hr with rfl | hr
   ·exact⟨r,List.mem_cons_self ..,hrb⟩
   ·rcases List.mem_cons.1 hr with rfl | hr
    ·exact⟨q,List.mem_cons_of_mem _ (List.mem_cons_self ..),hf b hrb⟩
    ·exact⟨r,List.mem_cons_of_mem _ (List.mem_cons_of_mem _ hr),hrb⟩
theorem Zg6{r:List (Bool×ByteArray)}(ha:r.all (fun w=>okW w.1 w.2)=true):okP r=(decide (r.length≤25) && (decide (r.length=0) || decide ((0:Int)<(((r.getD (r.length-1) (false,⟨#[]⟩)).2.size:Nat):Int)))):=by
 unfold okP
 rw [ha,Bool.true_and]
 congr 2
 rw [decide_eq_decide];omega
def shm(q:List Int)(c:Int)(s i:Nat):List Int:=mk (s+i) fun t=>if t<s then 0 else c*cf q (t-s)
theorem cf_shm(q:List Int)(c:Int)(s t:Nat):cf (shm q c s q.length) t=if s≤t∧t<s+q.length then c*cf q (t-s)else 0:=by
 unfold shm
 rw [Ib]
 by_cases h1:t<s
 ·rw [if_neg (by omega:¬(s≤t∧t<s+q.length))];split
  ·rfl
  ·rfl
 ·by_cases h2:t<s+q.length
  ·rw [if_pos h2,if_neg h1,if_pos (show s≤t∧t<s+q.length by omega)]
  ·rw [if_neg h2,if_neg (show ¬(s≤t∧t<s+q.length) by omega)]
section
variable {p q:List Int}
theorem Zfk(hq:0<q.length)(hl:q.length≤p.length):∀j,j≤p.length-q.length+1→∀t,p.length-j≤t→cf (Oc p q j) t=0
 | 0,_,t,ht=>Qe (by unfold Oc;omega)
 | j+1,hj,t,ht=>by
  rcases Nat.lt_or_ge t p.length with h | h
  ·unfold Oc
   rw [Zns (by rw [Nv];exact h)]
   by_cases he:t=p.length-1-j
   ·subst he
    rw [if_pos (by omega),show p.length-1-j-(p.length-1-j-(q.length-1))=q.length-1 by omega]
    omega
   ·rw [Zfk hq hl j (by omega) t (by omega),Int.zero_mul,if_neg (by omega)];rfl
  ·exact Qe (by rw [Nv];omega)
def RestInv(p q R:List Int)(j:Nat):Prop:=Tr R∧∀t,cf R t=cf (Oc p q j) t*cf q (q.length-1)^(p.length-q.length+1-j)
end
end Go.Sky
namespace Go.Sky
section
variable {P:Program} {N:Nat} {sc:Nat→Prop} {env env':Env} {H H':Hp}
end
end Go.Sky
namespace Go.Sky
def rterm(a b:Int):Nat→List Int
 | 0=>[1]
 | i+1=>Nr (rterm a b i) (tzl [a,b])
def rsum(p:List Int)(a b d:Int):Nat→List Int
 | 0=>[]
 | i+1=>Zon (rsum p a b d i) (Xr (rterm a b i) (cf p i*d^(p.length-1-i)))
def hs(f:Nat→PS):Nat→PS
 | 0=>0
 | n+1=>hs f n+f n
theorem ps_tzl(p:List Int):ps (tzl p)=ps p:=PS.ext' fun i=>Kq p i
abbrev RW:=List (Bool×ByteArray)
abbrev qR (z:SL×RW):Pc:=slp 2 Zeg (svv z.1) z.2
abbrev qZ (z:SL×List Int):Pc:=slp 2 wv (svv z.1) z.2
abbrev R0:SL×RW:=((none,0,0),[])
def short1(r:RW):Bool:=(decide (r.length≤14) || decide (r.length=26)) && r.all fun c=>decide (c.2.size≤16)
def shortb(ls:List RW):Bool:=ls.all short1
theorem Zj6 {P:Program} {N:Nat} {sc:Nat→Prop} {M:Nat→Prop} {env:Env} {H:Hp} {ops:Array Oper} {F:Env→Hp→Prop} {rest:List (Nat×Nat)} {i:Nat} {o:Oper} {G:Type} {φ:G→Prop} {genv:G→Env} {gH:G→Hp} {j e:Nat} {b:Bool} (ho:ops[i]? = some o) (hg:o.guard=some (j,b)) (hj:(ops[j]?).bind (·.dst)=some e) (he:lk env e=some (.bool b)) (heN:Nat.blt e N=true) (ht:T P N sc M o env H φ genv gH)
  (h:∀g,φ g→LD P N sc M ops F rest (genv g) (gH g)) :
  LD P N sc M ops F ((i,1) :: rest) env H:=r1g ht ho hg hj he heN h
theorem inI_bl{x:Int}(h:inI x):bl x.natAbs≤65536:=Zdf (l:=[x]) (fun y hy=>by rw [List.mem_singleton.1 hy];exact h) 0
theorem Fp{f:Nat→Int}{k:Nat} : ∀{n:Nat},k<n→(∀i,i<n→i≠k→f i=0)→Qa f n=f k
 | 0,hk,_=>absurd hk (Nat.not_lt_zero _)
 | n+1,hk,h=>by
  rw [Xj]
  by_cases e:k=n
  ·subst e
   rw [Fc fun i hi=>h i (by omega) (by omega),Int.zero_add]
  ·rw [h n (by omega) (fun x=>e x.symm),Fp (by omega) (fun i hi=>h i (by omega)),Int.add_zero]
theorem Dd{p q:List Int}{a b:Nat}(ha:∀i,a<i→cf p i=0)(hb:∀i,b<i→cf q i=0):(ps p*ps q).c (a+b)=cf p a*cf q b:=by
 rw [PS.mul_c,Fp (k:=a) (by omega) fun i hi hne=>?_]
 ·rw [Ip,Ip,show a+b-a=b by omega]
 ·rw [Ip,Ip]
  rcases Nat.lt_or_ge a i with h | h
  ·rw [ha i h,Int.zero_mul]
  ·rw [hb (a+b-i) (by omega),Int.mul_zero]
theorem Zg9(s s':List Int)(c c':Int)(f:PS)(t:Nat):(ps (Zoi (Xr s c) (Xr s' c'))*f).c t=c*(ps s*f).c t-c'*(ps s'*f).c t:=by
 rw [PS.mul_c,PS.mul_c,PS.mul_c,←Nj,Int.sub_eq_add_neg,←Int.neg_mul,←Nj,←Fr]
 refine Xe fun k _=>?_
 rw [Ip,Ip,Ip,Ci,Qh,Qh]
 grind
theorem mul_low{q s r:List Int}(hq:Tr q)(hq0:q≠[])(h:∀t,(ps s*ps q).c t=cf r t)(hr:∀t,q.length-1≤t→cf r t=0):∀t,cf s t=0:=by
 have hlead:=hq.mem hq0
 have hlen:0<q.length:=List.length_pos_iff.2 hq0
 have hs:tzl s=[]:=by
  rcases Zgk (tzl s)with h1 | ⟨ys,y,h1⟩
  ·exact h1
  ·exfalso
   have ht:=Om s
   have hne:tzl s≠[]:=by rw [h1];simp
   have h2:=ht.mem hne
   have h3:=Dd (p:=tzl s) (q:=q) (a:=(tzl s).length-1) (b:=q.length-1) (fun i hi=>Qe (by omega)) (fun i hi=>Qe (by omega))
   have h4:ps (tzl s)=ps s:=PS.ext' fun i=>Kq s i
   rw [h4,h,hr _ (by omega)]at h3
   rcases Int.mul_eq_zero.1 h3.symm with h5 | h5
   ·exact h2 h5
   ·exact hlead h5
 exact(Ms s).1 hs
theorem La{s:List Int}(h:∀t,cf s t=0)(f:PS)(t:Nat):(ps s*f).c t=0:=by
 rw [PS.mul_c]
 exact Fc fun k _=>by rw [Ip,h,Int.zero_mul]
theorem Pw{p q:List Int}(hp:Tr p)(hq:Tr q)(h1:p≠[])(h2:q≠[]):(Nr p q).length=p.length+q.length-1:=by
 have l1:=List.length_pos_iff.2 h1
 have l2:=List.length_pos_iff.2 h2
 unfold Nr
 rw [Zbv,Xi]
 right
 rw [Xi,Ib,if_pos (by omega),show p.length+q.length-1-1=(p.length-1)+(q.length-1) by omega,Dd (fun i hi=>Qe (by omega)) (fun i hi=>Qe (by omega))]
 exact Int.mul_ne_zero (hp.mem h1) (hq.mem h2)
def mono(s:Nat)(c:Int):List Int:=List.replicate s 0 ++ [c]
theorem Zho(s:Nat)(c:Int)(i:Nat):cf (mono s c) i=if i=s then c else 0:=by
 unfold mono
 rw [Zas,List.length_replicate]
 split
 ·rw [if_neg (by omega)]
  unfold cf
  simp [List.getD_eq_getElem?_getD,List.getElem?_replicate]
  split<;>rfl
 ·rename_i h
  split
  ·rename_i h2;subst h2;simp [cf]
  ·exact Qe (by simp;omega)
theorem Zha(s:Nat)(c:Int)(f:PS)(t:Nat):(ps (mono s c)*f).c t=if s≤t then c*f.c (t-s)else 0:=by
 rw [PS.mul_c]
 split
 ·rw [Fp (k:=s) (by omega) fun i _ hne=>by rw [Ip,Zho,if_neg hne,Int.zero_mul],Ip,Zho,if_pos rfl]
 ·exact Fc fun k hk=>by rw [Ip,Zho,if_neg (by omega),Int.zero_mul]
theorem Zdt{p q:List Int}(hq:0<q.length)(hl:q.length≤p.length):∀j,j≤p.length-q.length+1→∃s:List Int,∀t,cf q (q.length-1)^j*cf p t=(ps s*ps q).c t+cf (Oc p q j) t
 | 0,_=>⟨[],fun t=>by rw [La (fun t=>Qe (Nat.zero_le _)),Int.pow_zero];unfold Oc;omega⟩
 | j+1,hj=>by
  obtain⟨s,ih⟩:=Zdt hq hl j (by omega)
  refine⟨Zoi (Xr s (cf q (q.length-1))) (Xr (mono (p.length-1-j-(q.length-1)) (cf (Oc p q j) (p.length-1-j))) (-1)),fun t=>?_⟩
  rw [Zg9,Zha]
  have h0:=ih t
  show _=_+cf (Zie q (Oc p q j) (p.length-1-j)) t
  rw [Int.pow_succ]
  rcases Nat.lt_or_ge t p.length with h | h
  ·rw [Zns (by rw [Nv];exact h)]
   generalize p.length-1-j-(q.length-1)=sh
   generalize cf (Oc p q j) (p.length-1-j)=R
   generalize cf (Oc p q j) t=R' at h0 ⊢
   generalize (ps s*ps q).c t=X at h0 ⊢
   generalize cf q (q.length-1)^j=L at h0 ⊢
   generalize cf q (q.length-1)=l at h0 ⊢
   have e:L*l*cf p t=l*X+R'*l:=by rw [Int.mul_assoc,Int.mul_comm l,←Int.mul_assoc,h0];grind
   rw [e]
   by_cases h1:sh≤t
   ·rw [if_pos h1,Ip]
    by_cases h2:t<sh+q.length
    ·rw [if_pos ⟨h1,h2⟩];omega
    ·rw [if_neg (by omega),Qe (p:=q) (i:=t-_) (by omega)];omega
   ·rw [if_neg h1,if_neg (by omega)];omega
  ·have z1:cf p t=0:=Qe h
   have z2:cf (Oc p q j) t=0:=Qe (by rw [Nv];exact h)
   have z3:cf (Zie q (Oc p q j) (p.length-1-j)) t=0:=Qe (by rw [Zb4,Nv];exact h)
   have z4:cf q (t-(p.length-1-j-(q.length-1)))=0:=Qe (by omega)
   rw [z1,z2,Int.mul_zero,Int.add_zero]at h0
   rw [z1,z3,if_pos (by omega),Ip,z4,←h0];simp
theorem Cu(p:List Int){q:List Int}(hq:q≠[]):∃(k:Nat) (s:List Int),∀t,cf q (q.length-1)^k*cf p t=(ps s*ps q).c t+cf (Pz p q) t:=by
 have hq':0<q.length:=List.length_pos_iff.2 hq
 rcases Nat.lt_or_ge p.length q.length with h | h
 ·refine⟨0,[],fun t=>?_⟩
  rw [La (fun t=>Qe (Nat.zero_le _)),Int.pow_zero]
  unfold Pz;rw [if_pos h];omega
 ·obtain⟨s,hs⟩:=Zdt hq' h _ (Nat.le_refl _)
  refine⟨p.length-q.length+1,s,fun t=>?_⟩
  rw [hs t]
  unfold Pz
  rw [if_neg (by omega),Kq]
theorem Pp(p:List Int){q:List Int}(hq:q≠[]):(Pz p q).length<q.length:=by
 have hq':0<q.length:=List.length_pos_iff.2 hq
 unfold Pz
 split
 ·assumption
 ·have:=Cn (p:=Oc p q (p.length-q.length+1)) (n:=q.length-1) fun i hi=>Zfk hq' (by omega) _ (Nat.le_refl _) i (by omega)
  omega
theorem Ke{p q:List Int}(hp:Tr p):Tr (Pz p q):=by
 unfold Pz;split
 ·exact hp
 ·exact Om _
def Sim(a b:List Int):Prop:=∃m n:Int,m≠0∧n≠0∧∀i,m*cf a i=n*cf b i
theorem Sim.refl(a:List Int):Sim a a:=⟨1,1,by decide,by decide,fun _=>rfl⟩
theorem Sim.symm{a b:List Int} : Sim a b→Sim b a:=fun⟨m,n,hm,hn,h⟩=>⟨n,m,hn,hm,fun i=>(h i).symm⟩
theorem Sim.trans{a b c:List Int} : Sim a b→Sim b c→Sim a c:=fun⟨m,n,hm,hn,h⟩ ⟨u,v,hu,hv,k⟩=>
 ⟨m*u,n*v,Int.mul_ne_zero hm hu,Int.mul_ne_zero hn hv,fun i=>by have h1:=h i;have h2:=k i;grind⟩
theorem Sim.zero{a b:List Int}(h:Sim a b){i:Nat}(hi:cf a i=0):cf b i=0:=by
 obtain⟨m,n,hm,hn,h⟩:=h
 have:=h i
 rw [hi,Int.mul_zero]at this
 rcases Int.mul_eq_zero.1 this.symm with h | h
 ·exact absurd h hn
 ·exact h
theorem Sim.len_le{a b:List Int}(h:Sim a b)(hb:Tr b):b.length≤a.length:=by
 rcases Nat.lt_or_ge a.length b.length with hl | hl
 ·exfalso
  have hne:b≠[]:=List.length_pos_iff.1 (by omega)
  exact hb.mem hne (h.zero (Qe (by omega)))
 ·exact hl
theorem Sim.len{a b:List Int}(h:Sim a b)(ha:Tr a)(hb:Tr b):a.length=b.length:=Nat.le_antisymm (h.symm.len_le ha) (h.len_le hb)
theorem Sim.nil{a b:List Int}(h:Sim a b)(hb:Tr b)(ha:a=[]):b=[]:=by
 have:=h.len_le hb
 rw [ha]at this
 exact List.eq_nil_of_length_eq_zero (by simpa using this)
theorem Cc(c:Int):∀(p:List Int) (g:Int),0≤g→(p.map (· * c)).foldl (fun g c=>(Int.gcd g c:Int)) (g*c.natAbs)=p.foldl (fun g c=>(Int.gcd g c:Int)) g*c.natAbs
 | [],g,_=>rfl
 | x :: p,g,hg=>by
  rw [List.map_cons,List.foldl_cons,List.foldl_cons,←Cc c p _ (by omega)]
  congr 1
  have:Int.gcd (g*(c.natAbs:Int)) (x*c)=Int.gcd g x*c.natAbs:=by
   unfold Int.gcd
   rw [Int.natAbs_mul,Int.natAbs_mul,Int.natAbs_natCast,Nat.gcd_mul_right]
  rw [this];push_cast;rfl
theorem Zd2(p:List Int)(c:Int):Ql (p.map (· * c))=Ql p*c.natAbs:=by
 have:=Cc c p 0 (Int.le_refl _)
 rw [Int.zero_mul]at this
 exact this
theorem Hb(p:List Int)(i:Nat):cf (Xg p) i*Ql p=cf p i:=by
 rw [Bf];exact Int.ediv_mul_cancel (Ml p i)
theorem Zqt:Xg []=[]:=rfl
theorem Cz{p:List Int}(h:Tr p)(h0:p≠[]):Ql p≠0:=fun e=>h.mem h0 ((Bo p).1 e _)
theorem Mu{p:List Int}(h:Tr p)(h0:p≠[]):Ql (Xg p)=1:=by
 have h1:=Cz h h0
 have h2:=Zd2 (Xg p) (Ql p)
 rw [show(Xg p).map (· * Ql p)=p from Lq (by rw [List.length_map,Ym]) fun i _=>by rw [Zf3 _ _ (by simp)];exact Hb p i]at h2
 have h3:=Nf p
 have h4:Ql p*(Ql (Xg p)-1)=0:=by
  rw [Int.mul_sub,Int.mul_one,Int.mul_comm]
  have:((Ql p).natAbs:Int)=Ql p:=by omega
  rw [this]at h2;omega
 rcases Int.mul_eq_zero.1 h4 with h5 | h5<;>omega
theorem Zb3{p:List Int}(h:Ql p=1):Xg p=p:=Lq (Ym p) fun i _=>by rw [Bf,h,Int.ediv_one]
theorem Fx{p:List Int}(h:Tr p):Xg (Xg p)=Xg p:=by
 by_cases h0:p=[]
 ·subst h0;rfl
 ·exact Zb3 (Mu h h0)
theorem Qw{p:List Int}(h:Tr p):Sim (Xg p) p:=by
 by_cases h0:p=[]
 ·subst h0;exact Sim.refl _
 ·exact⟨Ql p,1,Cz h h0,by decide,fun i=>by rw [Int.one_mul,Int.mul_comm];exact Hb p i⟩
def nrm(p:List Int):List Int:=Gb (Xg p)
theorem Zgl{x y:List Int}(hx:Tr x)(hy:Tr y)(h0:x≠[])(h1:Ql x=1)(h2:Ql y=1)(h:Sim x y):x=y∨∀i,cf x i=- cf y i:=by
 have hl:=h.len hx hy
 obtain⟨m,n,hm,hn,e⟩:=h
 have h3:=Zd2 x m
 have h4:=Zd2 y n
 rw [show x.map (· * m)=y.map (· * n)from Lq (by simp [hl]) fun i _=>by
  rw [Zf3 _ _ (by simp),Zf3 _ _ (by simp),Int.mul_comm,Int.mul_comm (cf y i)];exact e i,h4,h1,h2]at h3
 have h5:m=n∨m=-n:=by omega
 rcases h5 with rfl | rfl
 ·exact .inl (Lq hl fun i _=>Int.eq_of_mul_eq_mul_left hm (e i))
 ·exact .inr fun i=>Int.eq_of_mul_eq_mul_left hn (by have:=e i;grind)
theorem Hq(g:List Int)(i:Nat):cf (Gb g) i=if g.length≠0∧cf g (g.length-1)<0 then-cf g i else cf g i:=by
 unfold Gb;split
 ·rw [Qh];omega
 ·rfl
theorem Ox{g:List Int}(h:Tr g):Tr (Gb g):=by
 unfold Gb;split
 ·exact Qu _ _
 ·exact h
theorem Ly(g:List Int):Sim (Gb g) g:=by
 by_cases h:g.length≠0∧cf g (g.length-1)<0
 ·exact⟨-1,1,by decide,by decide,fun i=>by rw [Hq,if_pos h];omega⟩
 ·exact⟨1,1,by decide,by decide,fun i=>by rw [Hq,if_neg h]⟩
theorem Zq6{a b:List Int}(ha:Tr a)(hb:Tr b)(h:Sim a b):nrm a=nrm b:=by
 by_cases h0:a=[]
 ·rw [h.nil hb h0,h0]
 ·have h0':b≠[]:=fun e=>h0 (h.symm.nil ha e)
  have hs:Sim (Xg a) (Xg b):=(Qw ha).trans (h.trans (Qw hb).symm)
  have hx:=Xn ha
  have hy:=Xn hb
  have hl:=hs.len hx hy
  have hx0:Xg a≠[]:=fun e=>h0 (List.eq_nil_of_length_eq_zero (by rw [←Ym,e];rfl))
  rcases Zgl hx hy hx0 (Mu ha h0) (Mu hb h0') hs with e | e
  ·unfold nrm;rw [e]
  ·unfold nrm
   refine(Ox hx).ext (Ox hy) fun i=>?_
   rw [Hq,Hq,←hl,e i,e ((Xg a).length-1)]
   have hne:cf (Xg b) ((Xg a).length-1)≠0:=by rw [hl];exact hy.mem (fun e2=>hx0 (List.eq_nil_of_length_eq_zero (by rw [hl,e2];rfl)))
   have hl0:(Xg a).length≠0:=fun e2=>hx0 (List.eq_nil_of_length_eq_zero e2)
   by_cases h3:cf (Xg b) ((Xg a).length-1)<0
   ·rw [if_neg (by omega),if_pos ⟨hl0,h3⟩]
   ·rw [if_pos (by omega),if_neg (by omega)];omega
theorem Zsb:∀(f:Nat) {a b:List Int},Tr a→Tr b→Tr (eu f a b)
 | 0,_,_,h,_=>h
 | f+1,a,b,ha,hb=>by
  unfold eu
  split
  ·exact ha
  ·exact Zsb f hb (Xn (Ke ha))
theorem Zsc:∀(f:Nat) {a b:List Int},Tr a→Tr b→Xg a=a→Xg b=b→Xg (eu f a b)=eu f a b
 | 0,_,_,_,_,h,_=>h
 | f+1,a,b,ha,hb,h1,h2=>by
  unfold eu
  split
  ·exact h1
  ·exact Zsc f hb (Xn (Ke ha)) h2 (Fx (Ke ha))
theorem Zjp{p q:List Int}(hp:Tr p)(hq:Tr q):Tr (gA p q):=by unfold gA;split<;>exact Xn ‹_›
theorem Zjo{p q:List Int}(hp:Tr p)(hq:Tr q):Tr (gB p q):=by unfold gB;split<;>exact Xn ‹_›
theorem Zvd{F:Nat}{p q:List Int}(hp:Tr p)(hq:Tr q):Hc F p q=nrm (eu F (gA p q) (gB p q)):=by
 unfold Hc nrm
 rw [Zsc F (Zjp hp hq) (Zjo hp hq)]
 ·unfold gA;split
  ·exact Fx hq
  ·exact Fx hp
 ·unfold gB;split
  ·exact Fx hp
  ·exact Fx hq
def chk:Nat→Nat→Nat→Nat→Nat→Bool
 | 0,_,lb,_,_=>Nat.beq lb 0
 | f+1,la,lb,A,B=>Nat.beq lb 0 || (bif Nat.blt la lb then chk f lb la B A else
   Nat.ble (A+(la-lb+1)*B) 65537 && (List.range lb).all fun l=>chk f lb l B (bif Nat.ble l 1 then 2 else A+(la-lb+1)*B))
theorem Zot(p:List Int)(x y z:Int):(Az p x y z).length≤p.length:=by
 unfold Az
 split
 ·exact Nat.zero_le _
 ·refine Nat.le_trans (Gp _) ?_
  rw [Bw];omega
theorem Zmy(x y:Int):Ga x y∣x:=by
 unfold Ga;split
 ·exact Int.neg_dvd.2 (Int.gcd_dvd_left ..)
 ·exact Int.gcd_dvd_left ..
theorem Zhd(x y:Int):Ga x y∣y:=by
 unfold Ga;split
 ·exact Int.neg_dvd.2 (Int.gcd_dvd_right ..)
 ·exact Int.gcd_dvd_right ..
def s8(l:List Int):Prop:=∀x∈l,(Qc x.natAbs).size≤8
abbrev Z0:SL×List Int:=((none,0,0),[])
theorem vp_eu:∀(f:Nat) {a b:List Int},Vp a→Vp b→eok f a b→Vp (eu f a b)
 | 0,_,_,h,_,_=>h
 | f+1,a,b,ha,hb,h=>by
  unfold eu
  split
  ·exact ha
  ·rcases h with h | h
   ·contradiction
   ·exact vp_eu f hb (Ku (Am ha h.1)) h.2
theorem Zt4{g:List Int}(h:Vp g):Vp (Gb g):=by
 unfold Gb
 split
 ·refine⟨fun i=>by rw [Qh];exact Ag h.sz i,Qu _ _,Nat.le_trans (Ct _ _) h.len⟩
 ·exact h
theorem vp_pgcd{F:Nat}{p q:List Int}(hp:Vp p)(hq:Vp q)(h:eok F (gA p q) (gB p q)):Vp (Hc F p q):=Zt4 (vp_eu F (vp_gA hp hq) (vp_gB hp hq) h)
def pevn(p:List Int)(x y:Int)(n:Nat):Int:=Qa (fun i=>cf p i*(x^i*y^(n-1-i))) n
def dn(p:List Int)(y:Int):Int:=y^(p.length-1)
theorem Zve{p q:List Int}(hp:Tr p)(hq:Tr q)(h1:p≠[])(h2:q≠[])(x y:Int):pev (Nr p q) x y=pev p x y*pev q x y:=by
 have l1:=List.length_pos_iff.2 h1
 have l2:=List.length_pos_iff.2 h2
 unfold pev
 rw [Pw hp hq h1 h2]
 obtain⟨Fk,hF⟩:∃Fk:Nat→Nat→Int,∀k j,Fk k j=cf p k*cf q j*(x^(k+j)*y^(p.length+q.length-1-1-(k+j))):=⟨_,fun _ _=>rfl⟩
 have e1:Qa (fun i=>cf (Nr p q) i*(x^i*y^(p.length+q.length-1-1-i))) (p.length+q.length-1)=Qa (fun i=>Qa (fun k=>Fk k (i-k)) (i+1)) (p.length+q.length-1):=by
  refine Xe fun i _=>?_
  rw [Kz,PS.mul_c,←Cp]
  exact Xe fun k hk=>by
   rw [hF,show k+(i-k)=i by omega];rfl
 rw [e1,Zdh,Fq (m:=p.length) (by omega) fun k h1 h2=>Fc fun j _=>by rw [hF,Qe h1,Int.zero_mul,Int.zero_mul],←Cp]
 refine Xe fun k hk=>?_
 rw [Fq (m:=q.length) (by omega) fun j h1 h2=>by rw [hF,Qe h1,Int.mul_zero,Int.zero_mul],←Nj]
 refine Xe fun j hj=>?_
 rw [hF,Int.pow_add,show p.length+q.length-1-1-(k+j)=(p.length-1-k)+(q.length-1-j) by omega,Int.pow_add]
 generalize x^k=a;generalize x^j=b;generalize y^(p.length-1-k)=c;generalize y^(q.length-1-j)=d
 grind
theorem Km(q:List Int):Nr [] q=[]:=Cx (.inl rfl)
theorem Cw(p:List Int):Nr p []=[]:=Cx (.inr rfl)
theorem Zvv(N D:Int):N/Ga N D*D=N*(D/Ga N D):=by
 have h1:=Int.ediv_mul_cancel (Zmy N D)
 have h2:=Int.ediv_mul_cancel (Zhd N D)
 generalize N/Ga N D=n at *
 generalize D/Ga N D=d at *
 generalize Ga N D=g at *
 subst h1 h2
 grind
theorem Zrq{N D:Int}(h:0<D):0<D/Ga N D:=by
 have h1:Ga N D=(Int.gcd N D:Int):=if_neg (by omega)
 have h2:=Int.ediv_mul_cancel (Zhd N D)
 rw [h1]at h2 ⊢
 generalize D/(Int.gcd N D:Int)=d at *
 rcases Int.lt_or_le 0 d with h3 | h3
 ·exact h3
 ·exfalso
  have:d*(Int.gcd N D:Int)≤0:=Int.mul_nonpos_of_nonpos_of_nonneg h3 (by omega)
  omega
section
variable {p q:List Int}
theorem Zbl(hp:Tr p)(hq:Tr q)(h1:p≠[])(h2:q≠[]):∀j,j≤p.length→∀t,cf (Of (Nr p q) q j) t=(ps (p.take (p.length-j))*ps q).c t
 | 0,_,t=>by
  rw [Nat.sub_zero,List.take_length];exact Kz p q t
 | j+1,hj,t=>by
  have ih:=Zbl hp hq h1 h2 j (by omega)
  have l1:=List.length_pos_iff.2 h1
  have l2:=List.length_pos_iff.2 h2
  have hl:=Pw hp hq h1 h2
  have e0:Of (Nr p q) q (j+1)=Zk5 q (Of (Nr p q) q j) (p.length-1-j):=by
   show Zk5 q _ _=_;rw [hl];congr 1;omega
  have hq0:=hq.mem h2
  have htop:cf (Of (Nr p q) q j) (p.length-1-j+q.length-1)=cf p (p.length-1-j)*cf q (q.length-1):=by
   rw [ih,show p.length-1-j+q.length-1=(p.length-1-j)+(q.length-1) by omega,Dd (fun i hi=>by rw [Gg,if_neg (by omega)]) (fun i hi=>Qe (by omega)),Gg,if_pos (by omega)]
  have hdq:dq q (Of (Nr p q) q j) (p.length-1-j)=cf p (p.length-1-j):=by
   unfold dq;rw [htop];exact Int.mul_ediv_cancel _ hq0
  have e1:(ps (p.take (p.length-j))*ps q).c t=(ps (p.take (p.length-(j+1)))*ps q).c t+(ps (mono (p.length-1-j) (cf p (p.length-1-j)))*ps q).c t:=by
   rw [PS.mul_c,PS.mul_c,PS.mul_c,←Fr]
   refine Xe fun k _=>?_
   rw [Ip,Ip,Ip,Ip,Gg,Gg,Zho]
   by_cases a1:k=p.length-1-j
   ·rw [if_pos (by omega),if_neg (by omega),if_pos a1,←a1];omega
   ·rw [if_neg a1]
    by_cases a2:k<p.length-j
    ·rw [if_pos a2,if_pos (by omega)];omega
    ·rw [if_neg a2,if_neg (by omega)];omega
  rw [e0]
  unfold Zk5
  rw [Ib,Ey,hl,hdq,ih,e1,Zha,Ip]
  by_cases b1:t<p.length+q.length-1
  ·rw [if_pos b1]
   by_cases b2:p.length-1-j≤t
   ·rw [if_pos b2]
    by_cases b3:t<p.length-1-j+q.length
    ·rw [if_pos ⟨b2,b3⟩];omega
    ·rw [if_neg (by omega),Qe (p:=q) (by omega)];omega
   ·rw [if_neg b2,if_neg (by omega)];omega
  ·rw [if_neg b1,PS.mul_c]
   refine(Fc fun k _=>?_).symm
   rw [Ip,Ip,Gg]
   split
   ·rw [Qe (p:=q) (by omega),Int.mul_zero]
   ·rw [Int.zero_mul]
theorem Zkd(hp:Tr p)(hq:Tr q)(h2:q≠[]):pdv (Nr p q) q∧Iq (Nr p q) q=p:=by
 by_cases h1:p=[]
 ·subst h1;rw [Km];exact⟨.inl rfl,rfl⟩
 have l1:=List.length_pos_iff.2 h1
 have l2:=List.length_pos_iff.2 h2
 have hl:=Pw hp hq h1 h2
 have hq0:=hq.mem h2
 have hd:∀k,k≤p.length-1→cf (Of (Nr p q) q (p.length-1-k)) (k+q.length-1)=cf p k*cf q (q.length-1):=fun k hk=>by
  rw [Zbl hp hq h1 h2 _ (by omega),show k+q.length-1=k+(q.length-1) by omega,Dd (fun i hi=>by rw [Gg,if_neg (by omega)]) (fun i hi=>Qe (by omega)),Gg,if_pos (by omega)]
 have hn:(Nr p q).length-q.length=p.length-1:=by omega
 have hne:Nr p q≠[]:=List.length_pos_iff.1 (by omega)
 refine⟨.inr ⟨by omega,fun k hk=>?_,?_⟩,?_⟩
 ·unfold Ic;rw [hn]at hk ⊢;rw [hd k hk];exact Int.mul_emod_left _ _
 ·rw [hn,show p.length-1+1=p.length by omega]
  refine(Ms _).2 fun i=>?_
  rw [Zbl hp hq h1 h2 _ (Nat.le_refl _),Nat.sub_self,List.take_zero]
  exact La (fun t=>Qe (Nat.zero_le _)) _ _
 ·rw [Zmi hne]
  unfold pquo
  rw [hn,show p.length-1+1=p.length by omega,Iw (g:=cf p) fun k hk=>?_,Zhb,Zbv hp]
  unfold Zwe dq
  rw [hn,hd k (by omega)]
  exact Int.mul_ediv_cancel _ hq0
end
def Dv(g a:List Int):Prop:=∃(k:Int) (s:List Int),k≠0∧∀t,k*cf a t=(ps s*ps g).c t
theorem Zmq(f:PS)(t:Nat):(ps [1]*f).c t=f.c t:=by
 rw [PS.mul_c,Fp (k:=0) (by omega) fun i _ hne=>by rw [Ip,Qe (p:=[1]) (by simp;omega),Int.zero_mul],Ip,show cf [1] 0=1 from rfl,Int.one_mul,Nat.sub_zero]
theorem Dv.refl(a:List Int):Dv a a:=⟨1,[1],by decide,fun t=>by rw [Zmq,Int.one_mul,Ip]⟩
theorem Dv.nil(g:List Int):Dv g []:=⟨1,[],by decide,fun t=>by rw [La (fun t=>Qe (Nat.zero_le _)),Qe (Nat.zero_le _)];rfl⟩
theorem Dv.sim{g a b:List Int} : Dv g a→Sim a b→Dv g b:=fun⟨k,s,hk,h⟩ ⟨m,n,hm,hn,e⟩=>
 ⟨k*n,Xr s m,Int.mul_ne_zero hk hn,fun t=>by
  rw [PS.mul_c,show(fun i=>(ps (Xr s m)).c i*(ps g).c (t-i))=fun i=>m*((ps s).c i*(ps g).c (t-i))from funext fun i=>by rw [Ip,Ip,Ip,Qh];grind,Nj,←PS.mul_c,←h,Int.mul_assoc,←e];grind⟩
theorem Dv.lin{g a b c:List Int}(ha:Dv g a)(hb:Dv g b)(s:List Int)(L:Int)(hL:L≠0)(h:∀t,L*cf c t=(ps s*ps a).c t+cf b t):Dv g c:=by
 obtain⟨k,u,hk,h1⟩:=ha
 obtain⟨m,v,hm,h2⟩:=hb
 refine⟨L*(k*m),Zon (Xr (Nr s u) m) (Xr v k),Int.mul_ne_zero hL (Int.mul_ne_zero hk hm),fun t=>?_⟩
 have e1:ps g=ps g:=rfl
 have e2:k*(ps s*ps a).c t=(ps (Nr s u)*ps g).c t:=by
  rw [ps_pmul,PS.mul_assoc',PS.mul_c,PS.mul_c,←Nj]
  refine Xe fun i _=>?_
  rw [←h1,Ip,Ip];grind
 have e3:(ps (Zon (Xr (Nr s u) m) (Xr v k))*ps g).c t=m*(ps (Nr s u)*ps g).c t+k*(ps v*ps g).c t:=by
  rw [PS.mul_c,PS.mul_c,PS.mul_c,←Nj,←Nj,←Fr]
  refine Xe fun i _=>?_
  rw [Ip,Ip,Ip,Ip,Zlh,Qh,Qh];grind
 have h0:=h t
 have h3:=h2 t
 rw [e3,←e2,←h3]
 generalize (ps s*ps a).c t=X at *
 generalize cf c t=C at *
 generalize cf b t=B at *
 have:L*(k*m)*C=k*m*(L*C):=by grind
 rw [this,h0];grind
theorem eu_dv:∀(f:Nat) {a b:List Int},Tr a→Tr b→eok f a b→Dv (eu f a b) a∧Dv (eu f a b) b
 | 0,a,b,ha,hb,h=>by rw [show b=[]from h];exact⟨Dv.refl _,Dv.nil _⟩
 | f+1,a,b,ha,hb,h=>by
  by_cases h0:b=[]
  ·subst h0;rw [Zf0];exact⟨Dv.refl _,Dv.nil _⟩
  ·rcases h with h | h
   ·exact absurd h h0
   ·have e:eu (f+1) a b=eu f b (Xg (Pz a b)):=by
     conv=>lhs;unfold eu
     rw [if_neg h0]
    rw [e]
    have t1:=Ke (q:=b) ha
    obtain⟨d1,d2⟩:=eu_dv f hb (Xn t1) h.2
    obtain⟨k,s,hs⟩:=Cu a h0
    exact⟨d1.lin (d2.sim (Qw t1)) s _ (Lb (hb.mem h0) k) hs,d1⟩
theorem Dv.of_sim{g g' a:List Int} : Dv g a→Sim g g'→Dv g' a:=fun⟨k,s,hk,h⟩ ⟨m,n,hm,hn,e⟩=>
 ⟨m*k,Xr s n,Int.mul_ne_zero hm hk,fun t=>by
  rw [Int.mul_assoc,h,PS.mul_c,PS.mul_c,←Nj]
  refine Xe fun i _=>?_
  rw [Ip,Ip,Ip,Ip,Qh]
  have:=e (t-i)
  grind⟩
theorem Dv.zero{a:List Int}(ha:Tr a)(h:Dv [] a):a=[]:=by
 obtain⟨k,s,hk,h⟩:=h
 rw [←Zbv ha,Ms]
 intro i
 have h1:=h i
 rw [PS.mul_comm',La (fun t=>Qe (Nat.zero_le _))]at h1
 rcases Int.mul_eq_zero.1 h1 with h2 | h2
 ·exact absurd h2 hk
 ·exact h2
theorem Zba{F:Nat}{p q:List Int}(hp:Tr p)(hq:Tr q)(h:eok F (gA p q) (gB p q)):Dv (Hc F p q) p∧Dv (Hc F p q) q:=by
 have hA:=Zjp hp hq
 have hB:=Zjo hp hq
 obtain⟨h1,h2⟩:=eu_dv F hA hB h
 have hs:Sim (eu F (gA p q) (gB p q)) (Hc F p q):=(Ly _).symm
 have h1:=h1.of_sim hs
 have h2:=h2.of_sim hs
 by_cases hl:p.length<q.length
 ·rw [show gA p q=Xg q from if_pos hl]at h1
  rw [show gB p q=Xg p from if_pos hl]at h2
  exact⟨h2.sim (Qw hp),h1.sim (Qw hq)⟩
 ·rw [show gA p q=Xg p from if_neg hl]at h1
  rw [show gB p q=Xg q from if_neg hl]at h2
  exact⟨h1.sim (Qw hp),h2.sim (Qw hq)⟩
theorem Zdb{F:Nat}{p q:List Int}(hp:Tr p)(hq:Tr q):Tr (Hc F p q):=Ox (Zsb F (Zjp hp hq) (Zjo hp hq))
theorem Za5(p:List Int){c:Int}(h:c≠0):Sim p (Xr p c):=⟨c,1,h,by decide,fun i=>by rw [Qh];grind⟩
def fin8(la A:Nat):Bool:=Nat.ble la 2 || Nat.ble (64+(9-la)*A) 65536
def chk2:Nat→Nat→Nat→Nat→Nat→Bool
 | 0,la,_,A,_=>fin8 la A
 | f+1,la,lb,A,B=>bif Nat.beq lb 0 then fin8 la A else bif Nat.blt la lb then chk2 f lb la B A else
   (List.range lb).all fun l=>chk2 f lb l B (bif Nat.ble l 1 then 2 else A+(la-lb+1)*B)
theorem Dx{g:List Int}(h:Tr g):(Gb g).length=g.length:=(Ly g).len (Ox h) h
theorem Zd3(g:List Int):Ql (Gb g)=Ql g:=by
 have d1:Ql (Gb g)∣Ql g:=He fun i=>by
  have h:=Ml (Gb g) i
  rw [Hq]at h
  split at h
  ·exact Int.dvd_neg.1 h
  ·exact h
 have d2:Ql g∣Ql (Gb g):=He fun i=>by
  rw [Hq];split
  ·exact Int.dvd_neg.2 (Ml g i)
  ·exact Ml g i
 exact Int.dvd_antisymm (Nf _) (Nf _) d1 d2
theorem Zfs{F:Nat}{p q:List Int}(hp:Tr p)(hq:Tr q)(h0:Hc F p q≠[]):Ql (Hc F p q)=1:=by
 rw [Zvd hp hq]at h0 ⊢
 unfold nrm at h0 ⊢
 rw [Zd3]
 refine Mu (Zsb F (Zjp hp hq) (Zjo hp hq)) fun e=>h0 ?_
 rw [e];rfl
end Go.Sky
namespace Go.Sky
def Za6(xs:List Int):Prop:=xs.length=0∨(xs.length+2)*(xs.length+2)*(msz xs+16)≤65536
instance (xs:List Int):Decidable (Za6 xs):=by unfold Za6;infer_instance
def sqf(F:Nat)(xs:List Int):List Int:=Iq (nrm xs) (Hc F (nrm xs) (Pi (nrm xs)))
def sqOK(F:Nat)(xs:List Int):Prop:=(∀i,i<xs.length→bl (cf (nrm xs) (i+1)*((i:Int)+1)).natAbs≤65536)∧¬Zov (nrm xs) (Pi (nrm xs))∧eok F (gA (nrm xs) (Pi (nrm xs))) (gB (nrm xs) (Pi (nrm xs)))∧
 Zcz (nrm xs) (Hc F (nrm xs) (Pi (nrm xs)))=0∧pdv (nrm xs) (Hc F (nrm xs) (Pi (nrm xs)))
def Ld(x y:List Int):List Int:=if cf y (y.length-1)<0∧(x.length-y.length+1)%2=1 then Xg (Pz x y)else Xr (Xg (Pz x y)) (-1)
def cok:Nat→List Int→List Int→Prop
 | 0,_,y=>y=[]
 | f+1,x,y=>y=[]∨(Zcz x y=0∧y.length≤x.length∧cok f y (Ld x y))
def Mx:Nat→List Int→List Int→List (List Int)
 | 0,x,_=>[x]
 | f+1,x,y=>if y=[]then [x]else x :: Mx f y (Ld x y)
theorem Ft(f:Nat)(x:List Int):Mx f x []=[x]:=by cases f<;>rfl
theorem Zhl{f:Nat}{a b:List Int}(h:cok f a b)(hb:b≠[]):∃g,f=g+1∧Zcz a b=0∧b.length≤a.length∧cok g b (Ld a b)∧Mx f a b=a :: Mx g b (Ld a b):=by
 cases f with
 | zero=>exact absurd h hb
 | succ g=>
  rcases h with h | h
  ·exact absurd h hb
  ·exact⟨g,rfl,h.1,h.2.1,h.2.2,by show(if b=[]then [a]else _)=_;rw [if_neg hb]⟩
def chn(F:Nat)(xs:List Int):List (List Int):=Mx F (sqf F xs) (Xg (Pi (sqf F xs)))
def Ze8(F:Nat)(xs:List Int):Prop:=sqOK F xs∧(∀i,i<xs.length→bl (cf (sqf F xs) (i+1)*((i:Int)+1)).natAbs≤65536)∧cok F (sqf F xs) (Xg (Pi (sqf F xs)))
theorem vp_nrm{p:List Int}(h:Vp p):Vp (nrm p):=by
 unfold nrm
 have h1:=Ku h
 refine⟨fun i=>?_,Ox h1.tr,by rw [Dx h1.tr];exact h1.len⟩
 rw [Hq];split
 ·rw [Int.natAbs_neg];exact h1.sz i
 ·exact h1.sz i
theorem Pk{p:List Int}(h:Tr p):(nrm p).length=p.length:=by unfold nrm;rw [Dx (Xn h),Ym]
theorem Zlt{x y:List Int}(hx:Vp x)(hd:Zcz x y=0):Vp (Ld x y):=by
 have h:=Ku (Am hx hd)
 unfold Ld
 split
 ·exact h
 ·exact⟨fun i=>by rw [Qh];exact Ag h.sz i,Qu _ _,Nat.le_trans (Ct _ _) h.len⟩
def Hf(s:Int×Int)(x:Int):Int×Int:=if x=0 then s else(if x=-s.2 then s.1+1 else s.1,x)
def chg(l:List Int):Int:=(l.foldl Hf (0,0)).1
theorem Zbh{α β:Type}(f:α→β→α)(a:α)(l:List β)(x:β):(l ++ [x]).foldl f a=f (l.foldl f a) x:=by simp
theorem chg1_n(s:Int×Int)(x:Int):(Hf s x).1=s.1∨(Hf s x).1=s.1+1:=by
 unfold Hf;split
 ·exact .inl rfl
 ·dsimp only;split
  ·exact .inr rfl
  ·exact .inl rfl
def sgs(ls:List (List Int))(x y:Int):List Int:=ls.map fun p=>(pev p x y).sign
def sgr(ls:List (List Int)):List Int:=ls.map fun p=>(cf p (p.length-1)).sign
def sgl(ls:List (List Int)):List Int:=ls.map fun p=>if p.length%2=0 then-(cf p (p.length-1)).sign else(cf p (p.length-1)).sign
def smost(xs:List Int):Nat:=(xs.take (xs.length-1)).foldl (fun m c=>max m c.natAbs) 0
def sbound(xs:List Int):Int:=((smost xs/(cf xs (xs.length-1)).natAbs:Nat):Int)+2
def chk0(xs:List Int):Int:=if xs.length=0 then 3 else if Za6 xs then 0 else 7
def ef(z:Int×Int):Bool:=decide (512<bl z.1.natAbs) || decide (512<bl z.2.natAbs)
def chk2r(xs:List Int)(x y x2 y2:Int):Int:=if xs.length=0 then 3 else if 0<x*y2-x2*y then 3 else if Za6 xs∧ef (x,y)=false∧ef (x2,y2)=false then 0 else 7
theorem chk0_ok{xs:List Int}(h0:xs≠[])(h:Za6 xs):chk0 xs=0:=by
 unfold chk0
 rw [if_neg (fun e=>h0 (List.eq_nil_of_length_eq_zero e)),if_pos h]
theorem Zki{xs:List Int}(h:¬cf (Xg xs) ((Xg xs).length-1)<0):nrm xs=Xg xs:=by
 unfold nrm Gb;rw [if_neg (by omega)]
theorem Zkj{xs:List Int}(h0:(Xg xs).length≠0)(h:cf (Xg xs) ((Xg xs).length-1)<0):nrm xs=Xr (Xg xs) (-1):=by
 unfold nrm Gb;rw [if_pos ⟨h0,h⟩]
theorem Zbj{P:Nat→Prop} : ∀n,P n→∃m,P m∧∀k,k<m→¬P k:=by
 intro n
 induction n using Nat.strongRecOn with
 | _ n ih=>
  intro h
  by_cases hx:∃k,k<n∧P k
  ·obtain⟨k,hk,hf⟩:=hx;exact ih k hk hf
  ·exact⟨n,h,fun k hk hf=>hx ⟨k,hk,hf⟩⟩
theorem Zrt{n:Nat}(h:2≤n):∃p,2≤p∧p∣n∧∀d,2≤d→d∣n→p≤d:=by
 obtain⟨p,⟨h1,h2⟩,h3⟩:=Zbj (P:=fun d=>2≤d∧d∣n) n ⟨h,Nat.dvd_refl n⟩
 exact⟨p,h1,h2,fun d hd hdn=>by
  rcases Nat.lt_or_ge d p with h4 | h4
  ·exact absurd ⟨hd,hdn⟩ (h3 d h4)
  ·exact h4⟩
theorem Zku{n p:Nat}(h1:2≤p)(h2:p∣n)(h3:∀d,2≤d→d∣n→p≤d)(hn:0<n){x y:Int}(h:(p:Int)∣x*y):(p:Int)∣x∨(p:Int)∣y:=by
 by_cases hx:(p:Int)∣x
 ·exact .inl hx
 ·right
  have hg:Nat.gcd p x.natAbs=1:=by
   have hd:=Nat.gcd_dvd_left p x.natAbs
   have h0:0<Nat.gcd p x.natAbs:=Nat.gcd_pos_of_pos_left _ (by omega)
   rcases Nat.lt_or_ge (Nat.gcd p x.natAbs) 2 with h4 | h4
   ·omega
   ·have h5:=h3 _ h4 (Nat.dvd_trans hd h2)
    have h6:=Nat.le_of_dvd (by omega) hd
    exfalso
    refine hx (Int.natAbs_dvd_natAbs.1 ?_)
    rw [Int.natAbs_natCast]
    have h7:Nat.gcd p x.natAbs=p:=by omega
    rw [←h7];exact Nat.gcd_dvd_right _ _
  have h8:=Int.natAbs_dvd_natAbs.2 h
  rw [Int.natAbs_natCast,Int.natAbs_mul]at h8
  refine Int.natAbs_dvd_natAbs.1 ?_
  rw [Int.natAbs_natCast]
  exact(show Nat.Coprime p x.natAbs from hg).dvd_of_dvd_mul_left h8
theorem gauss{g a:List Int}(hg:Ql g=1):∀(n:Nat) (k:Int) (s:List Int),k.natAbs=n→k≠0→(∀t,k*cf a t=(ps s*ps g).c t)→∃q:List Int,∀t,cf a t=(ps q*ps g).c t:=by
 intro n
 induction n using Nat.strongRecOn with
 | _ n ih=>
  intro k s hkn hk h
  rcases Nat.lt_or_ge n 2 with h2 | h2
  ·have hkk:k*k=1:=by
    have:k=1∨k=-1:=by omega
    rcases this with e | e<;>subst e<;>rfl
   refine⟨Xr s k,fun t=>?_⟩
   have e:(ps (Xr s k)*ps g).c t=k*(ps s*ps g).c t:=by
    rw [PS.mul_c,PS.mul_c,←Nj]
    exact Xe fun i _=>by rw [Ip,Ip,Ip,Qh];grind
   rw [e,←h,←Int.mul_assoc,hkk,Int.one_mul]
  ·obtain⟨p,p2,pd,pm⟩:=Zrt h2
   have hpp:∀{x y:Int},(p:Int)∣x*y→(p:Int)∣x∨(p:Int)∣y:=Zku p2 pd pm (by omega)
   have hpk:(p:Int)∣k:=Int.natAbs_dvd_natAbs.1 (by rw [Int.natAbs_natCast,hkn];exact pd)
   have hgn:∃j,¬(p:Int)∣cf g j:=Classical.byContradiction fun hx=>by
    have:(p:Int)∣Ql g:=He fun i=>Classical.byContradiction fun hy=>hx ⟨i,hy⟩
    rw [hg]at this
    have:=Int.le_of_dvd (by decide) this
    omega
   obtain⟨j0,hj0⟩:=hgn
   obtain⟨j,hj,hjm⟩:=Zbj (P:=fun j=>¬(p:Int)∣cf g j) j0 hj0
   have hs:∀i,(p:Int)∣cf s i:=fun i0=>Classical.byContradiction fun hi0=>by
    obtain⟨i,hi,him⟩:=Zbj (P:=fun i=>¬(p:Int)∣cf s i) i0 hi0
    have h3:=h (i+j)
    rw [PS.mul_c]at h3
    have key:∀m,m≤i+j+1→(p:Int)∣Qa (fun k=>if k=i then 0 else(ps s).c k*(ps g).c (i+j-k)) m:=fun m=>by
     induction m with
     | zero=>intro _;exact Int.dvd_zero _
     | succ m ihm=>
      intro hm
      rw [Xj]
      refine Int.dvd_add (ihm (by omega)) ?_
      split
      ·exact Int.dvd_zero _
      ·rename_i hne
       rw [Ip,Ip]
       rcases Nat.lt_or_ge m i with h4 | h4
       ·exact Int.dvd_trans (Classical.byContradiction fun hx=>him m h4 hx) (Int.dvd_mul_right _ _)
       ·exact Int.dvd_trans (Classical.byContradiction fun hx=>hjm (i+j-m) (by omega) hx) (Int.dvd_mul_left _ _)
    have e1:Qa (fun k=>(ps s).c k*(ps g).c (i+j-k)) (i+j+1)=Qa (fun k=>if k=i then 0 else(ps s).c k*(ps g).c (i+j-k)) (i+j+1)+cf s i*cf g j:=by
     have e2:Qa (fun k=>(ps s).c k*(ps g).c (i+j-k)) (i+j+1)=Qa (fun k=>(if k=i then 0 else(ps s).c k*(ps g).c (i+j-k))+(if k=i then(ps s).c k*(ps g).c (i+j-k)else 0)) (i+j+1):=
      Xe fun k _=>by split<;>omega
     rw [e2,Fr,Fp (f:=fun k=>if k=i then(ps s).c k*(ps g).c (i+j-k)else 0) (k:=i) (by omega) (fun q _ hq=>if_neg hq),if_pos rfl,Ip,Ip,show i+j-i=j by omega]
    rw [e1]at h3
    have h4:(p:Int)∣cf s i*cf g j:=by
     have h5:cf s i*cf g j=k*cf a (i+j)-Qa (fun k=>if k=i then 0 else(ps s).c k*(ps g).c (i+j-k)) (i+j+1):=by omega
     rw [h5]
     exact Int.dvd_sub (Int.dvd_trans hpk (Int.dvd_mul_right _ _)) (key _ (Nat.le_refl _))
    rcases hpp h4 with h5 | h5
    ·exact hi h5
    ·exact hj h5
   obtain⟨k',hk'⟩:=hpk
   have hp0:(p:Int)≠0:=by omega
   refine ih k'.natAbs ?_ k' (s.map (· / (p:Int))) rfl ?_ ?_
   ·rw [←hkn,hk',Int.natAbs_mul,Int.natAbs_natCast]
    have:0<k'.natAbs:=by
     rcases Nat.eq_zero_or_pos k'.natAbs with h6 | h6
     ·rw [show k'=0 by omega]at hk';simp at hk';exact absurd hk' hk
     ·exact h6
    have:=Nat.mul_le_mul_right k'.natAbs p2
    omega
   ·intro e;rw [e]at hk';simp at hk';exact hk hk'
   ·intro t
    refine Int.eq_of_mul_eq_mul_left hp0 ?_
    rw [←Int.mul_assoc,←hk',h,PS.mul_c,PS.mul_c,←Nj]
    refine Xe fun i _=>?_
    rw [Ip,Ip,Ip,Zf3 _ _ (by simp),←Int.mul_assoc,Int.mul_ediv_cancel' (hs i)]
def ev1:List Int→Int→Int
 | [],_=>0
 | c :: r,t=>c+t*ev1 r t
def sdv:List Int→Int→List Int
 | [],_=>[]
 | [_],_=>[]
 | _ :: c :: r,t=>ev1 (c :: r) t :: sdv (c :: r) t
theorem Zbe:∀(u:List Int) (t:Int),(sdv u t).length=u.length-1
 | [],_=>rfl
 | [_],_=>rfl
 | _ :: c :: r,t=>by unfold sdv;rw [List.length_cons,Zbe (c :: r) t];simp
theorem Zk1:∀(u:List Int) (t x:Int),ev1 u x=ev1 u t+(x-t)*ev1 (sdv u t) x
 | [],t,x=>by simp [ev1,sdv]
 | [c],t,x=>by simp [ev1,sdv]
 | a :: c :: r,t,x=>by
  have ih:=Zk1 (c :: r) t x
  show a+x*ev1 (c :: r) x=a+t*ev1 (c :: r) t+(x-t)*(ev1 (c :: r) t+x*ev1 (sdv (c :: r) t) x)
  rw [ih]
  generalize ev1 (c :: r) t=A
  generalize ev1 (sdv (c :: r) t) x=B
  grind
theorem Gi(a:Int)(u:List Int)(i:Nat):cf (a :: u) i=if i=0 then a else cf u (i-1):=by
 cases i with
 | zero=>rfl
 | succ i=>simp [cf]
theorem Zar(i:Nat):cf [] i=0:=Qe (Nat.zero_le _)
theorem Ztd:∀(u:List Int) (t:Int) (i:Nat),cf u (i+1)=cf (sdv u t) i-t*cf (sdv u t) (i+1)
 | [],t,i=>by unfold sdv;simp [Zar]
 | [c],t,i=>by unfold sdv;rw [Gi,if_neg (by omega)];simp [Zar]
 | a :: c :: r,t,i=>by
  unfold sdv
  rw [Gi,if_neg (by omega),Nat.add_sub_cancel]
  cases i with
  | zero=>
   rw [Gi,if_pos rfl,Gi,if_pos rfl,Gi,if_neg (by omega)]
   show c=ev1 (c :: r) t-t*cf (sdv (c :: r) t) 0
   match r with
   | []=>simp [ev1,sdv,cf]
   | d :: r'=>unfold sdv;rw [Gi,if_pos rfl];show c=(c+t*ev1 (d :: r') t)-_;omega
  | succ i=>
   rw [Gi _ (sdv _ _) (i+1),if_neg (by omega),Gi _ (sdv _ _),if_neg (by omega),Nat.add_sub_cancel,Nat.add_sub_cancel]
   exact Ztd (c :: r) t i
theorem Ztc:∀(u:List Int) (t:Int),cf u 0=ev1 u t-t*cf (sdv u t) 0
 | [],t=>by simp [ev1,sdv,cf]
 | [c],t=>by simp [ev1,sdv,cf]
 | a :: c :: r,t=>by
  unfold sdv
  rw [Gi,if_pos rfl,Gi,if_pos rfl]
  show a=(a+t*ev1 (c :: r) t)-t*ev1 (c :: r) t
  omega
theorem Zgx:∀(n:Nat) (u:List Int) (R:List Int),u.length=n→(∃i,cf u i≠0)→R.Nodup→(∀t∈R,ev1 u t=0)→R.length<n
 | 0,u,R,hn,hu,_,_=>by
  obtain⟨i,hi⟩:=hu
  rw [List.eq_nil_of_length_eq_zero hn,Zar]at hi
  exact absurd rfl hi
 | n+1,u,[],hn,hu,_,_=>by simp
 | n+1,u,t :: R,hn,hu,hd,hR=>by
  have h0:=hR t (List.mem_cons_self ..)
  have hl:=Zbe u t
  have hw:∃i,cf (sdv u t) i≠0:=Classical.byContradiction fun hx=>by
   have hz:∀i,cf (sdv u t) i=0:=fun i=>Classical.byContradiction fun hy=>hx ⟨i,hy⟩
   obtain⟨i,hi⟩:=hu
   cases i with
   | zero=>rw [Ztc u t,h0,hz]at hi;simp at hi
   | succ i=>rw [Ztd u t,hz,hz]at hi;simp at hi
  have:=Zgx n (sdv u t) R (by omega) hw (List.nodup_cons.1 hd).2 fun x hx=>by
   have h1:=hR x (List.mem_cons_of_mem _ hx)
   rw [Zk1 u t x,h0,Int.zero_add]at h1
   rcases Int.mul_eq_zero.1 h1 with h2 | h2
   ·exfalso
    have:x=t:=by omega
    subst this
    exact(List.nodup_cons.1 hd).1 hx
   ·exact h2
  simp;omega
def kk:Nat→Nat
 | 0=>0
 | d+1=>30*kk d+1
theorem Zsa:∀(p:List Int) (t:Int),ev1 p t=Qa (fun i=>cf p i*t^i) p.length
 | [],t=>rfl
 | c :: r,t=>by
  rw [List.length_cons,Kh,ev1,Zsa r t,←Nj,Int.pow_zero,Int.mul_one]
  congr 1
  exact Xe fun i _=>by
   rw [Gi,if_neg (by omega),Nat.add_sub_cancel,Int.pow_succ];grind
theorem Zhi(p:List Int)(t:Int):ev1 p t=pev p t 1:=by
 rw [Zsa];unfold pev
 exact Xe fun i _=>by rw [Int.one_pow,Int.mul_one]
def pts:List Int:=[0,1,2,3,4,5,6,7,8,9,10,11,12,13,14]
theorem Zfz{α:Type}(f:α→Bool):∀l:List α,(l.filter f).length+(l.filter fun x=>!f x).length=l.length
 | []=>rfl
 | x :: l=>by
  have ih:=Zfz f l
  cases h:f x<;>simp [h]<;>omega
end Go.Sky

