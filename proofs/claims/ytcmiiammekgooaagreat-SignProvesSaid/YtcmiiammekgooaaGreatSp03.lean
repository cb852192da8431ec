/- Rules, arithmetic and contracts: part 4. No conditions but those that each theorem names. -/
import Derived.Test.YtcmiiammekgooaaGreatSp02
import Derived.Test.YtcmiiammekgooaaGreatProg
import Derived.Test.YtcmiiammekgooaaGreatRows
import Derived.WalkKit
import Derived.ProofKit
import Derived.OpenShut
import Derived.ShutString
import Derived.ChangeOld
import Derived.Deep.Slices
import Derived.Lib.SmallJoins
set_option linter.all false
namespace Go.Sky
open Go.Proofs
theorem pU:Enc Tryz.prog 149 1 Lk:=Enc.flat Tryz.sizeOf149 Tryz.isAgg149 (fun _=>rfl)
theorem pB:Enc Tryz.prog 5 1 Zmc:=Enc.flat Tryz.sizeOf5 Tryz.isAgg5 (fun _=>rfl)
theorem pN:Enc Tryz.prog 3 1 Hx:=Enc.flat Tryz.sizeOf3 Tryz.isAgg3 (fun _=>rfl)
theorem pZ:Enc Tryz.prog 3 1 Eh:=Enc.flat Tryz.sizeOf3 Tryz.isAgg3 (fun _=>rfl)
theorem Zh5(args:Array Value)(w:World):(callFunc 190 args).run Tryz.prog w=((add64Entry args).run Tryz.prog w).andThen fun v w'=> .ok (.value v) w':=
 run_callFunc_extern Tryz.func190 (by kernel_rfl) (by kernel_rfl) (by kernel_rfl) (by kernel_rfl) args w
theorem Zxq(args:Array Value)(w:World):(callFunc 191 args).run Tryz.prog w=((Ze6 args).run Tryz.prog w).andThen fun v w'=> .ok (.value v) w':=
 run_callFunc_extern Tryz.func191 (by kernel_rfl) (by kernel_rfl) (by kernel_rfl) (by kernel_rfl) args w
end Go.Sky
theorem Go.Proofs.Tryz.ti149:Go.Proofs.Tryz.prog.info? 149=some Go.Proofs.Tryz.t149:=by kernel_rfl
namespace Go.Sky
open Go.Proofs
end Go.Sky
theorem Go.Proofs.Tryz.ti5:Go.Proofs.Tryz.prog.info? 5=some Go.Proofs.Tryz.t5:=by kernel_rfl
namespace Go.Sky
open Go.Proofs
end Go.Sky
theorem Go.Proofs.Tryz.ti3:Go.Proofs.Tryz.prog.info? 3=some Go.Proofs.Tryz.t3:=by kernel_rfl
namespace Go.Sky
open Go.Proofs
theorem pW:Enc Tryz.prog 31 2 Zax:=Enc.agg (by decide) Tryz.sizeOf31 Tryz.isAgg31 (fun x=>⟨[.bool x.1,.string x.2],rfl,rfl,by simp [Value.oneCell']⟩)
theorem pV:Enc Tryz.prog 31 2 wv:=Enc.agg (by decide) Tryz.sizeOf31 Tryz.isAgg31 (fun x=>⟨[.bool (decide (x<0)),.string (Xk x.natAbs)],rfl,rfl,by simp [Value.oneCell']⟩)
theorem pI:Enc Tryz.prog 48 2 Hi:=Enc.agg (by decide) Tryz.sizeOf48 Tryz.isAgg48 (fun x=>⟨[.bool (decide (x.1<0)),svv x.2],rfl,rfl,by simp [Value.oneCell']⟩)
theorem pS{α:Type} : Enc Tryz.prog 23 1 (Gx (α:=α)):=Enc.flat Tryz.sizeOf23 Tryz.isAgg23 (fun _=>rfl)
theorem pQ:Enc Tryz.prog 41 4 rq:=Enc.agg (by decide) Tryz.sizeOf41 Tryz.isAgg41 (fun x=>⟨[.bool (decide (x.1<0)),.string (Xk x.1.natAbs),.bool (decide (x.2<0)),.string (Xk x.2.natAbs)],rfl,rfl,by simp [Value.oneCell']⟩)
theorem pR:Enc Tryz.prog 41 4 Ycr:=Enc.agg (by decide) Tryz.sizeOf41 Tryz.isAgg41 (fun x=>⟨[.bool x.1.1,.string x.1.2,.bool x.2.1,.string x.2.2],rfl,rfl,by simp [Value.oneCell']⟩)
theorem sh31:Tryz.prog.stoodInHeld 31=false:=by kernel_rfl
theorem sh41:Tryz.prog.stoodInHeld 41=false:=by kernel_rfl
theorem Yfo:Tryz.prog.eqGuardType Tryz.prog.depth 31=false:=by kernel_rfl
theorem in31(d:Nat)(w:World)(a:Bool)(s:ByteArray)(b:Bool)(t:ByteArray):(Op.equalIn (d+2) 31 (.agg #[.bool a,.string s]) (.agg #[.bool b,.string t])).run Tryz.prog w= .ok (eqW a s b t) w:=by
 have hu:Tryz.prog.underlying 31=some (.struct (Tryz.prog.fieldsOf 31)):=by unfold Program.fieldsOf;rw [Tryz.underlying31]
 rw [run_equalIn_agg w (d+1) 31 _ _ hu sh31]
 unfold Program.fieldsOf
 rw [Tryz.underlying31]
 simp [Op.eqFields,part,Tryz.isAgg4,Tryz.isAgg9,run_equalIn_bool' _ _ _ _ _ Tryz.underlying4,run_equalIn_string _ _ _ _ _ Tryz.underlying9]
 unfold eqW
 cases hab:(a == b)
 ·simp_all
 ·by_cases h:s.toList=t.toList<;>simp_all
theorem Zv1(w:World)(a:Bool)(s:ByteArray)(b:Bool)(t:ByteArray):(binOp .neq 31 (.agg #[.bool a,.string s]) (.agg #[.bool b,.string t])).run Tryz.prog w= .ok (.bool (!eqW a s b t)) w:=by
 rw [run_neq_struct,in31];rfl
theorem in41(d:Nat)(w:World)(a:Bool)(s:ByteArray)(a2:Bool)(s2:ByteArray)(b:Bool)(t:ByteArray)(b2:Bool)(t2:ByteArray):(Op.equalIn (d+3) 41 (.agg #[.bool a,.string s,.bool a2,.string s2]) (.agg #[.bool b,.string t,.bool b2,.string t2])).run Tryz.prog w= .ok (eqW a s b t && eqW a2 s2 b2 t2) w:=by
 have hu:Tryz.prog.underlying 41=some (.struct (Tryz.prog.fieldsOf 41)):=by unfold Program.fieldsOf;rw [Tryz.underlying41]
 rw [run_equalIn_agg w (d+2) 41 _ _ hu sh41]
 unfold Program.fieldsOf
 rw [Tryz.underlying41]
 simp [Op.eqFields,part,Tryz.isAgg31,Tryz.sizeOf31,in31]
 cases hab:eqW a s b t<;>cases hab2:eqW a2 s2 b2 t2<;>simp_all
theorem sh62:Tryz.prog.stoodInHeld 62=false:=by kernel_rfl
theorem eg62:Tryz.prog.eqGuardType Tryz.prog.depth 62=false:=by kernel_rfl
theorem in62(d:Nat)(w:World)(a:Bool)(s:ByteArray)(a2:Bool)(s2:ByteArray)(a3:Bool)(s3:ByteArray)(a4:Bool)(s4:ByteArray)(b:Bool)(t:ByteArray)(b2:Bool)(t2:ByteArray)(b3:Bool)(t3:ByteArray)(b4:Bool)(t4:ByteArray):(Op.equalIn (d+4) 62 (.agg #[.bool a,.string s,.bool a2,.string s2,.bool a3,.string s3,.bool a4,.string s4]) (.agg #[.bool b,.string t,.bool b2,.string t2,.bool b3,.string t3,.bool b4,.string t4])).run Tryz.prog w= .ok (eqW a s b t && eqW a2 s2 b2 t2 && (eqW a3 s3 b3 t3 && eqW a4 s4 b4 t4)) w:=by
 have hu:Tryz.prog.underlying 62=some (.struct (Tryz.prog.fieldsOf 62)):=by unfold Program.fieldsOf;rw [Tryz.underlying62]
 rw [run_equalIn_agg w (d+3) 62 _ _ hu sh62]
 unfold Program.fieldsOf
 rw [Tryz.underlying62]
 simp [Op.eqFields,part,Tryz.isAgg41,Tryz.sizeOf41,in41]
 cases hab:eqW a s b t && eqW a2 s2 b2 t2<;>cases hab2:eqW a3 s3 b3 t3 && eqW a4 s4 b4 t4<;>simp_all
theorem neq62(w:World)(a:Bool)(s:ByteArray)(a2:Bool)(s2:ByteArray)(a3:Bool)(s3:ByteArray)(a4:Bool)(s4:ByteArray)(b:Bool)(t:ByteArray)(b2:Bool)(t2:ByteArray)(b3:Bool)(t3:ByteArray)(b4:Bool)(t4:ByteArray):(binOp .neq 62 (.agg #[.bool a,.string s,.bool a2,.string s2,.bool a3,.string s3,.bool a4,.string s4]) (.agg #[.bool b,.string t,.bool b2,.string t2,.bool b3,.string t3,.bool b4,.string t4])).run Tryz.prog w= .ok (.bool (!(eqW a s b t && eqW a2 s2 b2 t2 && (eqW a3 s3 b3 t3 && eqW a4 s4 b4 t4)))) w:=by
 rw [run_neq_struct,in62];rfl
end Go.Sky
theorem Go.Proofs.Tryz.ti23:Go.Proofs.Tryz.prog.info? 23=some Go.Proofs.Tryz.t23:=by kernel_rfl
namespace Go.Sky
open Go.Proofs
end Go.Sky
theorem Go.Proofs.Tryz.ti31:Go.Proofs.Tryz.prog.info? 31=some Go.Proofs.Tryz.t31:=by kernel_rfl
namespace Go.Sky
open Go.Proofs
end Go.Sky
theorem Go.Proofs.Tryz.ti34:Go.Proofs.Tryz.prog.info? 34=some Go.Proofs.Tryz.t34:=by kernel_rfl
namespace Go.Sky
open Go.Proofs
end Go.Sky
theorem Go.Proofs.Tryz.ti41:Go.Proofs.Tryz.prog.info? 41=some Go.Proofs.Tryz.t41:=by kernel_rfl
namespace Go.Sky
open Go.Proofs
end Go.Sky
theorem Go.Proofs.Tryz.ti48:Go.Proofs.Tryz.prog.info? 48=some Go.Proofs.Tryz.t48:=by kernel_rfl
namespace Go.Sky
open Go.Proofs
end Go.Sky
theorem Go.Proofs.Tryz.ti79:Go.Proofs.Tryz.prog.info? 79=some Go.Proofs.Tryz.t79:=by kernel_rfl
namespace Go.Sky
open Go.Proofs
end Go.Sky
theorem Go.Proofs.Tryz.ti4:Go.Proofs.Tryz.prog.info? 4=some Go.Proofs.Tryz.t4:=by kernel_rfl
namespace Go.Sky
open Go.Proofs
end Go.Sky
theorem Go.Proofs.Tryz.ti9:Go.Proofs.Tryz.prog.info? 9=some Go.Proofs.Tryz.t9:=by kernel_rfl
namespace Go.Sky
open Go.Proofs
theorem Ygs:Tryz.prog.built 31 []=some #[.bool false,.string ⟨#[]⟩]:=by
 refine Mk _ Tryz.ti31 Tryz.underlying31 rfl (pl:=[(0,1),(1,1)]) (by simp [Tryz.ti4,Tryz.ti9];try decide) ?_
 simp [Instr.fill,show(Value.agg #[.bool false,.string ⟨#[]⟩]).cells=#[.bool false,.string ⟨#[]⟩]from rfl]
theorem Zuh{v0 v1:Value}(h0:v0.oneCell'=true)(h1:v1.oneCell'=true):Tryz.prog.built 31 [(0,v0),(1,v1)]=some #[v0,v1]:=by
 refine Mk _ Tryz.ti31 Tryz.underlying31 rfl (pl:=[(0,1),(1,1)]) (by simp [Tryz.ti4,Tryz.ti9];try decide) ?_
 simp [Instr.fill,Kj h0,Kj h1,show(Value.agg #[.bool false,.string ⟨#[]⟩]).cells=#[.bool false,.string ⟨#[]⟩]from rfl]
theorem Zug:Tryz.prog.built 41 []=some #[.bool false,.string ⟨#[]⟩,.bool false,.string ⟨#[]⟩]:=by
 refine Mk _ Tryz.ti41 Tryz.underlying41 rfl (pl:=[(0,2),(2,2)]) (by simp [Tryz.ti31];try decide) ?_
 simp [Instr.fill,show(Value.agg #[.bool false,.string ⟨#[]⟩,.bool false,.string ⟨#[]⟩]).cells=#[.bool false,.string ⟨#[]⟩,.bool false,.string ⟨#[]⟩]from rfl]
theorem Zfn{c0_0 c0_1 c1_0 c1_1:Value} : Tryz.prog.built 41 [(0,.agg #[c0_0,c0_1]),(1,.agg #[c1_0,c1_1])]=some #[c0_0,c0_1,c1_0,c1_1]:=by
 refine Mk _ Tryz.ti41 Tryz.underlying41 rfl (pl:=[(0,2),(2,2)]) (by simp [Tryz.ti31];try decide) ?_
 simp [Instr.fill,show(Value.agg #[c0_0,c0_1]).cells=#[c0_0,c0_1]from rfl,show(Value.agg #[c1_0,c1_1]).cells=#[c1_0,c1_1]from rfl,show(Value.agg #[.bool false,.string ⟨#[]⟩,.bool false,.string ⟨#[]⟩]).cells=#[.bool false,.string ⟨#[]⟩,.bool false,.string ⟨#[]⟩]from rfl]
theorem b41_1{c1_0 c1_1:Value} : Tryz.prog.built 41 [(1,.agg #[c1_0,c1_1])]=some #[.bool false,.string ⟨#[]⟩,c1_0,c1_1]:=by
 refine Mk _ Tryz.ti41 Tryz.underlying41 rfl (pl:=[(0,2),(2,2)]) (by simp [Tryz.ti31];try decide) ?_
 simp [Instr.fill,show(Value.agg #[c1_0,c1_1]).cells=#[c1_0,c1_1]from rfl,show(Value.agg #[.bool false,.string ⟨#[]⟩,.bool false,.string ⟨#[]⟩]).cells=#[.bool false,.string ⟨#[]⟩,.bool false,.string ⟨#[]⟩]from rfl]
end Go.Sky
theorem Go.Proofs.Tryz.ti46:Go.Proofs.Tryz.prog.info? 46=some Go.Proofs.Tryz.t46:=by kernel_rfl
namespace Go.Sky
open Go.Proofs
theorem Zy6:Tryz.prog.built 48 []=some #[.bool false,.slice none 0 0]:=by
 refine Mk _ Tryz.ti48 Tryz.underlying48 rfl (pl:=[(0,1),(1,1)]) (by simp [Tryz.ti4,Tryz.ti46];try decide) ?_
 simp [Instr.fill,show(Value.agg #[.bool false,.slice none 0 0]).cells=#[.bool false,.slice none 0 0]from rfl]
theorem Ydk{v0 v1:Value}(h0:v0.oneCell'=true)(h1:v1.oneCell'=true):Tryz.prog.built 48 [(0,v0),(1,v1)]=some #[v0,v1]:=by
 refine Mk _ Tryz.ti48 Tryz.underlying48 rfl (pl:=[(0,1),(1,1)]) (by simp [Tryz.ti4,Tryz.ti46];try decide) ?_
 simp [Instr.fill,Kj h0,Kj h1,show(Value.agg #[.bool false,.slice none 0 0]).cells=#[.bool false,.slice none 0 0]from rfl]
end Go.Sky
theorem Go.Proofs.Tryz.ti50:Go.Proofs.Tryz.prog.info? 50=some Go.Proofs.Tryz.t50:=by kernel_rfl
namespace Go.Sky
open Go.Proofs
theorem b50_01{c0_0 c0_1 c1_0 c1_1:Value} : Tryz.prog.built 50 [(0,.agg #[c0_0,c0_1]),(1,.agg #[c1_0,c1_1])]=some #[c0_0,c0_1,c1_0,c1_1]:=by
 refine Mk _ Tryz.ti50 Tryz.underlying50 rfl (pl:=[(0,2),(2,2)]) (by simp [Tryz.ti48];try decide) ?_
 simp [Instr.fill,show(Value.agg #[c0_0,c0_1]).cells=#[c0_0,c0_1]from rfl,show(Value.agg #[c1_0,c1_1]).cells=#[c1_0,c1_1]from rfl,show(Value.agg #[.bool false,.slice none 0 0,.bool false,.slice none 0 0]).cells=#[.bool false,.slice none 0 0,.bool false,.slice none 0 0]from rfl]
end Go.Sky
theorem Go.Proofs.Tryz.ti62:Go.Proofs.Tryz.prog.info? 62=some Go.Proofs.Tryz.t62:=by kernel_rfl
namespace Go.Sky
open Go.Proofs
theorem b62_:Tryz.prog.built 62 []=some #[.bool false,.string ⟨#[]⟩,.bool false,.string ⟨#[]⟩,.bool false,.string ⟨#[]⟩,.bool false,.string ⟨#[]⟩]:=by
 refine Mk _ Tryz.ti62 Tryz.underlying62 rfl (pl:=[(0,4),(4,4)]) (by simp [Tryz.ti41];try decide) ?_
 simp [Instr.fill,show(Value.agg #[.bool false,.string ⟨#[]⟩,.bool false,.string ⟨#[]⟩,.bool false,.string ⟨#[]⟩,.bool false,.string ⟨#[]⟩]).cells=#[.bool false,.string ⟨#[]⟩,.bool false,.string ⟨#[]⟩,.bool false,.string ⟨#[]⟩,.bool false,.string ⟨#[]⟩]from rfl]
theorem Ydj{c0_0 c0_1 c0_2 c0_3 c1_0 c1_1 c1_2 c1_3:Value} : Tryz.prog.built 62 [(0,.agg #[c0_0,c0_1,c0_2,c0_3]),(1,.agg #[c1_0,c1_1,c1_2,c1_3])]=some #[c0_0,c0_1,c0_2,c0_3,c1_0,c1_1,c1_2,c1_3]:=by
 refine Mk _ Tryz.ti62 Tryz.underlying62 rfl (pl:=[(0,4),(4,4)]) (by simp [Tryz.ti41];try decide) ?_
 simp [Instr.fill,show(Value.agg #[c0_0,c0_1,c0_2,c0_3]).cells=#[c0_0,c0_1,c0_2,c0_3]from rfl,show(Value.agg #[c1_0,c1_1,c1_2,c1_3]).cells=#[c1_0,c1_1,c1_2,c1_3]from rfl,show(Value.agg #[.bool false,.string ⟨#[]⟩,.bool false,.string ⟨#[]⟩,.bool false,.string ⟨#[]⟩,.bool false,.string ⟨#[]⟩]).cells=#[.bool false,.string ⟨#[]⟩,.bool false,.string ⟨#[]⟩,.bool false,.string ⟨#[]⟩,.bool false,.string ⟨#[]⟩]from rfl]
end Go.Sky
theorem Go.Proofs.Tryz.ti77:Go.Proofs.Tryz.prog.info? 77=some Go.Proofs.Tryz.t77:=by kernel_rfl
namespace Go.Sky
open Go.Proofs
theorem Zxi{v0 c1_0 c1_1 c1_2 c1_3 c2_0 c2_1 c2_2 c2_3:Value}(h0:v0.oneCell'=true):Tryz.prog.built 79 [(0,v0),(1,.agg #[c1_0,c1_1,c1_2,c1_3]),(2,.agg #[c2_0,c2_1,c2_2,c2_3])]=some #[v0,c1_0,c1_1,c1_2,c1_3,c2_0,c2_1,c2_2,c2_3]:=by
 refine Mk _ Tryz.ti79 Tryz.underlying79 rfl (pl:=[(0,1),(1,4),(5,4)]) (by simp [Tryz.ti41,Tryz.ti77];try decide) ?_
 simp [Instr.fill,Kj h0,show(Value.agg #[c1_0,c1_1,c1_2,c1_3]).cells=#[c1_0,c1_1,c1_2,c1_3]from rfl,show(Value.agg #[c2_0,c2_1,c2_2,c2_3]).cells=#[c2_0,c2_1,c2_2,c2_3]from rfl,show(Value.agg #[.int .i64 0,.bool false,.string ⟨#[]⟩,.bool false,.string ⟨#[]⟩,.bool false,.string ⟨#[]⟩,.bool false,.string ⟨#[]⟩]).cells=#[.int .i64 0,.bool false,.string ⟨#[]⟩,.bool false,.string ⟨#[]⟩,.bool false,.string ⟨#[]⟩,.bool false,.string ⟨#[]⟩]from rfl]
end Go.Sky
theorem Go.Proofs.Tryz.ti154:Go.Proofs.Tryz.prog.info? 154=some Go.Proofs.Tryz.t154:=by kernel_rfl
namespace Go.Sky
open Go.Proofs
end Go.Sky
theorem Go.Proofs.Tryz.ti151:Go.Proofs.Tryz.prog.info? 151=some Go.Proofs.Tryz.t151:=by kernel_rfl
namespace Go.Sky
open Go.Proofs
theorem Mb{v0 v1:Value}(h0:v0.oneCell'=true)(h1:v1.oneCell'=true):Tryz.prog.built 154 [(0,v0),(1,v1)]=some #[v0,v1]:=by
 refine Mk _ Tryz.ti154 Tryz.underlying154 rfl (pl:=[(0,1),(1,1)]) (by simp [Tryz.ti151,Tryz.ti4];try decide) ?_
 simp [Instr.fill,Kj h0,Kj h1,show(Value.agg #[.bool false,.slice none 0 0]).cells=#[.bool false,.slice none 0 0]from rfl]
theorem J{α:Sort _}{a:α} : a=a:=rfl
theorem CA{α:Type _}(a:α)(s t:List α):(a :: s) ++ t=a :: (s ++ t):=rfl
theorem NA{α:Type _}(t:List α):[] ++ t=t:=rfl
abbrev Od (P:Program) (f:FuncId) (a:Array Value) (p:List Pc) (v:Value):Prop:=Cal P f a p false (G:=Unit) (fun _=>True) (fun _=>v) (fun _=>[])
abbrev rX (x y:Int):Value:= .agg #[.bool (decide (x<0)),.string (Xk x.natAbs),.bool (decide (y<0)),.string (Xk y.natAbs)]
theorem vB{a b:Bool}(h:a=b):Value.bool a=Value.bool b:=congrArg _ h
theorem dF{P:Program}{N:Nat}{sc:Nat→Prop}{o:Oper}{env:Kl}{H:Hp}{r:Value}(h:Kz P N sc o env H r)(e:r= .bool false):Kz P N sc o env H (.bool false):=Ej h e
theorem dT{P:Program}{N:Nat}{sc:Nat→Prop}{o:Oper}{env:Kl}{H:Hp}{r:Value}(h:Kz P N sc o env H r)(e:r= .bool true):Kz P N sc o env H (.bool true):=Ej h e
theorem xG{P:Program}{N:Nat}{sc:Nat→Prop}{env:Kl}{H:Hp}{fn:Func}{pre:List Pc}{al:Bool}{G:Type}{φ:G→Prop}{Xz:G→Value}{its:G→List Pc}{w0:World}{r1:ResultVar}{v:Value}(hsc:∀b,sc b→w0.heap.size≤b∨∃q∈pre,q.fp b)(g:G)(hf:fn.results=#[r1])(h1:RV P N sc env H r1 v)(hv:Xz g=v)(hg:φ g)(h0:lk H 0=some (La w0 (fun _=>False)))(hgive:Give H al (its g)):X N sc .ret (Zsy P fn w0 pre al φ Xz its) env H:=Yr (.inl rfl) hsc g v (fun a w hs=>Nr hs hf h1) hv hg h0 hgive
theorem xU{P:Program}{N:Nat}{sc:Nat→Prop}{env:Kl}{H:Hp}{fn:Func}{pre:List Pc}{al:Bool}{Xz:Unit→Value}{w0:World}{r1:ResultVar}{v:Value}(hsc:∀b,sc b→w0.heap.size≤b∨∃q∈pre,q.fp b)(hf:fn.results=#[r1])(h1:RV P N sc env H r1 v)(h0:lk H 0=some (La w0 (fun _=>False)))(hv:Xz ()=v):X N sc .ret (Zsy P fn w0 pre al (fun _=>True) Xz (fun _=>[])) env H:=Yr (.inl rfl) hsc () v (fun a w hs=>Nr hs hf h1) hv trivial h0 Zm
theorem K1{t0:Sort _}{a0:t0} : a0=a0∧True:=⟨rfl,trivial⟩
theorem K2{t0:Sort _}{a0:t0}{t1:Sort _}{a1:t1} : a0=a0∧a1=a1∧True:=⟨rfl,rfl,trivial⟩
theorem K3{t0:Sort _}{a0:t0}{t1:Sort _}{a1:t1}{t2:Sort _}{a2:t2} : a0=a0∧a1=a1∧a2=a2∧True:=⟨rfl,rfl,rfl,trivial⟩
theorem K4{t0:Sort _}{a0:t0}{t1:Sort _}{a1:t1}{t2:Sort _}{a2:t2}{t3:Sort _}{a3:t3} : a0=a0∧a1=a1∧a2=a2∧a3=a3∧True:=⟨rfl,rfl,rfl,rfl,trivial⟩
theorem K5{t0:Sort _}{a0:t0}{t1:Sort _}{a1:t1}{t2:Sort _}{a2:t2}{t3:Sort _}{a3:t3}{t4:Sort _}{a4:t4} : a0=a0∧a1=a1∧a2=a2∧a3=a3∧a4=a4∧True:=⟨rfl,rfl,rfl,rfl,rfl,trivial⟩
theorem K6{t0:Sort _}{a0:t0}{t1:Sort _}{a1:t1}{t2:Sort _}{a2:t2}{t3:Sort _}{a3:t3}{t4:Sort _}{a4:t4}{t5:Sort _}{a5:t5} : a0=a0∧a1=a1∧a2=a2∧a3=a3∧a4=a4∧a5=a5∧True:=⟨rfl,rfl,rfl,rfl,rfl,rfl,trivial⟩
theorem K7{t0:Sort _}{a0:t0}{t1:Sort _}{a1:t1}{t2:Sort _}{a2:t2}{t3:Sort _}{a3:t3}{t4:Sort _}{a4:t4}{t5:Sort _}{a5:t5}{t6:Sort _}{a6:t6} : a0=a0∧a1=a1∧a2=a2∧a3=a3∧a4=a4∧a5=a5∧a6=a6∧True:=⟨rfl,rfl,rfl,rfl,rfl,rfl,rfl,trivial⟩
theorem K8{t0:Sort _}{a0:t0}{t1:Sort _}{a1:t1}{t2:Sort _}{a2:t2}{t3:Sort _}{a3:t3}{t4:Sort _}{a4:t4}{t5:Sort _}{a5:t5}{t6:Sort _}{a6:t6}{t7:Sort _}{a7:t7} : a0=a0∧a1=a1∧a2=a2∧a3=a3∧a4=a4∧a5=a5∧a6=a6∧a7=a7∧True:=⟨rfl,rfl,rfl,rfl,rfl,rfl,rfl,rfl,trivial⟩
theorem K9{t0:Sort _}{a0:t0}{t1:Sort _}{a1:t1}{t2:Sort _}{a2:t2}{t3:Sort _}{a3:t3}{t4:Sort _}{a4:t4}{t5:Sort _}{a5:t5}{t6:Sort _}{a6:t6}{t7:Sort _}{a7:t7}{t8:Sort _}{a8:t8} : a0=a0∧a1=a1∧a2=a2∧a3=a3∧a4=a4∧a5=a5∧a6=a6∧a7=a7∧a8=a8∧True:=⟨rfl,rfl,rfl,rfl,rfl,rfl,rfl,rfl,rfl,trivial⟩
theorem K10{t0:Sort _}{a0:t0}{t1:Sort _}{a1:t1}{t2:Sort _}{a2:t2}{t3:Sort _}{a3:t3}{t4:Sort _}{a4:t4}{t5:Sort _}{a5:t5}{t6:Sort _}{a6:t6}{t7:Sort _}{a7:t7}{t8:Sort _}{a8:t8}{t9:Sort _}{a9:t9} : a0=a0∧a1=a1∧a2=a2∧a3=a3∧a4=a4∧a5=a5∧a6=a6∧a7=a7∧a8=a8∧a9=a9∧True:=⟨rfl,rfl,rfl,rfl,rfl,rfl,rfl,rfl,rfl,rfl,trivial⟩
theorem K11{t0:Sort _}{a0:t0}{t1:Sort _}{a1:t1}{t2:Sort _}{a2:t2}{t3:Sort _}{a3:t3}{t4:Sort _}{a4:t4}{t5:Sort _}{a5:t5}{t6:Sort _}{a6:t6}{t7:Sort _}{a7:t7}{t8:Sort _}{a8:t8}{t9:Sort _}{a9:t9}{t10:Sort _}{a10:t10} : a0=a0∧a1=a1∧a2=a2∧a3=a3∧a4=a4∧a5=a5∧a6=a6∧a7=a7∧a8=a8∧a9=a9∧a10=a10∧True:=⟨rfl,rfl,rfl,rfl,rfl,rfl,rfl,rfl,rfl,rfl,rfl,trivial⟩
theorem K12{t0:Sort _}{a0:t0}{t1:Sort _}{a1:t1}{t2:Sort _}{a2:t2}{t3:Sort _}{a3:t3}{t4:Sort _}{a4:t4}{t5:Sort _}{a5:t5}{t6:Sort _}{a6:t6}{t7:Sort _}{a7:t7}{t8:Sort _}{a8:t8}{t9:Sort _}{a9:t9}{t10:Sort _}{a10:t10}{t11:Sort _}{a11:t11} : a0=a0∧a1=a1∧a2=a2∧a3=a3∧a4=a4∧a5=a5∧a6=a6∧a7=a7∧a8=a8∧a9=a9∧a10=a10∧a11=a11∧True:=⟨rfl,rfl,rfl,rfl,rfl,rfl,rfl,rfl,rfl,rfl,rfl,rfl,trivial⟩
theorem K14{t0:Sort _}{a0:t0}{t1:Sort _}{a1:t1}{t2:Sort _}{a2:t2}{t3:Sort _}{a3:t3}{t4:Sort _}{a4:t4}{t5:Sort _}{a5:t5}{t6:Sort _}{a6:t6}{t7:Sort _}{a7:t7}{t8:Sort _}{a8:t8}{t9:Sort _}{a9:t9}{t10:Sort _}{a10:t10}{t11:Sort _}{a11:t11}{t12:Sort _}{a12:t12}{t13:Sort _}{a13:t13} : a0=a0∧a1=a1∧a2=a2∧a3=a3∧a4=a4∧a5=a5∧a6=a6∧a7=a7∧a8=a8∧a9=a9∧a10=a10∧a11=a11∧a12=a12∧a13=a13∧True:=⟨rfl,rfl,rfl,rfl,rfl,rfl,rfl,rfl,rfl,rfl,rfl,rfl,rfl,rfl,trivial⟩
theorem K15{t0:Sort _}{a0:t0}{t1:Sort _}{a1:t1}{t2:Sort _}{a2:t2}{t3:Sort _}{a3:t3}{t4:Sort _}{a4:t4}{t5:Sort _}{a5:t5}{t6:Sort _}{a6:t6}{t7:Sort _}{a7:t7}{t8:Sort _}{a8:t8}{t9:Sort _}{a9:t9}{t10:Sort _}{a10:t10}{t11:Sort _}{a11:t11}{t12:Sort _}{a12:t12}{t13:Sort _}{a13:t13}{t14:Sort _}{a14:t14} : a0=a0∧a1=a1∧a2=a2∧a3=a3∧a4=a4∧a5=a5∧a6=a6∧a7=a7∧a8=a8∧a9=a9∧a10=a10∧a11=a11∧a12=a12∧a13=a13∧a14=a14∧True:=⟨rfl,rfl,rfl,rfl,rfl,rfl,rfl,rfl,rfl,rfl,rfl,rfl,rfl,rfl,rfl,trivial⟩
theorem K17{t0:Sort _}{a0:t0}{t1:Sort _}{a1:t1}{t2:Sort _}{a2:t2}{t3:Sort _}{a3:t3}{t4:Sort _}{a4:t4}{t5:Sort _}{a5:t5}{t6:Sort _}{a6:t6}{t7:Sort _}{a7:t7}{t8:Sort _}{a8:t8}{t9:Sort _}{a9:t9}{t10:Sort _}{a10:t10}{t11:Sort _}{a11:t11}{t12:Sort _}{a12:t12}{t13:Sort _}{a13:t13}{t14:Sort _}{a14:t14}{t15:Sort _}{a15:t15}{t16:Sort _}{a16:t16} : a0=a0∧a1=a1∧a2=a2∧a3=a3∧a4=a4∧a5=a5∧a6=a6∧a7=a7∧a8=a8∧a9=a9∧a10=a10∧a11=a11∧a12=a12∧a13=a13∧a14=a14∧a15=a15∧a16=a16∧True:=⟨rfl,rfl,rfl,rfl,rfl,rfl,rfl,rfl,rfl,rfl,rfl,rfl,rfl,rfl,rfl,rfl,rfl,trivial⟩
theorem K18{t0:Sort _}{a0:t0}{t1:Sort _}{a1:t1}{t2:Sort _}{a2:t2}{t3:Sort _}{a3:t3}{t4:Sort _}{a4:t4}{t5:Sort _}{a5:t5}{t6:Sort _}{a6:t6}{t7:Sort _}{a7:t7}{t8:Sort _}{a8:t8}{t9:Sort _}{a9:t9}{t10:Sort _}{a10:t10}{t11:Sort _}{a11:t11}{t12:Sort _}{a12:t12}{t13:Sort _}{a13:t13}{t14:Sort _}{a14:t14}{t15:Sort _}{a15:t15}{t16:Sort _}{a16:t16}{t17:Sort _}{a17:t17} : a0=a0∧a1=a1∧a2=a2∧a3=a3∧a4=a4∧a5=a5∧a6=a6∧a7=a7∧a8=a8∧a9=a9∧a10=a10∧a11=a11∧a12=a12∧a13=a13∧a14=a14∧a15=a15∧a16=a16∧a17=a17∧True:=⟨rfl,rfl,rfl,rfl,rfl,rfl,rfl,rfl,rfl,rfl,rfl,rfl,rfl,rfl,rfl,rfl,rfl,rfl,trivial⟩
def Zey:=@Go.Proofs.Tryz.call103
def Zbq:=@Go.Proofs.Tryz.call117
def Ld:=@Go.Proofs.Tryz.call130
def Ml:=@Go.Proofs.Tryz.call133
def Aw:=@Go.Proofs.Tryz.call149
def Kq:=@Go.Proofs.Tryz.call23
def Zbp:=@Go.Proofs.Tryz.call44
def Bb:=@Go.Proofs.Tryz.call45
def Av:=@Go.Proofs.Tryz.call49
def Gt:=@Go.Proofs.Tryz.call69
def Za0:=@Go.Proofs.Tryz.call74
def Fb:=@Go.Proofs.Tryz.call81
def Fq:=@Go.Proofs.Tryz.isAgg151
def Ln:=@Go.Proofs.Tryz.isAgg154
def Ee:=@Go.Proofs.Tryz.isAgg26
def Xl:=@Go.Proofs.Tryz.isAgg31
def iA4:=@Go.Proofs.Tryz.isAgg4
def Xf:=@Go.Proofs.Tryz.isAgg41
def Zdf:=@Go.Proofs.Tryz.isAgg46
def Ou:=@Go.Proofs.Tryz.isAgg48
def Kh:=@Go.Proofs.Tryz.isAgg50
def Zct:=@Go.Proofs.Tryz.isAgg62
def iA9:=@Go.Proofs.Tryz.isAgg9
def Bf:=@Go.Proofs.Tryz.isAgg98
def Mh:=@Go.Proofs.Tryz.sizeOf149
def Fh:=@Go.Proofs.Tryz.sizeOf151
def Xb:=@Go.Proofs.Tryz.sizeOf154
def Zfo:=@Go.Proofs.Tryz.sizeOf165
def Ie:=@Go.Proofs.Tryz.sizeOf26
def zT3:=@Go.Proofs.Tryz.sizeOf3
def Yb:=@Go.Proofs.Tryz.sizeOf31
def zT4:=@Go.Proofs.Tryz.sizeOf4
def Ym:=@Go.Proofs.Tryz.sizeOf41
def Zcu:=@Go.Proofs.Tryz.sizeOf46
def Ys:=@Go.Proofs.Tryz.sizeOf48
def Ph:=@Go.Proofs.Tryz.sizeOf50
def Fe:=@Go.Proofs.Tryz.sizeOf62
def Znr:=@Go.Proofs.Tryz.sizeOf79
def zT9:=@Go.Proofs.Tryz.sizeOf9
def Zjq:=@Go.Proofs.Tryz.sizeOf96
def Gu:=@Go.Proofs.Tryz.sizeOf98
def Ks:=@Go.Proofs.Tryz.underlying102
def Zcx:=@Go.Proofs.Tryz.underlying149
def Xr:=@Go.Proofs.Tryz.underlying151
def Mt:=@Go.Proofs.Tryz.underlying154
def Zjy:=@Go.Proofs.Tryz.underlying165
def Zfu:=@Go.Proofs.Tryz.underlying167
def Zmm:=@Go.Proofs.Tryz.underlying172
def Zxp:=@Go.Proofs.Tryz.underlying22
def Xn:=@Go.Proofs.Tryz.underlying23
def Zip:=@Go.Proofs.Tryz.underlying29
def uT3:=@Go.Proofs.Tryz.underlying3
def Db:=@Go.Proofs.Tryz.underlying31
def Pm:=@Go.Proofs.Tryz.underlying34
def uT4:=@Go.Proofs.Tryz.underlying4
def Hn:=@Go.Proofs.Tryz.underlying41
def Ol:=@Go.Proofs.Tryz.underlying46
def Da:=@Go.Proofs.Tryz.underlying48
def uT5:=@Go.Proofs.Tryz.underlying5
def Zio:=@Go.Proofs.Tryz.underlying50
def Zin:=@Go.Proofs.Tryz.underlying62
def Ad:=@Go.Proofs.Tryz.underlying74
def Gm:=@Go.Proofs.Tryz.underlying79
def Zlz:=@Go.Proofs.Tryz.underlying83
def uT9:=@Go.Proofs.Tryz.underlying9
def Ze3:=@Go.Proofs.Tryz.underlying96
def Znv:=@Go.Proofs.Tryz.underlying98
theorem u2T{a0 a1 r:Prop}(g:a0→a1→r)(h:a0∧a1∧True):r:=g h.1 h.2.1
theorem u3K{a0 a1 a2 r:Prop}(g:a0→a1→a2→r)(h:a0∧a1∧a2):r:=g h.1 h.2.1 h.2.2
theorem u3T{a0 a1 a2 r:Prop}(g:a0→a1→a2→r)(h:a0∧a1∧a2∧True):r:=g h.1 h.2.1 h.2.2.1
theorem u4K{a0 a1 a2 a3 r:Prop}(g:a0→a1→a2→a3→r)(h:a0∧a1∧a2∧a3):r:=g h.1 h.2.1 h.2.2.1 h.2.2.2
theorem u4T{a0 a1 a2 a3 r:Prop}(g:a0→a1→a2→a3→r)(h:a0∧a1∧a2∧a3∧True):r:=g h.1 h.2.1 h.2.2.1 h.2.2.2.1
theorem u5T{a0 a1 a2 a3 a4 r:Prop}(g:a0→a1→a2→a3→a4→r)(h:a0∧a1∧a2∧a3∧a4∧True):r:=g h.1 h.2.1 h.2.2.1 h.2.2.2.1 h.2.2.2.2.1
theorem u6T{a0 a1 a2 a3 a4 a5 r:Prop}(g:a0→a1→a2→a3→a4→a5→r)(h:a0∧a1∧a2∧a3∧a4∧a5∧True):r:=g h.1 h.2.1 h.2.2.1 h.2.2.2.1 h.2.2.2.2.1 h.2.2.2.2.2.1
theorem u8T{a0 a1 a2 a3 a4 a5 a6 a7 r:Prop}(g:a0→a1→a2→a3→a4→a5→a6→a7→r)(h:a0∧a1∧a2∧a3∧a4∧a5∧a6∧a7∧True):r:=g h.1 h.2.1 h.2.2.1 h.2.2.2.1 h.2.2.2.2.1 h.2.2.2.2.2.1 h.2.2.2.2.2.2.1 h.2.2.2.2.2.2.2.1
def Ov{P N sc env H o t t' x y m n}:=@u3T _ _ _ _  fun x1 x2 x3=>@d_add P N sc env H o t t' x y m n x1 x2 x3
def Hf{P N sc env H o t t' x y k m n}:=@u3T _ _ _ _  fun x1 x2 x3=>@d_eql P N sc env H o t t' x y k m n x1 x2 x3
def Xa{P N sc env H o x i vs v}:=@u3T _ _ _ _  fun x1 x2 x3=>@d_ex P N sc env H o x i vs v x1 x2 x3
def Qy{P N sc env H o x t f fs fd k b off q r}:=@u2T _ _ _  fun x1 x2=>fun x3=>fun x4=>fun x5=>@u2T _ _ _  fun x6 x7=>@d_fa P N sc env H o x t f fs fd k b off q r x1 x2 x3 x4 x5 x6 x7
def Fd{P N sc env H o t t' x y k m n}:=@u3T _ _ _ _  fun x1 x2 x3=>@d_gtr P N sc env H o t t' x y k m n x1 x2 x3
def Nj{P N sc env H α o x y t e v ii k i kd m p enc xs}:=@u4T _ _ _ _ _  fun x1 x2 x3 x4=>@d_ixa P N sc env H α o x y t e v ii k i kd m p enc xs x1 x2 x3 x4
def Mc{P N sc env H o x t tb i b j cs v}:=@u3T _ _ _ _  fun x1 x2 x3=>@d_lb P N sc env H o x t tb i b j cs v x1 x2 x3
def Qm{P N sc env H o x t tb i b j cs v0 v1}:=@u3T _ _ _ _  fun x1 x2 x3=>fun x4=>fun x5=>@u2T _ _ _  fun x6 x7=>@d_lb2 P N sc env H o x t tb i b j cs v0 v1 x1 x2 x3 x4 x5 x6 x7
def Pj{P N sc env H o x t tb i b j cs v0 v1 v2 v3}:=@u3T _ _ _ _  fun x1 x2 x3=>fun x4=>fun x5=>@u4T _ _ _ _ _  fun x6 x7 x8 x9=>@d_lb4 P N sc env H o x t tb i b j cs v0 v1 v2 v3 x1 x2 x3 x4 x5 x6 x7 x8 x9
def Ms{P N sc env H α o x t v ii k i p enc xs}:=fun x1=>@u3T _ _ _ _  fun x2 x3 x4=>@d_lde P N sc env H α o x t v ii k i p enc xs x1 x2 x3 x4
def Pa{P N sc env H o t t' x y k m n}:=@u3T _ _ _ _  fun x1 x2 x3=>@d_lss P N sc env H o t t' x y k m n x1 x2 x3
def Ya{P N sc env H o x v}:=@u2T _ _ _  fun x1 x2=>@d_mv P N sc env H o x v x1 x2
def Pk{P N sc env H o t t' x y k m n}:=@u3T _ _ _ _  fun x1 x2 x3=>@d_neq P N sc env H o t t' x y k m n x1 x2 x3
def Ql{P N sc env H o c x y v}:=@u3T _ _ _ _  fun x1 x2 x3=>@Yf2 P N sc env H o c x y v x1 x2 x3
def Om{P N sc env H o c x y v}:=@u3T _ _ _ _  fun x1 x2 x3=>@Yf1 P N sc env H o c x y v x1 x2 x3
def Pq{P N sc env H o t t' x y m n}:=@u3T _ _ _ _  fun x1 x2 x3=>@d_sub P N sc env H o t t' x y m n x1 x2 x3
def Zx{P N sc env H Q ops rest d ty pos af v op j e b}:=fun x1=>@u2T _ _ _  fun x2 x3=>@gdt P N sc env H Q ops rest d ty pos af v op j e b x1 x2 x3
def Kg{H p r}:=fun x1=>@u3T _ _ _ _  fun x2 x3 x4=>@Zna H p r x1 x2 x3 x4
def Lg{H p q r}:=fun x1=>@u3T _ _ _ _  fun x2 x3 x4=>@Ztv H p q r x1 x2 x3 x4
def Yj{P N sc env H Q ops rest d ty pos af op j e b b'}:=@u3T _ _ _ _  fun x1 x2 x3=>@gsk P N sc env H Q ops rest d ty pos af op j e b b' x1 x2 x3
def Pp{P N sc env H Q ops rest o G φ genv gH j e b}:=fun x1=>@u3T _ _ _ _  fun x2 x3 x4=>@gtt P N sc env H Q ops rest o G φ genv gH j e b x1 x2 x3 x4
def Zi{H al p r}:=fun x1=>@u3T _ _ _ _  fun x2 x3 x4=>@Ya2 H al p r x1 x2 x3 x4
def Zh{P N sc env H M ops F i rest o d v}:=@u2T _ _ _  fun x1 x2=>@r0' P N sc env H M ops F i rest o d v x1 x2
def Gf{P N sc env H M ops F rest i o d j e b v}:=fun x1=>@u5T _ _ _ _ _ _  fun x2 x3 x4 x5 x6=>@r0g P N sc env H M ops F rest i o d j e b v x1 x2 x3 x4 x5 x6
def Dw{P N sc env H M ops F rest i o d j e b b'}:=@u8T _ _ _ _ _ _ _ _ _  fun x1 x2 x3 x4 x5 x6 x7 x8=>@r2 P N sc env H M ops F rest i o d j e b b' x1 x2 x3 x4 x5 x6 x7 x8
def Np{N sc env H p}:=fun x1=>fun x2=>@u3T _ _ _ _  fun x3 x4 x5=>@s_dup N sc env H p x1 x2 x3 x4 x5
def Xi{P N sc env H M o t d i z cs w0 M0}:=@u2T _ _ _  fun x1 x2=>fun x3=>@u2T _ _ _  fun x4 x5=>@Yd3 P N sc env H M o t d i z cs w0 M0 x1 x2 x3 x4 x5
def Xj{P N sc env H o t d i z cs w0 M0 H0 ks}:=@u2T _ _ _  fun x1 x2=>fun x3=>@u2T _ _ _  fun x4 x5=>@Zzl P N sc env H o t d i z cs w0 M0 H0 ks x1 x2 x3 x4 x5
def Xp{P N sc env H M o t x d i v cs w0 M0}:=@u5T _ _ _ _ _ _  fun x1 x2 x3 x4 x5=>@t_box P N sc env H M o t x d i v cs w0 M0 x1 x2 x3 x4 x5
def Kp{P N sc env H M α o t e k n parts ivs d i cs w0 M0 enc ti z}:=fun x1=>@u3K _ _ _ _  fun x2 x3 x4=>fun x5=>fun x6=>@u5T _ _ _ _ _ _  fun x7 x8 x9 x10 x11=>fun x12=>@u2T _ _ _  fun x13 x14=>@Ic P N sc env H M α o t e k n parts ivs d i cs w0 M0 enc ti z x1 x2 x3 x4 x5 x6 x7 x8 x9 x10 x11 x12 x13 x14
def Zy{P N sc env H M o f xs ats d n vs pre al G φ Xz its w0 M0}:=fun x1=>@u4K _ _ _ _ _  fun x2 x3 x4 x5=>@Xv P N sc env H M o f xs ats d n vs pre al G φ Xz its w0 M0 x1 x2 x3 x4 x5
def Yf{P N sc env H M o f xs ats d n vs pre al G φ Xz its w0 M0}:=fun x1=>@u4K _ _ _ _ _  fun x2 x3 x4 x5=>@Xv P N sc env H M o f xs ats d n vs pre al G φ Xz its w0 M0 x1 x2 x3 x4 x5
def Zt{P N sc env H M o x y t tb i b k cs v vs w0 M0}:=@u6T _ _ _ _ _ _ _  fun x1 x2 x3 x4 x5 x6=>fun x7=>@u2T _ _ _  fun x8 x9=>@t_stw P N sc env H M o x y t tb i b k cs v vs w0 M0 x1 x2 x3 x4 x5 x6 x7 x8 x9
open Go.ChangeShapes Go.WideShapes Go.ChangeAt Go.RowKit Go.Joins Go.Deep
variable {P:Program} {W:World} {H:Type} {enc:TypeId×Value→H}
theorem Ze2 {base:Nat} {spare:Nat→Bool} {held:Bool} {fuel:Nat} {t:TypeId} {f0 f1:Field} {cs:List Value} {x:DataW H×List MemPlace}
  (ht:P.underlying t=some (.struct #[f0,f1])) (hC:P.cellsOf t=2) (ho0:f0.offset=0) (ho1:f1.offset=1) (hc0:P.cellsOf f0.type=1) (hc1:P.cellsOf f1.type=1) (h0:P.underlying f0.type=some .bool) (h1:P.underlying f1.type=some .string)
  (h:DataW.trod enc P W base spare held fuel t cs=some x):∃(b:Bool) (s:ByteArray),cs=[.bool b,.string s]∧s.size≤maxLen:=by
 obtain⟨y0,y1,n,hx,hl,e0,e1⟩:=trod_struct2 ht h
 rw [hC]at hl
 match cs,hl with
 | [c0,c1],_=>
  rw [ho0,hc0]at e0
  rw [ho1,hc1]at e1
  obtain⟨b,hb,_⟩:=DataW.trod_bool h0 e0
  obtain⟨s,hs,_,hz⟩:=DataW.trod_string h1 e1
  simp at hb hs
  exact⟨b,s,by rw [hb,hs],hz⟩
theorem Zil{α:Type}[Inhabited α]{p:Nat→α→Prop} : ∀n,(∀i,i<n→∃x,p i x)→∃xs:List α,xs.length=n∧∀i x,xs[i]? = some x→p i x
 | 0,_=>⟨[],rfl,fun i x h=>by simp at h⟩
 | n+1,h=>by
  obtain⟨xs,hl,hp⟩:=Zil n fun i hi=>h i (by omega)
  obtain⟨x,hx⟩:=h n (by omega)
  refine⟨xs ++ [x],by simp [hl],fun i y hy=>?_⟩
  rcases Nat.lt_or_ge i n with hi | hi
  ·rw [List.getElem?_append_left (by omega)]at hy;exact hp i y hy
  ·rw [List.getElem?_append_right (by omega),hl]at hy
   rcases Nat.eq_zero_or_pos (i-n)with h0 | h0
   ·rw [h0]at hy;simp at hy;subst hy;rw [show i=n by omega];exact hx
   ·rw [List.getElem?_eq_none (by simp;omega)]at hy;cases hy
theorem Zkt{r:Reach}{b0:Nat}{t e:TypeId}{a:Addr}{len cap:Nat}(hs:P.underlying t=some (.slice e))(hv:Value.okWide P W r b0 t (.slice (some a) len cap)):a.spot=none∧a.block<W.heap.size:=by
 unfold Value.okWide at hv
 rw [hs]at hv
 simp only at hv
 unfold Cell.okWide at hv
 rw [hs]at hv
 simp only at hv
 unfold Cell.ok at hv
 rw [hs]at hv
 simp only at hv
 obtain⟨_,_,_,h1,row,cells,h2,_⟩:=hv
 refine⟨h1,?_⟩
 unfold World.shape? at h2
 rcases Nat.lt_or_ge a.block W.heap.size with h | h
 ·exact h
 ·rw [Array.getElem?_eq_none h]at h2
  simp at h2
theorem Zto {t e:TypeId} {f0 f1:Field} {v:Value} {d:DataW H} {p:List MemPlace} (hs:P.underlying t=some (.slice e))
  (ht:P.underlying e=some (.struct #[f0,f1])) (hC:P.cellsOf e=2) (ho0:f0.offset=0) (ho1:f1.offset=1) (hc0:P.cellsOf f0.type=1) (hc1:P.cellsOf f1.type=1) (h0:P.underlying f0.type=some .bool) (h1:P.underlying f1.type=some .string)
  {r:Reach} {b0:Nat} (hv:Value.okWide P W r b0 t v) (h:DataW.Trod enc P W 0 (fun _=>true) true t v d p) (hlt:∀x∈p,x.block<W.heap.size) :
  ∃r:List (Bool×ByteArray),(Pw 2 Zax v r).holds W:=by
 obtain⟨a0,len,cap,rfl⟩:=okWide_slice hs hv
 obtain⟨fuel,hf⟩:=h
 rcases open_slice hs hf with⟨hcs,_⟩ | ⟨a,len',cap',m,n,D,Pl,hcs,_,hl,hm,hmm,hx,hel⟩
 ·simp [Value.cells]at hcs
  obtain⟨rfl,rfl,rfl⟩:=hcs
  exact⟨[],Zbd 2 Zax W⟩
 ·simp [Value.cells]at hcs
  obtain⟨rfl,rfl,rfl⟩:=hcs
  simp at hmm
  subst hmm
  obtain⟨xs,hxl,hxs⟩:=Zil (p:=fun i (z:Bool×ByteArray)=>W.cells? 0 (a.add (i*2)) 2=some [.bool z.1,.string z.2]) len fun i hi=>by
   obtain⟨cs',h2,h3⟩:=hel i (by omega)
   rw [hC]at h2
   obtain⟨b,s,rfl,_⟩:=Ze2 ht hC ho0 ho1 hc0 hc1 h0 h1 h3
   exact⟨(b,s),h2⟩
  have hp:p=MemPlace.row a (m*2) ++ (List.range m).flatMap Pl:=by rw [hC]at hx;exact(Prod.mk.inj hx).2
  refine⟨xs,⟨some a,m,by rw [hxl],by omega,hm,?_⟩,fun b hb=>?_⟩
  ·rcases Nat.eq_zero_or_pos len with hz | hz
   ·exact .inl (List.eq_nil_of_length_eq_zero (by omega))
   ·right
    obtain⟨g,off,spot⟩:=a
    obtain⟨hsp,_⟩:=Zkt hs hv
    simp only at hsp
    subst hsp
    refine⟨g,off,rfl,fun i x hi j u hj=>?_⟩
    obtain⟨_,_,hc⟩:=World.cells?_some (hxs i x hi)
    have hj2:j<2:=by
     rcases Nat.lt_or_ge j 2 with h | h
     ·exact h
     ·rw [List.getElem?_eq_none (by simp [Value.cells];omega)]at hj;cases hj
    have:=hc j hj2
    simp only [Mz]at this
    rw [this]
    simpa [Value.cells]using hj
  ·cases hb
   exact(Zkt hs hv).2
theorem Zkr {t e:TypeId} {g0 g1 f0 f1:Field} {v:Value} {d:DataW H} {p:List MemPlace} {base:Nat} {spare:Nat→Bool} {held:Bool} {r:Reach} {b0:Nat}
  (hg:P.underlying t=some (.struct #[g0,g1])) (ht:P.underlying e=some (.struct #[f0,f1])) (hC4:P.cellsOf t=4) (hC:P.cellsOf e=2) (hg0:g0.type=e) (hg1:g1.type=e) (hp0:g0.offset=0) (hp1:g1.offset=2)
  (hc0:P.cellsOf f0.type=1) (hc1:P.cellsOf f1.type=1) (h0:P.underlying f0.type=some .bool) (h1:P.underlying f1.type=some .string) (ho0:f0.offset=0) (ho1:f1.offset=1)
  (hv:Value.okWide P W r b0 t v) (h:DataW.Trod enc P W base spare held t v d p):∃(b:Bool) (s:ByteArray) (c:Bool) (u:ByteArray),v= .agg #[.bool b,.string s,.bool c,.string u]:=by
 obtain⟨cs,rfl,hsz⟩:=okWide_struct hg hv
 obtain⟨fuel,hf⟩:=h
 obtain⟨y0,y1,n,hx,hl,e0,e1⟩:=trod_struct2 hg hf
 rw [hg0,hp0,hC]at e0
 rw [hg1,hp1,hC]at e1
 obtain⟨b,s,hb,_⟩:=Ze2 ht hC ho0 ho1 hc0 hc1 h0 h1 e0
 obtain⟨c,u,hc,_⟩:=Ze2 ht hC ho0 ho1 hc0 hc1 h0 h1 e1
 refine⟨b,s,c,u,?_⟩
 rw [show cs=#[.bool b,.string s,.bool c,.string u]from Array.ext' ?_]
 obtain⟨l⟩:=cs
 simp only [Value.cells]at hb hc
 match l,hsz,hb,hc with
 | l,hsz,hb,hc=>
  have h4:l.length=4:=by rw [←hC4];exact hsz
  match l,h4 with
  | [a,b',c',d'],_=>simp_all
end Go.Sky
namespace Go.Sky
set_option maxRecDepth 20000
theorem Zpz{K:Nat}{f:Nat→Int}{n:Nat}(h:∀i,i<n→bl (f i).natAbs≤K)(hn:n≤1023):bl (Qi f n).natAbs≤K+10:=by
 rw [Mj]
 have h1:=Zuc h
 have h2:n*(2^K-1)≤1023*(2^K-1):=Nat.mul_le_mul_right _ hn
 have h3:0<2^K:=Nat.two_pow_pos K
 rw [Nat.pow_add]
 omega
theorem Gd(zs:List (Int×SL))(z:Int×SL):Zk (zs ++ [z])=Zk zs ++ [z.1]:=by simp [Zk]
theorem Ye2(p q:List Int):tzl (mk (max p.length q.length) fun t=>cf p t+cf q t)=Zfc p q:=rfl
theorem Ztj(p:List Int)(c:Int):tzl (mk p.length fun t=>cf p t*c)=Xm p c:=by rw [Zo2 p (· * c)];rfl
theorem Yex(p q:List Int):tzl (mk (p.length+q.length-1) fun t=>Qi (fun k=>cf p k*cf q (t-k)) (t+1))=Oo p q:=rfl
theorem Zb0{x:Int}{m:Nat}(h:bl x.natAbs≤m)(n:Nat):bl (x^n).natAbs≤n*m+1:=by
 rcases Nat.eq_zero_or_pos n with h0 | h0
 ·rw [h0,Int.pow_zero];have:bl (1:Int).natAbs=1:=by decide
  omega
 ·have:=Dt x h n h0;omega
theorem Ht(p:List Int)(c:Int):(Xm p c).length≤p.length:=by
 unfold Xm;have:=Hc (p.map (· * c));rwa [List.length_map]at this
theorem Ybf(p q:List Int):(Zfc p q).length≤max p.length q.length:=by
 unfold Zfc;have:=Hc (mk (max p.length q.length) fun i=>cf p i+cf q i);rwa [Qe]at this
theorem bl_i1{i:Nat}(h:i≤1000):bl ((i:Int)+1).natAbs≤1000000000:=by
 have h1:=Nu (show((i:Int)+1).natAbs≤1001 by omega)
 have h2:bl 1001≤10:=by decide
 omega
theorem ev_tb{p:List Int}{x y:Int}(hs:Sz 1000000 p)(hx:∀k,bl (x^k).natAbs≤k*1000000+1)(hy:∀k,bl (y^k).natAbs≤k*1000000+1)(hl:p.length≤30)(t:Nat):bl (cf p t*(x^t*y^(p.length-1-t))).natAbs≤100000000:=by
 rcases Nat.lt_or_ge t p.length with h | h
 ·have h1:=hx t
  have h2:=hy (p.length-1-t)
  have h3:=Qb (x^t) (y^(p.length-1-t))
  have h4:=Qb (cf p t) (x^t*y^(p.length-1-t))
  have h5:=hs t
  have h6:t*1000000+(p.length-1-t)*1000000≤30*1000000:=by rw [←Nat.add_mul];exact Nat.mul_le_mul_right _ (by omega)
  omega
 ·rw [Xt h,Int.zero_mul];exact Nat.zero_le _
theorem Mw{y:Int}(h:y≠0):∀n:Nat,y^n≠0
 | 0=>by rw [Int.pow_zero];omega
 | n+1=>by rw [Int.pow_succ];exact Int.mul_ne_zero (Mw h n) h
theorem Ztt(xs ys:List Int):xs.map wr=ys.map wr↔xs=ys:=by
 refine⟨fun h=>?_,fun h=>by rw [h]⟩
 exact List.map_inj_right (fun x y h=>wv_inj (congrArg Prod.fst h) (congrArg Prod.snd h)) |>.1 h
theorem Cal.imp2{P:Program}{f:FuncId}{args:Array Value}{p1 p q:Pc}{pre:List Pc}{al:Bool}{G:Type}{φ:G→Prop}{Xz:G→Value}{its:G→List Pc}(h:Cal P f args (p1 :: p :: pre) al φ Xz its)(hh:∀w,q.holds w→p.holds w)(hf:∀b,p.fp b→q.fp b) :
  Cal P f args (p1 :: q :: pre) al φ Xz its:=fun w hp=>by
 refine(h w fun r hr=>?_).mono ?_
 ·rcases List.mem_cons.1 hr with rfl | hr
  ·exact hp _ (List.mem_cons_self ..)
  ·rcases List.mem_cons.1 hr with rfl | hr
   ·exact hh w (hp q (List.mem_cons_of_mem _ (List.mem_cons_self ..)))
   ·exact hp r (List.mem_cons_of_mem _ (List.mem_cons_of_mem _ hr))
 ·rintro e w' ⟨g,he,hg,hb,hits⟩
  refine⟨g,he,hg,hb,fun p' hp'=>?_⟩
  obtain⟨h1,h2,h3⟩:=hits p' hp'
  refine⟨h1,h2,fun b hb=>?_⟩
  rcases h3 b hb with h | ⟨h,r,hr,hrb⟩
  ·exact .inl h
  ·refine .inr ⟨h,?_⟩
   rcases List.mem_cons.1 hr with rfl | hr
   ·exact⟨r,List.mem_cons_self ..,hrb⟩
   ·rcases List.mem_cons.1 hr with rfl | hr
    ·exact⟨q,List.mem_cons_of_mem _ (List.mem_cons_self ..),hf b hrb⟩
    ·exact⟨r,List.mem_cons_of_mem _ (List.mem_cons_of_mem _ hr),hrb⟩
theorem Zku{r:List (Bool×ByteArray)}(ha:r.all (fun w=>okW w.1 w.2)=true):okP r=(decide (r.length≤25) && (decide (r.length=0) || decide ((0:Int)<(((r.getD (r.length-1) (false,⟨#[]⟩)).2.size:Nat):Int)))):=by
 unfold okP
 rw [ha,Bool.true_and]
 congr 2
 rw [decide_eq_decide];omega
def shm(q:List Int)(c:Int)(s i:Nat):List Int:=mk (s+i) fun t=>if t<s then 0 else c*cf q (t-s)
theorem Zf4(q:List Int)(c:Int)(s:Nat):List.replicate s 0=shm q c s 0:=by
 rw [Zoh];unfold shm
 exact Gq fun i hi=>by rw [if_pos hi]
theorem Zf5(q:List Int)(c:Int)(s i:Nat):shm q c s i ++ [c*cf q i]=shm q c s (i+1):=by
 unfold shm
 rw [show s+(i+1)=s+i+1 by omega,Zcb,if_neg (by omega),show s+i-s=i by omega]
theorem Zpw(q:List Int)(c:Int)(s t:Nat):cf (shm q c s q.length) t=if s≤t∧t<s+q.length then c*cf q (t-s)else 0:=by
 unfold shm
 rw [Iu]
 by_cases h1:t<s
 ·rw [if_neg (by omega:¬(s≤t∧t<s+q.length))];split
  ·rfl
  ·rfl
 ·by_cases h2:t<s+q.length
  ·rw [if_pos h2,if_neg h1,if_pos (show s≤t∧t<s+q.length by omega)]
  ·rw [if_neg h2,if_neg (show ¬(s≤t∧t<s+q.length) by omega)]
section
variable {p q:List Int}
theorem Ze8(hq:0<q.length)(hl:q.length≤p.length):∀j,j≤p.length-q.length+1→∀t,p.length-j≤t→cf (Py p q j) t=0
 | 0,_,t,ht=>Xt (by unfold Py;omega)
 | j+1,hj,t,ht=>by
  rcases Nat.lt_or_ge t p.length with h | h
  ·unfold Py
   rw [Zg8 (by rw [Ow];exact h)]
   by_cases he:t=p.length-1-j
   ·subst he
    rw [if_pos (by omega),show p.length-1-j-(p.length-1-j-(q.length-1))=q.length-1 by omega]
    omega
   ·rw [Ze8 hq hl j (by omega) t (by omega),Int.zero_mul,if_neg (by omega)];rfl
  ·exact Xt (by rw [Ow];omega)
theorem Zc4(hq:0<q.length)(hl:q.length≤p.length){j:Nat} : ∀k,j+k≤p.length-q.length+1→(∀t,p.length-(j+k)≤t→cf (Py p q j) t=0)→∀t,cf (Py p q (j+k)) t=cf (Py p q j) t*cf q (q.length-1)^k
 | 0,_,_,t=>by rw [Int.pow_zero,Int.mul_one];rfl
 | k+1,hk,hz,t=>by
  have ih:=Zc4 hq hl k (by omega) (fun t ht=>hz t (by omega))
  rcases Nat.lt_or_ge t p.length with h | h
  ·show cf (Zeq q (Py p q (j+k)) (p.length-1-(j+k))) t=_
   rw [Zg8 (by rw [Ow];exact h),ih t,ih (p.length-1-(j+k)),hz (p.length-1-(j+k)) (by omega),Int.zero_mul,Int.zero_mul]
   split<;>rw [Int.sub_zero,Int.pow_succ,Int.mul_assoc]
  ·rw [Xt (by rw [Ow];omega),Xt (by rw [Ow];omega),Int.zero_mul]
def Cq(p q R:List Int)(j:Nat):Prop:=Tr R∧∀t,cf R t=cf (Py p q j) t*cf q (q.length-1)^(p.length-q.length+1-j)
theorem Zof:Cq p q (Xm p (cf q (q.length-1)^(p.length-q.length+1))) 0:=⟨Ob _ _,fun t=>by rw [Qd];rfl⟩
theorem Zte{R:List Int}{j:Nat}(hq:0<q.length)(hl:q.length≤p.length)(hlead:cf q (q.length-1)≠0)(hj:j≤p.length-q.length+1)(h:Cq p q R j)(hR:q.length≤R.length):j≤p.length-R.length∧p.length-R.length≤p.length-q.length∧R.length≤p.length∧Cq p q R (p.length-R.length):=by
 have hpow:∀n,cf q (q.length-1)^n≠0:=fun n=>Mw hlead n
 have htop:cf R (R.length-1)≠0:=h.1.mem (fun e=>by rw [e,List.length_nil]at hR;omega)
 have h1:R.length-1<p.length-j:=by
  rcases Nat.lt_or_ge (R.length-1) (p.length-j)with h1 | h1
  ·exact h1
  ·rw [h.2,Ze8 hq hl j hj _ h1,Int.zero_mul]at htop;exact absurd rfl htop
 have hjl:j≤p.length-R.length:=by omega
 refine⟨hjl,by omega,by omega,h.1,fun t=>?_⟩
 have hz:∀t,p.length-(j+(p.length-R.length-j))≤t→cf (Py p q j) t=0:=fun t ht=>by
  have h2:=h.2 t
  rw [Xt (by omega)]at h2
  rcases Int.mul_eq_zero.1 h2.symm with h3 | h3
  ·exact h3
  ·exact absurd h3 (hpow _)
 have h2:=Zc4 hq hl (j:=j) (p.length-R.length-j) (by omega) hz t
 rw [show j+(p.length-R.length-j)=p.length-R.length by omega]at h2
 rw [h2,h.2,Int.mul_assoc,←Int.pow_add]
 congr 2;omega
theorem Zif{R:List Int}(hlead:cf q (q.length-1)≠0)(h:Cq p q R (p.length-R.length))(hq:0<q.length)(hR:q.length≤R.length)(hp:R.length≤p.length):cf R (R.length-1)/cf q (q.length-1)=cf (Py p q (p.length-R.length)) (R.length-1)*cf q (q.length-1)^(p.length-q.length-(p.length-R.length)):=by
 rw [h.2,show p.length-q.length+1-(p.length-R.length)=p.length-q.length-(p.length-R.length)+1 by omega,Int.pow_succ,←Int.mul_assoc]
 exact Int.mul_ediv_cancel _ hlead
theorem Zog{R:List Int}(hlead:cf q (q.length-1)≠0)(h:Cq p q R (p.length-R.length))(hq:0<q.length)(hR:q.length≤R.length)(hp:R.length≤p.length) :
  Cq p q (Zat R (shm q (cf R (R.length-1)/cf q (q.length-1)) (R.length-q.length) q.length)) (p.length-R.length+1):=by
 refine⟨Zdu _ _,fun t=>?_⟩
 rw [Hy,Zpw,Zif hlead h hq hR hp,h.2]
 rcases Nat.lt_or_ge t p.length with ht | ht
 ·show _=cf (Zeq q (Py p q (p.length-R.length)) (p.length-1-(p.length-R.length))) t*_
  rw [Zg8 (by rw [Ow];exact ht),show p.length-1-(p.length-R.length)=R.length-1 by omega,show R.length-1-(q.length-1)=R.length-q.length by omega]
  rw [show p.length-q.length+1-(p.length-R.length)=p.length-q.length-(p.length-R.length)+1 by omega,show p.length-q.length+1-(p.length-R.length+1)=p.length-q.length-(p.length-R.length) by omega,Int.pow_succ]
  split<;>grind
 ·rw [Xt (p:=Py p q (p.length-R.length)) (by rw [Ow];exact ht),Xt (p:=Py p q (p.length-R.length+1)) (by rw [Ow];exact ht),if_neg (by omega)]
  simp
theorem Zq1{R:List Int}{j:Nat}(hq:0<q.length)(hl:q.length≤p.length)(hlead:cf q (q.length-1)≠0)(hj:j≤p.length-q.length+1)(h:Cq p q R j)(hR:R.length<q.length):R=Pn p q:=by
 unfold Pn
 rw [if_neg (by omega)]
 refine h.1.ext (Nk _) fun t=>?_
 have hz:∀t,p.length-(j+(p.length-q.length+1-j))≤t→cf (Py p q j) t=0:=fun t ht=>by
  have h2:=h.2 t
  rw [Xt (by omega)]at h2
  rcases Int.mul_eq_zero.1 h2.symm with h3 | h3
  ·exact h3
  ·exact absurd h3 (Mw hlead _)
 have h2:=Zc4 hq hl (j:=j) (p.length-q.length+1-j) (by omega) hz t
 rw [show j+(p.length-q.length+1-j)=p.length-q.length+1 by omega]at h2
 rw [Ki,h2,h.2]
theorem Ztf{R:List Int}{j:Nat}(hj:j≤p.length-q.length+1)(h:Cq p q R j):Sz (Pf p+(p.length-q.length+1)*(Pf q+1)+1) R:=fun t=>by
 rw [h.2]
 have h1:=Bx p q j t
 have h2:=Zb0 (On q (q.length-1)) (p.length-q.length+1-j)
 have h3:=Qb (cf (Py p q j) t) (cf q (q.length-1)^(p.length-q.length+1-j))
 have h4:(p.length-q.length+1-j)*Pf q≤(p.length-q.length+1-j)*(Pf q+1):=Nat.mul_le_mul_left _ (by omega)
 have h5:j*(Pf q+1)+(p.length-q.length+1-j)*(Pf q+1)=(p.length-q.length+1)*(Pf q+1):=by rw [←Nat.add_mul];congr 1;omega
 omega
theorem Zq0{R:List Int}{j:Nat}(h:Cq p q R j):R.length≤p.length:=by
 rcases Nat.lt_or_ge p.length R.length with h1 | h1
 ·have h2:=h.1.mem (fun e=>by rw [e]at h1;simp at h1)
  rw [h.2,Xt (by rw [Ow];omega),Int.zero_mul]at h2
  exact absurd rfl h2
 ·exact h1
end
end Go.Sky
namespace Go.Sky
section
variable {P:Program} {N:Nat} {sc:Nat→Prop} {env env':Kl} {H H':Hp}
theorem Ag(n k:Nat):∀a w,Sat N sc env H a w→Sat N sc env ((n,Cd qI (List.replicate k I0)) :: H) a w:=fun a w hs=>by
 have hz:∀z,z∈List.replicate k I0→z=I0:=fun z hz=>(List.mem_replicate.1 hz).2
 refine hs.add n _ (fun z h=>by rw [hz z h];exact Zbd 1 Hx w) (fun j' jt _ _ Ge b hb hb'=>?_) (fun b hb=>?_)
 ·obtain⟨z,h1,h2⟩:=hb;rw [hz z h1]at h2;cases h2
 ·obtain⟨z,h1,h2⟩:=hb;rw [hz z h1]at h2;cases h2
end
theorem Zxh{c r l:Int}{n A B:Nat}(h:c=r*l^n)(hr:bl r.natAbs≤A)(hl:bl l.natAbs≤B):bl c.natAbs≤A+(n*B+1):=by
 rw [h]
 have h1:=Qb r (l^n)
 rcases Nat.eq_zero_or_pos n with h0 | h0
 ·rw [h0,Int.pow_zero];rw [Int.mul_one];omega
 ·have:=Dt l hl n h0;omega
theorem Yeo{p q R:List Int}(hq:q.length≤R.length)(hl:q.length≤p.length)(hp:R.length≤p.length) :
  Pf p+(p.length-R.length)*(Pf q+1)+((p.length-q.length-(p.length-R.length))*Pf q+1)≤Pf p+(p.length-q.length+1)*(Pf q+1):=by
 have h1:(p.length-q.length-(p.length-R.length))*Pf q≤(p.length-q.length-(p.length-R.length))*(Pf q+1):=Nat.mul_le_mul_left _ (by omega)
 have h2:(p.length-R.length)*(Pf q+1)+(p.length-q.length-(p.length-R.length))*(Pf q+1)=(p.length-q.length)*(Pf q+1):=by rw [←Nat.add_mul];congr 1;omega
 rw [Nat.succ_mul];omega
theorem Yak{p q R:List Int}{c r:Int}(h:c=r*cf q (q.length-1)^(p.length-q.length-(p.length-R.length)))(hr:bl r.natAbs≤Pf p+(p.length-R.length)*(Pf q+1))(hs:Sz (Pf q) q)(hq:q.length≤R.length)(hl:q.length≤p.length)(hp:R.length≤p.length)(t:Nat) :
  bl (c*cf q t).natAbs≤Pf p+(p.length-q.length+1)*(Pf q+1)+1:=by
 have h1:=Zxh h hr (hs _)
 have h2:=Qb c (cf q t)
 have h3:=hs t
 have h4:(p.length-q.length-(p.length-R.length))*Pf q≤(p.length-q.length-(p.length-R.length))*(Pf q+1):=Nat.mul_le_mul_left _ (by omega)
 have h5:(p.length-R.length)*(Pf q+1)+(p.length-q.length-(p.length-R.length))*(Pf q+1)=(p.length-q.length)*(Pf q+1):=by rw [←Nat.add_mul];congr 1;omega
 rw [Nat.succ_mul];omega
theorem Zn1{q:List Int}{c:Int}{s i n:Nat}(h:∀t,bl (c*cf q t).natAbs≤n):Sz n (shm q c s i):=by
 unfold shm
 refine Zaf fun t _=>?_
 split
 ·exact Nat.zero_le _
 ·exact h _
end Go.Sky
namespace Go.Sky
theorem vp_lit{l:List Int}(h1:∀x∈l,inI x)(h2:tzl l=l)(h3:l.length≤25):Vp l:=⟨Zfy h1,h2▸Nk l,h3⟩
theorem Zwe{l:List Int}(h:(l.all fun x=>decide (-1000000≤x) && decide (x≤1000000))=true):∀x∈l,inI x:=fun x hx=>by
 have h1:=List.all_eq_true.1 h x hx
 simp only [Bool.and_eq_true,decide_eq_true_eq]at h1
 exact⟨by omega,by omega⟩
def Zyn(l:List Int):Bool:=(l.all fun x=>decide (-1000000≤x) && decide (x≤1000000)) && (decide (tzl l=l) && decide (l.length≤25))
theorem vp_b{l:List Int}(h:Zyn l=true):Vp l:=by
 unfold Zyn at h
 rw [Bool.and_eq_true,Bool.and_eq_true]at h
 exact vp_lit (Zwe h.1) (of_decide_eq_true h.2.1) (of_decide_eq_true h.2.2)
instance eokDec:∀f a b,Decidable (eok f a b)
 | 0,_,b=>inferInstanceAs (Decidable (b=[]))
 | f+1,a,b=>@instDecidableOr _ _ _ (@instDecidableAnd _ _ _ (eokDec f b (Yx (Pn a b))))
open Go.Proofs.Tryz
open Go.Proofs
set_option maxRecDepth 20000
set_option maxHeartbeats 4000000
set_option linter.unusedSimpArgs false
theorem Ybs(v:Value)(xs:List Nat):Cal prog 127 #[v] [Pw 1 Lk v xs] true (G:=Unit) (fun _=>True) (fun _=>Ix v (tz xs).length) (fun _=>[Pw 1 Lk (Ix v (tz xs).length) (tz xs)]):=by
 refine Yg func127 J ntmps127 J K1 fun w0 sc hw hsc=>?_
 simp only [Zs,Zq]
 refine Mi (Zty (i:=1) J Zg) fun hself=>Mi (Hk (i:=1) J Zg) fun hlen=>Zb<|Zf<|Zo J<|Zd<|Za<|Zb<|Zn<|Px [] [(0,_)] (fun(k:Nat)=>[(0,Ix v k)]) (fun(k:Nat)=>[(1,Pw 1 Lk (Ix v k) (xs.take k))]) (fun(k:Nat)=>(k≤xs.length)∧(tz (xs.take k)=tz xs)) (fun(k:Nat)=>k) xs.length ⟨Nat.le_refl _,by rw [List.take_length]⟩ ⟨by rw [hself];rfl,trivial⟩ ⟨by rw [hself,List.take_length];rfl,rfl,trivial⟩ ?_
 rintro k ⟨hk,ht⟩
 simp only [CA,NA]
 have hl:(xs.take k).length=k:=by rw [List.length_take];omega
 refine Zb<|Zb<|Zf<|mv J<|dt (Yc J J (i:=1) J Zg Xr)<|dt (Fd K3)<|mv J<|Pb (d:=6) J (fun s21=>?_) (fun s21=>?_)
 ·refine Zx (Ya K2) K2<|Zx (Ya K2) K2<|Zx (Yc J J (i:=1) J Zg Xr) K2<|Zx (Pq K3) K2<|Zx (Nj (ii:=1) (i:=k-1) K4 Zg Xr Mh) K2<|Zx (Ms (ii:=1) 0 K3 Zg pU) K2<|Zx (Hf K3) K2<|dt (Om K3)<|Zd<|Za<|Zr J (fun h21=>?_) (fun h21=>?_)
  ·have hstep:=Zup hk (by omega) (by omega:(xs.take k).getD (k-1) 0=0)
   exact Zl<|Za<|Zn<|Zf<|mv J<|mv J<|dt (Yc J J (i:=1) J Zg Xr)<|dt (Pq K3)<|dt (Zwr (ii:=1) (i:=k-1) J J J J Zg Xr Mh)<|Zo J<|Zd<|Qh<|Qn (Yaa 1 1 (k-1) J J)<|Xg (k-1) ⟨by first | omega | (dsimp only<;>omega),by rw [←ht,←hstep]⟩ (by first | omega | (dsimp only<;>omega)) ⟨by rw [←Em v k (k-1)];rfl,trivial⟩ ⟨by rw [Em,List.take_take,Nat.min_eq_left (by omega)];rfl,rfl,trivial⟩
  ·refine Yt<|Zv<|Zv<|Pd<|Za<|Zb<|Zf<|mv J<|Zo J<|Zd<|Za<|Zp ?_
   have hx:tz xs=xs.take k:=by rw [←ht];exact Zfw hk (by omega)
   exact xG hsc () results127 J (by rw [hx,hl]) trivial J (Lg 1 K3 (by rw [hx,hl]) Zm)
 ·refine Yj K3<|Yj K3<|Yj K3<|Yj K3<|Yj K3<|Yj K3<|Yj K3<|dt (Ql K3)<|Zd<|Za<|Yk J<|Yt<|Zv<|Zv<|Pd<|Za<|Zb<|Zf<|mv J<|Zo J<|Zd<|Za<|Zp ?_
  have hx:tz xs=xs.take k:=by rw [←ht];exact Zfw hk (by omega)
  exact xG hsc () results127 J (by rw [hx,hl]) trivial J (Lg 1 K3 (by rw [hx,hl]) Zm)
theorem Nz(v:Value)(xs:List Nat):Cal prog 127 #[v] [Pw 1 Lk v xs] false (G:=Unit) (fun _=>True) (fun _=>Ix v (tz xs).length) (fun _=>[]):=(Ybs v xs).bare
theorem Zv4(v w:Value)(x y:Nat)(hx:bl x≤4294967296)(hy:bl y≤4294967296):Cal prog 171 #[v,w] [Dj v x,Dj w y] false (G:=Value) (fun r=>True) (fun r=>r) (fun r=>[Dj r (x+y)]):=by
 refine Yg func171 J ntmps171 J K2 fun w0 sc hw hsc=>?_
 simp only [Zs,Zq]
 have hX:=Lt x
 have hY:=Lt y
 refine Zb<|Zf<|Zo J<|Zd<|Za<|Iy [] [(0,_),(1,_),(2,_)] (fun(q:Value×Value×Nat×Nat)=>[(0,q.1),(1,q.2.1)]) (fun(q:Value×Value×Nat×Nat)=>[(91,Dj q.1 q.2.2.1),(92,Dj q.2.1 q.2.2.2)]) (fun(q:Value×Value×Nat×Nat)=>(q.2.2.1+q.2.2.2=x+y)∧((dg U q.2.2.2).length≤(dg U q.2.2.1).length)∧((dg U q.2.2.1).length≤1099511627776)) trivial K3 ?_ ?_
 ·refine Zb<|Zf<|mv J<|dt (Yc J J (i:=1) J Zg Xr)<|mv J<|dt (Yc J J (i:=2) J Zg Xr)<|dt (Pa K3)<|Zd<|Za<|Zr J (fun h73=>?_) (fun h73=>?_)
  ·exact Zf<|mv J<|mv J<|Zo J<|Zo J<|Zd<|Qn (Np 2 91 K3)<|Qn (Np 1 92 K3)<|Xd (w,v,y,x) ⟨by first | omega | (dsimp only<;>omega),by first | omega | (dsimp only<;>omega),by first | omega | (dsimp only<;>omega)⟩ K2 K5
  ·exact Zl<|Qn (Np 1 91 K3)<|Qn (Np 2 92 K3)<|Xd (v,w,x,y) ⟨by first | omega | (dsimp only<;>omega),by first | omega | (dsimp only<;>omega),by first | omega | (dsimp only<;>omega)⟩ K2 K5
 ·rintro⟨va,vb,a,b⟩ ⟨hs,hl,hla⟩
  dsimp only at hs hl hla
  simp only [CA,NA]
  refine Zb<|Zf<|mv J<|dt (Yc J J (i:=91) J Zg Xr)<|dt (Ov K3)<|tt (Gh (i:=3) (n:=(dg U a).length+1) (by_:=8) (enc:=Lk) 0 J J J J Xr ti149 J pU.cells pU.pos J J J hw) fun v _=>Zo J<|Zd<|Za<|Zb<|Zf<|Zo J<|Zd<|Za<|Zb<|Zb<|Zf<|mv J<|dt (Yc J J (i:=91) J Zg Xr)<|mv J<|Zd<|Za<|Zn<|Px [(0,_),(1,_),(5,_),(21,_)] [(0,_),(91,_),(92,_),(1,_),(2,_)] (fun(q:Nat×List Nat×Nat)=>[(22,.int .i64 (q.1:Int)),(6,.int .u64 (q.2.2:Int))]) (fun(q:Nat×List Nat×Nat)=>[(3,Lf 1 149 Lk v q.2.1)]) (fun(q:Nat×List Nat×Nat)=>(q.1≤(dg U a).length)∧(q.2.1.length=(dg U a).length+1)∧(∀d∈q.2.1,d<U)∧(q.2.2≤1)∧(Xz U (q.2.1.take q.1)+q.2.2*U^q.1=Xz U ((dg U a).take q.1)+Xz U ((dg U b).take q.1))) (fun(q:Nat×List Nat×Nat)=>(dg U a).length-q.1) (0,List.replicate ((dg U a).length+1) 0,0) ⟨by first | omega | (dsimp only<;>omega),by simp,Mu _ Po,by first | omega | (dsimp only<;>omega),by simp [Xz]⟩ K6 K6 ?_
  rintro⟨k,o,c⟩ ⟨hk,hol,hoa,hc,hv⟩
  dsimp only at hk hol hoa hc hv
  simp only [CA,NA]
  refine Zb<|Zf<|dt (Pa K3)<|Zd<|Za<|Zb<|Zr J (fun h78=>?_) (fun h78=>?_)
  ·refine Zl<|Za<|Zb<|Zn<|Zb<|Zf<|mv J<|Zo J<|Zd<|Za<|Zb<|Zf<|Zo J<|Zd<|Za<|Iy [(0,_),(1,_),(5,_),(6,_),(7,_),(21,_),(22,_)] [(0,_),(3,_),(91,_),(92,_),(1,_),(2,_)] (fun(_:Unit)=>[(8,.int .u64 ((dg U b).getD k 0:Int))]) (fun(_:Unit)=>[]) (fun(_:Unit)=>True) K7 K6 ?_ ?_
   ·refine Zb<|Zf<|mv J<|mv J<|dt (Yc J J (i:=92) J Zg Xr)<|dt (Pa K3)<|Zd<|Za<|Zr J (fun h80=>?_) (fun h80=>?_)
    ·refine Zf<|mv J<|mv J<|dt (Nj (ii:=92) K4 Zg Xr Mh J (by first | omega | (simp only [List.length_set];omega)))<|dt (Ms (ii:=92) 0 K3 Zg pU (by first | omega | (simp only [List.length_set];omega)))<|Zo J<|Zd ?_
     try (have hz:(dg U b).getD k 0=0:=by simp [List.getD,List.getElem?_eq_none (by omega:(dg U b).length≤k)])
     exact Xd () trivial ⟨by first | rfl | (rw [hz];rfl),rfl,rfl,rfl,rfl,rfl,rfl,rfl,trivial⟩ K6
    ·refine Zl ?_
     try (have hz:(dg U b).getD k 0=0:=by simp [List.getD,List.getElem?_eq_none (by omega:(dg U b).length≤k)])
     exact Xd () trivial ⟨by first | rfl | (rw [hz];rfl),rfl,rfl,rfl,rfl,rfl,rfl,rfl,trivial⟩ K6
   ·rintro _ -
    simp only [CA,NA]
    exact Zf<|mv J<|mv J<|mv J<|mv J<|dt (Nj (ii:=91) K4 Zg Xr Mh J (by first | omega | (simp only [List.length_set];omega)))<|dt (Ms (ii:=91) 0 K3 Zg pU (by first | omega | (simp only [List.length_set];omega)))<|mv J<|mv J<|dt (Zpn J J J J (by omega) Zh5)<|mv J<|dt (Xa K3)<|dt (Xa K3)<|dt (Nj (ii:=3) K4 (Yu pU) Xr Mh J (by first | omega | (simp only [List.length_set];omega)))<|tt (Ip (i:=3) (enc:=Lk) _ J J J J J J pU J hw (by decide) (by first | omega | (simp only [List.length_set];omega))) fun _ _=>Zo J<|Zd<|Qh<|Za<|Zf<|dt (Ov K3)<|mv J<|Zd<|Xg (k+1,_,_) ⟨by first | omega | (dsimp only<;>omega),by simp;omega,Ib hoa _ _ (Nat.mod_lt _ Po),by have h1:=Pg Po (Lc Pi a) k;have h2:=Pg Po (Lc Pi b) k;simp only [U]at *;omega,Ydl hv (by omega)⟩ (by first | omega | (dsimp only<;>omega)) K6 K6
  ·refine Yt<|Zv<|Zv<|Pd<|Za<|Zb ?_
   obtain rfl:k=(dg U a).length:=by omega
   refine Zf<|mv J<|mv J<|dt (Yc J J (i:=91) J Zg Xr)<|mv J<|dt (Nj (ii:=3) K4 (Yu pU) Xr Mh J (by first | omega | (simp only [List.length_set];omega)))<|tt (Ip (i:=3) (enc:=Lk) _ J J J J J J pU J hw (by decide) (by first | omega | (simp only [List.length_set];omega))) fun _ _=>Zd<|Za<|Zb<|Zf<|mv J<|tt (Zy (n:=3) (Nz _ _) K4 call127 (Qk 3 J J pU Ze) J hw) fun _ _=>Qx (Za6 3 J J pU)<|Zo J<|Zd<|Za<|Zp ?_
   have hx:tz (o.set (dg U a).length c)=dg U (x+y):=by
    rw [←Iw Pi _ (Ib hoa _ _ (by simp only [U];omega)),←hs]
    congr 1
    conv=>rhs;rw [←Lv Pi a,←Lv Pi b]
    rw [List.take_of_length_le (Nat.le_refl (dg U a).length),Lo U (dg U b) _ hl]at hv
    rw [←hv,←Bl U o _ c (by omega),Lo _ _ _ (by simp;omega)]
   exact xG hsc _ results171 J J trivial J (Ng 3 J J pU hx Zm)
theorem Zgp(v w:Value)(x y:Nat)(hx:bl x≤4294967296)(hxy:y≤x:=by omega):Cal prog 173 #[v,w] [Dj v x,Dj w y] false (G:=Value) (fun r=>True) (fun r=>r) (fun r=>[Dj r (x-y)]):=by
 refine Yg func173 J ntmps173 J K2 fun w0 sc hw hsc=>?_
 simp only [Zs,Zq]
 have hX:=Lt x
 have hY:=Lt y
 have hm:=Nu hxy
 refine Zb<|Zf<|Zo J<|Zd<|Za<|Zb<|Zf<|mv J<|dt (Yc J J (i:=1) J Zg Xr)<|tt (Gh (i:=3) (n:=(dg U x).length) (by_:=8) (enc:=Lk) 0 J J J J Xr ti149 J pU.cells pU.pos J J J hw) fun v _=>Zo J<|Zd<|Za<|Zb<|Zf<|Zo J<|Zd<|Za<|Zb<|Zb<|Zf<|mv J<|dt (Yc J J (i:=1) J Zg Xr)<|mv J<|Zd<|Za<|Zn<|Px [(0,_),(1,_),(5,_),(13,_)] [(0,_),(1,_),(2,_)] (fun(q:Nat×List Nat×Nat)=>[(14,.int .i64 (q.1:Int)),(6,.int .u64 (q.2.2:Int))]) (fun(q:Nat×List Nat×Nat)=>[(3,Lf 1 149 Lk v q.2.1)]) (fun(q:Nat×List Nat×Nat)=>(q.1≤(dg U x).length)∧(q.2.1.length=(dg U x).length)∧(∀d∈q.2.1,d<U)∧(q.2.2≤1)∧(Xz U (q.2.1.take q.1)+Xz U ((dg U y).take q.1)=Xz U ((dg U x).take q.1)+q.2.2*U^q.1)) (fun(q:Nat×List Nat×Nat)=>(dg U x).length-q.1) (0,List.replicate ((dg U x).length) 0,0) ⟨by first | omega | (dsimp only<;>omega),by simp,Mu _ Po,by first | omega | (dsimp only<;>omega),by simp [Xz]⟩ K6 K4 ?_
 rintro⟨k,o,c⟩ ⟨hk,hol,hoa,hc,hv⟩
 dsimp only at hk hol hoa hc hv
 simp only [CA,NA]
 refine Zb<|Zf<|dt (Pa K3)<|Zd<|Za<|Zb<|Zr J (fun h93=>?_) (fun h93=>?_)
 ·refine Zl<|Za<|Zb<|Zn<|Zb<|Zf<|mv J<|Zo J<|Zd<|Za<|Zb<|Zf<|Zo J<|Zd<|Za<|Iy [(0,_),(1,_),(5,_),(6,_),(7,_),(13,_),(14,_)] [(0,_),(3,_),(1,_),(2,_)] (fun(_:Unit)=>[(8,.int .u64 ((dg U y).getD k 0:Int))]) (fun(_:Unit)=>[]) (fun(_:Unit)=>True) K7 K4 ?_ ?_
  ·refine Zb<|Zf<|mv J<|mv J<|dt (Yc J J (i:=2) J Zg Xr)<|dt (Pa K3)<|Zd<|Za<|Zr J (fun h95=>?_) (fun h95=>?_)
   ·refine Zf<|mv J<|mv J<|dt (Nj (ii:=2) K4 Zg Xr Mh J (by first | omega | (simp only [List.length_set];omega)))<|dt (Ms (ii:=2) 0 K3 Zg pU (by first | omega | (simp only [List.length_set];omega)))<|Zo J<|Zd ?_
    try (have hz:(dg U y).getD k 0=0:=by simp [List.getD,List.getElem?_eq_none (by omega:(dg U y).length≤k)])
    exact Xd () trivial ⟨by first | rfl | (rw [hz];rfl),rfl,rfl,rfl,rfl,rfl,rfl,rfl,trivial⟩ K4
   ·refine Zl ?_
    try (have hz:(dg U y).getD k 0=0:=by simp [List.getD,List.getElem?_eq_none (by omega:(dg U y).length≤k)])
    exact Xd () trivial ⟨by first | rfl | (rw [hz];rfl),rfl,rfl,rfl,rfl,rfl,rfl,rfl,trivial⟩ K4
  ·rintro _ -
   simp only [CA,NA]
   exact Zf<|mv J<|mv J<|mv J<|mv J<|dt (Nj (ii:=1) K4 Zg Xr Mh J (by first | omega | (simp only [List.length_set];omega)))<|dt (Ms (ii:=1) 0 K3 Zg pU (by first | omega | (simp only [List.length_set];omega)))<|mv J<|mv J<|dt (Yf0 J J J J (by omega) Zxq)<|mv J<|dt (Xa K3)<|dt (Xa K3)<|dt (Nj (ii:=3) K4 (Yu pU) Xr Mh J (by first | omega | (simp only [List.length_set];omega)))<|tt (Ip (i:=3) (enc:=Lk) _ J J J J J J pU J hw (by decide) (by first | omega | (simp only [List.length_set];omega))) fun _ _=>Zo J<|Zd<|Qh<|Za<|Zf<|dt (Ov K3)<|mv J<|Zd<|Xg (k+1,_,_) ⟨by first | omega | (dsimp only<;>omega),by simp;omega,Ib hoa _ _ (Nat.mod_lt _ Po),Yde _ _ _,Zzs hc (Pg Po (Lc Pi x) k) (Pg Po (Lc Pi y) k) hv (by omega)⟩ (by first | omega | (dsimp only<;>omega)) K6 K4
 ·refine Yt<|Zv<|Zv<|Pd<|Za<|Zb<|Zf<|mv J<|tt (Zy (n:=3) (Nz _ _) K4 call127 (Qk 3 J J pU Ze) J hw) fun _ _=>Qx (Za6 3 J J pU)<|Zo J<|Zd<|Za<|Zp ?_
  obtain rfl:k=(dg U x).length:=by omega
  have hx:tz o=dg U (x-y):=by
   rw [←Iw Pi _ hoa]
   congr 1
   have hly:(dg U y).length≤(dg U x).length:=by omega
   rw [Lo U o _ (by omega),Lo U (dg U y) _ hly,Lo U (dg U x) _ (Nat.le_refl _),Lv Pi,Lv Pi]at hv
   have h1:=Zhj Po o hoa
   rw [hol]at h1
   have h0:c=0∨c=1:=by omega
   rcases h0 with rfl | rfl<;>omega
  exact xG hsc _ results173 J J trivial J (Ng 3 J J pU hx Zm)
theorem Zdb(v w:Value)(x y:Nat)(hx:bl x≤4294967296)(hy:bl y≤4294967296):Cal prog 172 #[v,w] [Dj v x,Dj w y] false (G:=Int) (fun r=>(r<0↔x<y)∧(0<r↔y<x)) (fun r=> .int .i64 r) (fun r=>[]):=by
 refine Yg func172 J ntmps172 J K2 fun w0 sc hw hsc=>?_
 simp only [Zs,Zq]
 have hX:=Lt x
 have hY:=Lt y
 refine Zb<|Zf<|Zo J<|Zd<|Za<|Zb<|Zb<|Zf<|mv J<|dt (Yc J J (i:=1) J Zg Xr)<|mv J<|dt (Yc J J (i:=2) J Zg Xr)<|dt (Pk K3)<|Zd<|Za<|Zr J (fun h57=>?_) (fun h57=>?_)
 ·exact Zb<|Zf<|mv J<|dt (Yc J J (i:=1) J Zg Xr)<|mv J<|dt (Yc J J (i:=2) J Zg Xr)<|dt (Pq K3)<|Zo J<|Zd<|Za<|Zp<|Yp<|xG hsc _ results172 J J ⟨⟨fun h=>Zbk Pi (by omega),fun h=>by have:=Nu (Nat.le_of_lt h);omega⟩,⟨fun h=>Zbk Pi (by omega),fun h=>by have:=Nu (Nat.le_of_lt h);omega⟩⟩ J Zm
 ·have hlen:(dg U x).length=(dg U y).length:=by omega
  refine Zl<|Za<|Zb<|Zb<|Zf<|mv J<|dt (Yc J J (i:=1) J Zg Xr)<|dt (Pq K3)<|Zo J<|Zd<|Za<|Zn<|Px [(0,_),(1,_)] [(0,_),(1,_),(2,_)] (fun(k:Nat)=>[(5,.int .i64 ((k:Int)-1))]) (fun(k:Nat)=>[]) (fun(k:Nat)=>(k≤(dg U x).length)∧((dg U x).drop k=(dg U y).drop k)) (fun(k:Nat)=>k) (dg U x).length ⟨by first | omega | (dsimp only<;>omega),by rw [List.drop_length,hlen,List.drop_length]⟩ K3 K3 ?_
  rintro k ⟨hk,hd⟩
  simp only [CA,NA]
  refine Zb<|Zb<|Zf<|mv J<|dt (Lh J J J)<|Zd<|Za<|Zr J (fun h60=>?_) (fun h60=>?_)
  ·refine Zl<|Za<|Zb<|Zn<|Zn<|Zb<|Qj (fun _=>False) [(0,0),(1,0),(2,0),(3,0),(4,0),(5,0),(6,0),(7,0),(8,0),(9,0)] ?_ ?_
   ·kernel_rfl
   refine Zh K2 (Yo (Ya K2))<|Zh K2 (Yo (Ya K2))<|Zh K2 (Yo (Nj (ii:=1) (i:=k-1) K4 Zg Xr Mh))<|Zh K2 (Yo (Ms (ii:=1) 0 K3 Zg pU (by first | omega | (simp only [List.length_set];omega))))<|Zh K2 (Yo (Ya K2))<|Zh K2 (Yo (Ya K2))<|Zh K2 (Yo (Nj (ii:=2) (i:=k-1) K4 Zg Xr Mh))<|Zh K2 (Yo (Ms (ii:=2) 0 K3 Zg pU (by first | omega | (simp only [List.length_set];omega))))<|Zh K2 (Yo (Pa K3))<|Zh K2 (Yo (Ok J J))<|Pv<|Za<|Zr J (fun h62=>?_) (fun h62=>?_)
   ·refine Zb<|Zf<|Zo J<|Zd<|Za<|Zp<|Md<|Md<|Yp<|Yp<|Md<|Yp ?_
    have hlt:=Zpr Po (xs:=dg U x) (ys:=dg U y) (Lc Pi x) (k:=k-1) (by omega) (by omega) (by rw [show k-1+1=k by omega];exact hd) (by omega)
    rw [Lv Pi,Lv Pi]at hlt
    exact Yr (.inl J) hsc (-1) _ (fun a w hs=>Nr hs results172 J) J (by omega) J Zm
   ·refine Zb<|Qj (fun _=>False) [(0,0),(1,0),(2,0),(3,0),(4,0),(5,0),(6,0),(7,0),(8,0),(9,0)] ?_ ?_
    ·kernel_rfl
    refine Zh K2 (Yo (Ya K2))<|Zh K2 (Yo (Ya K2))<|Zh K2 (Yo (Nj (ii:=1) (i:=k-1) K4 Zg Xr Mh))<|Zh K2 (Yo (Ms (ii:=1) 0 K3 Zg pU (by first | omega | (simp only [List.length_set];omega))))<|Zh K2 (Yo (Ya K2))<|Zh K2 (Yo (Ya K2))<|Zh K2 (Yo (Nj (ii:=2) (i:=k-1) K4 Zg Xr Mh))<|Zh K2 (Yo (Ms (ii:=2) 0 K3 Zg pU (by first | omega | (simp only [List.length_set];omega))))<|Zh K2 (Yo (Fd K3))<|Zh K2 (Yo (Ok J J))<|Pv<|Za<|Zr J (fun h64=>?_) (fun h64=>?_)
    ·refine Zb<|Zf<|Zo J<|Zd<|Za<|Zp<|Md<|Md<|Yp<|Yp<|Md<|Yp ?_
     have hlt:=Zpr Po (xs:=dg U y) (ys:=dg U x) (Lc Pi y) (k:=k-1) (by omega) (by omega) (by rw [show k-1+1=k by omega];exact hd.symm) (by omega)
     rw [Lv Pi,Lv Pi]at hlt
     exact Yr (.inl J) hsc 1 _ (fun a w hs=>Nr hs results172 J) J (by omega) J Zm
    ·exact Zl<|Qh<|Qh<|Za<|Zf<|mv J<|dt (Pq K3)<|Zo J<|Zd<|Xg (k-1) ⟨by first | omega | (dsimp only<;>omega),by have:=Zg0 (xs:=dg U x) (ys:=dg U y) (k:=k-1) (by omega) (by omega) (by rw [show k-1+1=k by omega];exact hd) (by omega);exact this⟩ (by first | omega | (dsimp only<;>omega)) ⟨by rw [show(((k-1:Nat):Int)-1)=(k:Int)-1-1 by omega];rfl,rfl,rfl,trivial⟩ K3
  ·refine Yt<|Zv<|Zv<|Pd<|Za<|Zb<|Zf<|Zo J<|Zd<|Za<|Zp ?_
   obtain rfl:k=0:=by omega
   have heq:x=y:=(Zh2 Pi).1 (by simpa using hd)
   exact Yr (.inl J) hsc 0 _ (fun a w hs=>Nr hs results172 J) J (by omega) J Zm
theorem Ydh(x y:Nat)(hx:x<U)(hy:y<U):Od prog 199 #[.int .u64 (x:Int),.int .u64 (y:Int)] [] (.tuple #[.int .u64 ((x*y/U:Nat):Int),.int .u64 ((x*y%U:Nat):Int)]):=by
 refine Yg func199 J ntmps199 J trivial fun w0 sc hw hsc=>?_
 simp only [Zs,Zq]
 simp only [U]at hx hy
 exact Zb<|Zf<|Zo J<|Zo J<|Zd<|Za<|Zb<|Zf<|mv J<|dt (Zqd J J J hx)<|Zo J<|Zd<|Za<|Zb<|Zf<|mv J<|dt (Ez (n:=32) (n':=4294967296) J J J J J)<|Zo J<|Zd<|Za<|Zb<|Zf<|mv J<|dt (Zqd J J J hy)<|Zo J<|Zd<|Za<|Zb<|Zf<|mv J<|dt (Ez (n:=32) (n':=4294967296) J J J J J)<|Zo J<|Zd<|Za<|Zb<|Zf<|mv J<|mv J<|dt (Bh J J J)<|Zo J<|Zd<|Za<|Zb<|Zf<|mv J<|mv J<|dt (Bh J J J)<|mv J<|dt (Ez (n:=32) (n':=4294967296) J J J J J)<|dt (Ac J J J)<|Zo J<|Zd<|Za<|Zb<|Zf<|mv J<|dt (Zqd J J J (Nat.mod_lt _ Po))<|Zo J<|Zd<|Za<|Zb<|Zf<|mv J<|dt (Ez (n:=32) (n':=4294967296) J J J J J)<|Zo J<|Zd<|Za<|Zb<|Zf<|mv J<|mv J<|mv J<|dt (Bh J J J)<|dt (Ac J J J)<|Zo J<|Zd<|Za<|Zb<|Zf<|mv J<|mv J<|dt (Bh J J J)<|mv J<|dt (Ac J J J)<|mv J<|dt (Ez (n:=32) (n':=4294967296) J J J J J)<|dt (Ac J J J)<|Zo J<|Zd<|Za<|Zb<|Zf<|mv J<|mv J<|dt (Bh J J J)<|Zo J<|Zd<|Za<|Zp<|Yr (.inl J) hsc () _ (fun a w hs=>Pz hs results199 J J) (by rw [Ybv hx hy _ _ rfl rfl]) trivial J Zm
theorem Zv2(v w:Value)(x y:Nat)(hx:bl x≤4294967296)(hy:bl y≤4294967296):Cal prog 194 #[v,w] [Dj v x,Dj w y] false (G:=Value) (fun r=>True) (fun r=>r) (fun r=>[Dj r (x*y)]):=by
 refine Yg func194 J ntmps194 J K2 fun w0 sc hw hsc=>?_
 simp only [Zs,Zq]
 have hX:=Lt x
 have hY:=Lt y
 refine Zb<|Zf<|Zo J<|Zd<|Za<|Zb<|Zf<|mv J<|dt (Yc J J (i:=1) J Zg Xr)<|mv J<|dt (Yc J J (i:=2) J Zg Xr)<|dt (Ov K3)<|tt (Gh (i:=3) (n:=(dg U x).length+(dg U y).length) (by_:=8) (enc:=Lk) 0 J J J J Xr ti149 J pU.cells pU.pos J J J hw) fun v _=>Zo J<|Zd<|Za<|Zb<|Zb<|Zf<|mv J<|dt (Yc J J (i:=1) J Zg Xr)<|mv J<|Zd<|Za<|Zn<|Px [(1,_),(5,_),(20,_),(21,_)] [(0,_),(1,_),(2,_)] (fun(q:Nat×List Nat)=>[(22,.int .i64 (q.1:Int))]) (fun(q:Nat×List Nat)=>[(3,Lf 1 149 Lk v q.2)]) (fun(q:Nat×List Nat)=>(q.1≤(dg U x).length)∧(q.2.length=(dg U x).length+(dg U y).length)∧(∀d∈q.2,d<U)∧(∀j,q.1+(dg U y).length≤j→q.2.getD j 0=0)∧(Xz U (q.2.take (q.1+(dg U y).length))=Xz U ((dg U x).take q.1)*y)) (fun(q:Nat×List Nat)=>(dg U x).length-q.1) (0,List.replicate ((dg U x).length+(dg U y).length) 0) ⟨by first | omega | (dsimp only<;>omega),by simp,Mu _ Po,fun j _=>Hg _ j,by simp [Xz,List.take_replicate,Fi]⟩ K5 K4 ?_
 rintro⟨i,o⟩ ⟨hi,hol,hoa,hz,hv⟩
 dsimp only at hi hol hoa hz hv
 simp only [CA,NA]
 refine Zb<|Zf<|dt (Pa K3)<|Zd<|Za<|Zb<|Zr J (fun h106=>?_) (fun h106=>?_)
 ·refine Zl<|Za<|Zb<|Zn<|Zb<|Zf<|mv J<|dt (Nj (ii:=1) K4 Zg Xr Mh J (by first | omega | (simp only [List.length_set];omega)))<|dt (Ms (ii:=1) 0 K3 Zg pU (by first | omega | (simp only [List.length_set];omega)))<|Zo J<|Zo J<|Zd<|Za<|Zb<|Zf<|Zo J<|Zd<|Za<|Zb<|Zb<|Zf<|mv J<|dt (Yc J J (i:=2) J Zg Xr)<|mv J<|Zd<|Za<|Zn<|Px [(1,_),(5,_),(6,_),(7,_),(20,_),(21,_),(22,_),(27,_),(28,_)] [(0,_),(1,_),(2,_)] (fun(q:Nat×List Nat×Nat)=>[(29,.int .i64 (q.1:Int)),(8,.int .u64 (q.2.2:Int))]) (fun(q:Nat×List Nat×Nat)=>[(3,Lf 1 149 Lk v q.2.1)]) (fun(q:Nat×List Nat×Nat)=>(q.1≤(dg U y).length)∧(q.2.1.length=(dg U x).length+(dg U y).length)∧(∀d∈q.2.1,d<U)∧(∀j,i+(dg U y).length≤j→q.2.1.getD j 0=0)∧(q.2.2<U)∧(Xz U (q.2.1.take (i+(dg U y).length))+q.2.2*U^(i+q.1)=Xz U ((dg U x).take i)*y+(dg U x).getD i 0*U^i*Xz U ((dg U y).take q.1))) (fun(q:Nat×List Nat×Nat)=>(dg U y).length-q.1) (0,o,0) ⟨by first | omega | (dsimp only<;>omega),hol,hoa,hz,Po,by rw [hv];simp [Xz]⟩ K11 K4 ?_
  rintro⟨k,p,c⟩ ⟨hk,hpl,hpa,hpz,hcU,hpv⟩
  dsimp only at hk hpl hpa hpz hcU hpv
  simp only [CA,NA]
  have hdig:=Zyg (Pg Po (Lc Pi x) i) (Pg Po (Lc Pi y) k) (Pg Po hpa (i+k)) hcU
  refine Zb<|Zf<|dt (Pa K3)<|Zd<|Za<|Zb<|Zr J (fun h108=>?_) (fun h108=>?_)
  ·refine Zl<|Za<|Zb<|Zn<|Zb<|Zf<|mv J<|dt (Nj (ii:=2) K4 Zg Xr Mh J (by first | omega | (simp only [List.length_set];omega)))<|dt (Ms (ii:=2) 0 K3 Zg pU (by first | omega | (simp only [List.length_set];omega)))<|Zo J<|Zo J<|Zd<|Za<|Zb<|Zf<|mv J<|mv J<|tt (Yf (n:=3) (Ydh _ _ (Pg Po (Lc Pi _) _) (Pg Po (Lc Pi _) _)) K5 call199 Ze J hw) fun _ _=>mv J<|dt (Xa K3)<|dt (Xa K3)<|Zo J<|Zo J<|Zd<|Za<|Zb<|Zf<|mv J<|mv J<|mv J<|mv J<|dt (Ov K3)<|dt (Nj (ii:=3) (i:=i+k) K4 (Yu pU) Xr Mh)<|dt (Ms (ii:=3) 0 K3 (Yu pU) pU (by first | omega | (simp only [List.length_set];omega)))<|dt (Zpn (c:=0) J J J J (by omega) Zh5)<|mv J<|dt (Xa K3)<|dt (Xa K3)<|Zo J<|Zo J<|Zd<|Za<|Zb<|Zf<|mv J<|mv J<|dt (Ac J J J)<|Zo J<|Zd<|Za<|Zb<|Zf<|mv J<|mv J<|dt (Zpn (c:=0) J J J J (by omega) Zh5)<|mv J<|dt (Xa K3)<|dt (Xa K3)<|Zo J<|Zo J<|Zd<|Za<|Zf<|mv J<|mv J<|mv J<|dt (Ov K3)<|mv J<|mv J<|mv J<|dt (Ac J J J)<|dt (Nj (ii:=3) (i:=i+k) K4 (Yu pU) Xr Mh) ?_
   exact tt (Ip (i:=3) (enc:=Lk) _ J J J J J J pU J hw (by decide) (by first | omega | (simp only [List.length_set];omega))) fun _ _=>Zo J<|Zd<|Qh<|Za<|Zf<|dt (Ov K3)<|mv J<|Zd<|Xg (k+1,_,_) ⟨by first | omega | (dsimp only<;>omega),by simp;omega,Ib hpa _ _ (Nat.mod_lt _ Po),fun j hj=>by rw [Mq _ _ _ _ _ (by omega),if_neg (by omega)];exact hpz j hj,hdig.2,Ybu hpv (by omega) (by omega) hdig.1⟩ (by first | omega | (dsimp only<;>omega)) K11 K4
  ·refine Yt<|Zv<|Zv<|Pd<|Za ?_
   obtain rfl:k=(dg U y).length:=by omega
   have hfin:=hpv
   rw [List.take_of_length_le (Nat.le_refl (dg U y).length),Lv Pi]at hfin
   exact Zf<|mv J<|mv J<|mv J<|dt (Yc J J (i:=2) J Zg Xr)<|dt (Ov K3)<|mv J<|dt (Nj (ii:=3) (i:=i+(dg U y).length) K4 (Yu pU) Xr Mh)<|tt (Ip (i:=3) (enc:=Lk) _ J J J J J J pU J hw (by decide) (by first | omega | (simp only [List.length_set];omega))) fun _ _=>Zd<|Qh<|Za<|Zf<|dt (Ov K3)<|mv J<|Zd<|Xg (i+1,_) ⟨by first | omega | (dsimp only<;>omega),by simp;omega,Ib hpa _ _ hcU,fun j hj=>by rw [Mq _ _ _ _ _ (by omega),if_neg (by omega)];exact hpz j (by omega),by dsimp only;rw [show i+1+(dg U y).length=i+(dg U y).length+1 by omega,Bl _ _ _ _ (by omega),Oa,Nat.add_mul,←hfin]⟩ (by first | omega | (dsimp only<;>omega)) K5 K4
 ·refine Yt<|Zv<|Zv<|Pd<|Za<|Zb<|Zf<|mv J<|tt (Zy (n:=3) (Nz _ _) K4 call127 (Qk 3 J J pU Ze) J hw) fun _ _=>Qx (Za6 3 J J pU)<|Zo J<|Zd<|Za<|Zp ?_
  obtain rfl:i=(dg U x).length:=by omega
  have hx:tz o=dg U (x*y):=by
   rw [←Iw Pi _ hoa]
   congr 1
   rw [Lo U o _ (by omega),List.take_of_length_le (Nat.le_refl _),Lv Pi]at hv
   exact hv
  exact xG hsc _ results194 J J trivial J (Ng 3 J J pU hx Zm)
set_option maxHeartbeats 1000000 in
theorem Ydi(x:Nat)(hx:x<U):Od prog 198 #[.int .u64 (x:Int)] [] (.int .i64 (bl x:Int)):=by
 refine Yg func198 J ntmps198 J trivial fun w0 sc hw hsc=>?_
 simp only [Zs,Zq]
 simp only [U]at hx
 have e32:=Hz x 32
 have e16:=Hz x 16
 have e8:=Hz x 8
 have e24:=Hz x 24
 have e40:=Hz x 40
 have e48:=Hz x 48
 have e56:=Hz x 56
 have f32:=Zcs 32 x
 have f16:=Zcs 16 x
 have f8:=Zcs 8 x
 have f24:=Zcs 24 x
 have f40:=Zcs 40 x
 have f48:=Zcs 48 x
 have f56:=Zcs 56 x
 have d1:=Nat.div_div_eq_div_mul x (2^32) (2^16)
 have d2:=Nat.div_div_eq_div_mul x (2^32) (2^8)
 have d3:=Nat.div_div_eq_div_mul x (2^16) (2^8)
 have d4:=Nat.div_div_eq_div_mul (x/2^32) (2^16) (2^8)
 have d5:=Nat.div_div_eq_div_mul x (2^32) (2^16*2^8)
 simp only [Nat.reducePow,Nat.reduceMul]at *
 refine Zb<|Zf<|Zo J<|Zd<|Za<|Zb<|Zb<|Zf<|mv J<|dt (Lh J J J)<|Zd<|Za<|Zr J (fun h338=>?_) (fun h338=>?_)
 ·refine Zb<|Zf<|mv J<|dt (Ez (n:=32) (n':=4294967296) J J J J J)<|Zo J<|Zd<|Za<|Zf<|Zo J<|Zd<|Za<|Zb<|Zb<|Zf<|mv J<|dt (Lh J J J)<|Zd<|Za<|Zr J (fun h342=>?_) (fun h342=>?_)
  ·refine Zb<|Zf<|mv J<|dt (Ez (n:=16) (n':=65536) J J J J J)<|Zo J<|Zd<|Za<|Zf<|mv J<|dt (Ov K3)<|Zo J<|Zd<|Za<|Zb<|Zb<|Zf<|mv J<|dt (Lh J J J)<|Zd<|Za<|Zr J (fun h346=>?_) (fun h346=>?_)
   ·exact Zb<|Zf<|mv J<|dt (Ez (n:=8) (n':=256) J J J J J)<|Zo J<|Zd<|Za<|Zf<|mv J<|dt (Ov K3)<|Zo J<|Zd<|Za<|Zb<|Zf<|mv J<|mv J<|dt (Zex J J Zcx uT5)<|dt (Zik J J J uT9 J (by omega) (by decide) (by decide +kernel))<|dt (Zaz J J uT5 uT3 (Zak _))<|dt (Ov K3 (Cz _ (by omega) (by omega)))<|Zo J<|Zd<|Za<|Zp<|xU hsc results198 J J (Zaj (n:=x) (by omega) (by first | omega | (simp only [Nat.div_div_eq_div_mul,Nat.reduceMul,e32,e16,e8,e24,e40,e48,e56];omega))).symm
   ·exact Zl<|Za<|Zb<|Zf<|mv J<|mv J<|dt (Zex J J Zcx uT5)<|dt (Zik J J J uT9 J (by omega) (by decide) (by decide +kernel))<|dt (Zaz J J uT5 uT3 (Zak _))<|dt (Ov K3 (Cz _ (by omega) (by omega)))<|Zo J<|Zd<|Za<|Zp<|xU hsc results198 J J (Zaj (n:=x) (by omega) (by first | omega | (simp only [Nat.div_div_eq_div_mul,Nat.reduceMul,e32,e16,e8,e24,e40,e48,e56];omega))).symm
  ·refine Zl<|Za<|Zb<|Zb<|Zf<|mv J<|dt (Lh J J J)<|Zd<|Za<|Zr J (fun h346_2=>?_) (fun h346_2=>?_)
   ·exact Zb<|Zf<|mv J<|dt (Ez (n:=8) (n':=256) J J J J J)<|Zo J<|Zd<|Za<|Zf<|mv J<|dt (Ov K3)<|Zo J<|Zd<|Za<|Zb<|Zf<|mv J<|mv J<|dt (Zex J J Zcx uT5)<|dt (Zik J J J uT9 J (by omega) (by decide) (by decide +kernel))<|dt (Zaz J J uT5 uT3 (Zak _))<|dt (Ov K3 (Cz _ (by omega) (by omega)))<|Zo J<|Zd<|Za<|Zp<|xU hsc results198 J J (Zaj (n:=x) (by omega) (by first | omega | (simp only [Nat.div_div_eq_div_mul,Nat.reduceMul,e32,e16,e8,e24,e40,e48,e56];omega))).symm
   ·exact Zl<|Za<|Zb<|Zf<|mv J<|mv J<|dt (Zex J J Zcx uT5)<|dt (Zik J J J uT9 J (by omega) (by decide) (by decide +kernel))<|dt (Zaz J J uT5 uT3 (Zak _))<|dt (Ov K3 (Cz _ (by omega) (by omega)))<|Zo J<|Zd<|Za<|Zp<|xU hsc results198 J J (Zaj (n:=x) (by omega) (by first | omega | (simp only [Nat.div_div_eq_div_mul,Nat.reduceMul,e32,e16,e8,e24,e40,e48,e56];omega))).symm
 ·refine Zl<|Za<|Zb<|Zb<|Zf<|mv J<|dt (Lh J J J)<|Zd<|Za<|Zr J (fun h342_2=>?_) (fun h342_2=>?_)
  ·refine Zb<|Zf<|mv J<|dt (Ez (n:=16) (n':=65536) J J J J J)<|Zo J<|Zd<|Za<|Zf<|mv J<|dt (Ov K3)<|Zo J<|Zd<|Za<|Zb<|Zb<|Zf<|mv J<|dt (Lh J J J)<|Zd<|Za<|Zr J (fun h346_3=>?_) (fun h346_3=>?_)
   ·exact Zb<|Zf<|mv J<|dt (Ez (n:=8) (n':=256) J J J J J)<|Zo J<|Zd<|Za<|Zf<|mv J<|dt (Ov K3)<|Zo J<|Zd<|Za<|Zb<|Zf<|mv J<|mv J<|dt (Zex J J Zcx uT5)<|dt (Zik J J J uT9 J (by omega) (by decide) (by decide +kernel))<|dt (Zaz J J uT5 uT3 (Zak _))<|dt (Ov K3 (Cz _ (by omega) (by omega)))<|Zo J<|Zd<|Za<|Zp<|xU hsc results198 J J (Zaj (n:=x) (by omega) (by first | omega | (simp only [Nat.div_div_eq_div_mul,Nat.reduceMul,e32,e16,e8,e24,e40,e48,e56];omega))).symm
   ·exact Zl<|Za<|Zb<|Zf<|mv J<|mv J<|dt (Zex J J Zcx uT5)<|dt (Zik J J J uT9 J (by omega) (by decide) (by decide +kernel))<|dt (Zaz J J uT5 uT3 (Zak _))<|dt (Ov K3 (Cz _ (by omega) (by omega)))<|Zo J<|Zd<|Za<|Zp<|xU hsc results198 J J (Zaj (n:=x) (by omega) (by first | omega | (simp only [Nat.div_div_eq_div_mul,Nat.reduceMul,e32,e16,e8,e24,e40,e48,e56];omega))).symm
  ·refine Zl<|Za<|Zb<|Zb<|Zf<|mv J<|dt (Lh J J J)<|Zd<|Za<|Zr J (fun h346_4=>?_) (fun h346_4=>?_)
   ·exact Zb<|Zf<|mv J<|dt (Ez (n:=8) (n':=256) J J J J J)<|Zo J<|Zd<|Za<|Zf<|mv J<|dt (Ov K3)<|Zo J<|Zd<|Za<|Zb<|Zf<|mv J<|mv J<|dt (Zex J J Zcx uT5)<|dt (Zik J J J uT9 J (by omega) (by decide) (by decide +kernel))<|dt (Zaz J J uT5 uT3 (Zak _))<|dt (Ov K3 (Cz _ (by omega) (by omega)))<|Zo J<|Zd<|Za<|Zp<|xU hsc results198 J J (Zaj (n:=x) (by omega) (by first | omega | (simp only [Nat.div_div_eq_div_mul,Nat.reduceMul,e32,e16,e8,e24,e40,e48,e56];omega))).symm
   ·exact Zl<|Za<|Zb<|Zf<|mv J<|mv J<|dt (Zex J J Zcx uT5)<|dt (Zik J J J uT9 J (by omega) (by decide) (by decide +kernel))<|dt (Zaz J J uT5 uT3 (Zak _))<|dt (Ov K3 (Cz _ (by omega) (by omega)))<|Zo J<|Zd<|Za<|Zp<|xU hsc results198 J J (Zaj (n:=x) (by omega) (by first | omega | (simp only [Nat.div_div_eq_div_mul,Nat.reduceMul,e32,e16,e8,e24,e40,e48,e56];omega))).symm
theorem Zp4(x:Nat)(hx:x<U):Od prog 189 #[.int .u64 (x:Int)] [] (.int .i64 ((64-bl x:Nat):Int)):=by
 refine Yg func189 J ntmps189 J trivial fun w0 sc hw hsc=>?_
 simp only [Zs,Zq]
 have hb:bl x≤64:=(Mj 64 x).2 hx
 exact Zb<|Zf<|Zo J<|Zd<|Za<|Zb<|Zf<|mv J<|tt (Zy (n:=0) (Ydi _ hx) K4 call198 Ze J hw) fun _ _=>dt (Pq K3)<|Zo J<|Zd<|Za<|Zp<|xU hsc results189 J J (by congr 1;omega)
theorem Zkx(v:Value)(x:Nat)(hx:bl x≤1099511627776:=by omega):Od prog 168 #[v] [Dj v x] (.int .i64 (bl x:Int)):=by
 refine Yg func168 J ntmps168 J K1 fun w0 sc hw hsc=>?_
 simp only [Zs,Zq]
 have hX:=Lt x
 refine Zb<|Zf<|Zo J<|Zd<|Za<|Zb<|Zb<|Zf<|mv J<|dt (Yc J J (i:=1) J Zg Xr)<|dt (Hf K3)<|Zd<|Za<|Zr J (fun h39=>?_) (fun h39=>?_)
 ·refine Zb<|Zf<|Zo J<|Zd<|Za<|Zp<|Yp ?_
  have h0:x=0:=(Ox Pi x).1 (by omega)
  exact xU hsc results168 J J (by rw [h0];rfl)
 ·have hp:0<x:=by rcases Nat.eq_zero_or_pos x with rfl | h;(simp [Gk]at h39);exact h
  obtain⟨z1,z2,z3,z4⟩:=Zuy hp
  exact Zl<|Za<|Zb<|Zf<|mv J<|dt (Yc J J (i:=1) J Zg Xr)<|dt (Eu J J J)<|mv J<|mv J<|dt (Yc J J (i:=1) J Zg Xr)<|dt (Pq K3)<|dt (Nj (ii:=1) (i:=(dg U x).length-1) K4 Zg Xr Mh)<|dt (Ms (ii:=1) 0 K3 Zg pU (by first | omega | (simp only [List.length_set];omega)))<|tt (Zy (n:=1) (Zp4 _ (Pg Po (Lc Pi _) _)) K4 call189 Ze J hw) fun _ _=>dt (Pq K3)<|Zo J<|Zd<|Za<|Zp<|xU hsc results168 J J (by congr 1;omega)
end Go.Sky

