/- Rules, arithmetic and contracts: part 4. No conditions but those that each theorem names. -/
import Derived.Test.YtcmiiammekgooaaGreatSc02
import Derived.Test.YtcmiiammekgooaaGreatProg
import Derived.Test.YtcmiiammekgooaaGreatRows
import Derived.WalkKit
import Derived.ProofKit
import Derived.OpenShut
import Derived.ShutString
import Derived.ChangeOld
import Derived.Deep.Slices
import Derived.Lib.SmallJoins
set_option linter.all false
namespace Go.Sky
open Go.Proofs
theorem pU:Enc Tryz.prog 149 1 Lm:=Enc.flat Tryz.sizeOf149 Tryz.isAgg149 (fun _=>rfl)
theorem pB:Enc Tryz.prog 5 1 Zl2:=Enc.flat Tryz.sizeOf5 Tryz.isAgg5 (fun _=>rfl)
theorem pN:Enc Tryz.prog 3 1 Ht:=Enc.flat Tryz.sizeOf3 Tryz.isAgg3 (fun _=>rfl)
theorem pZ:Enc Tryz.prog 3 1 Fz:=Enc.flat Tryz.sizeOf3 Tryz.isAgg3 (fun _=>rfl)
theorem Zhz(args:Array Value)(w:World):(callFunc 190 args).run Tryz.prog w=((add64Entry args).run Tryz.prog w).andThen fun v w'=> .ok (.value v) w':=
 run_callFunc_extern Tryz.func190 (by kernel_rfl) (by kernel_rfl) (by kernel_rfl) (by kernel_rfl) args w
theorem Zxf(args:Array Value)(w:World):(callFunc 191 args).run Tryz.prog w=((Ze7 args).run Tryz.prog w).andThen fun v w'=> .ok (.value v) w':=
 run_callFunc_extern Tryz.func191 (by kernel_rfl) (by kernel_rfl) (by kernel_rfl) (by kernel_rfl) args w
end Go.Sky
theorem Go.Proofs.Tryz.ti149:Go.Proofs.Tryz.prog.info? 149=some Go.Proofs.Tryz.t149:=by kernel_rfl
namespace Go.Sky
open Go.Proofs
end Go.Sky
theorem Go.Proofs.Tryz.ti5:Go.Proofs.Tryz.prog.info? 5=some Go.Proofs.Tryz.t5:=by kernel_rfl
namespace Go.Sky
open Go.Proofs
end Go.Sky
theorem Go.Proofs.Tryz.ti3:Go.Proofs.Tryz.prog.info? 3=some Go.Proofs.Tryz.t3:=by kernel_rfl
namespace Go.Sky
open Go.Proofs
theorem pW:Enc Tryz.prog 31 2 Aq:=Enc.agg (by decide) Tryz.sizeOf31 Tryz.isAgg31 (fun x=>⟨[.bool x.1,.string x.2],rfl,rfl,by simp [Value.oneCell']⟩)
theorem pV:Enc Tryz.prog 31 2 wv:=Enc.agg (by decide) Tryz.sizeOf31 Tryz.isAgg31 (fun x=>⟨[.bool (decide (x<0)),.string (Xp x.natAbs)],rfl,rfl,by simp [Value.oneCell']⟩)
theorem pI:Enc Tryz.prog 48 2 Hk:=Enc.agg (by decide) Tryz.sizeOf48 Tryz.isAgg48 (fun x=>⟨[.bool (decide (x.1<0)),svv x.2],rfl,rfl,by simp [Value.oneCell']⟩)
theorem pS{α:Type} : Enc Tryz.prog 23 1 (Gu (α:=α)):=Enc.flat Tryz.sizeOf23 Tryz.isAgg23 (fun _=>rfl)
theorem pQ:Enc Tryz.prog 41 4 rq:=Enc.agg (by decide) Tryz.sizeOf41 Tryz.isAgg41 (fun x=>⟨[.bool (decide (x.1<0)),.string (Xp x.1.natAbs),.bool (decide (x.2<0)),.string (Xp x.2.natAbs)],rfl,rfl,by simp [Value.oneCell']⟩)
theorem pR:Enc Tryz.prog 41 4 Ycb:=Enc.agg (by decide) Tryz.sizeOf41 Tryz.isAgg41 (fun x=>⟨[.bool x.1.1,.string x.1.2,.bool x.2.1,.string x.2.2],rfl,rfl,by simp [Value.oneCell']⟩)
theorem sh31:Tryz.prog.stoodInHeld 31=false:=by kernel_rfl
theorem sh41:Tryz.prog.stoodInHeld 41=false:=by kernel_rfl
theorem Ye8:Tryz.prog.eqGuardType Tryz.prog.depth 31=false:=by kernel_rfl
theorem in31(d:Nat)(w:World)(a:Bool)(s:ByteArray)(b:Bool)(t:ByteArray):(Op.equalIn (d+2) 31 (.agg #[.bool a,.string s]) (.agg #[.bool b,.string t])).run Tryz.prog w= .ok (eqW a s b t) w:=by
 have hu:Tryz.prog.underlying 31=some (.struct (Tryz.prog.fieldsOf 31)):=by unfold Program.fieldsOf;rw [Tryz.underlying31]
 rw [run_equalIn_agg w (d+1) 31 _ _ hu sh31]
 unfold Program.fieldsOf
 rw [Tryz.underlying31]
 simp [Op.eqFields,part,Tryz.isAgg4,Tryz.isAgg9,run_equalIn_bool' _ _ _ _ _ Tryz.underlying4,run_equalIn_string _ _ _ _ _ Tryz.underlying9]
 unfold eqW
 cases hab:(a == b)
 ·simp_all
 ·by_cases h:s.toList=t.toList<;>simp_all
theorem Zvo(w:World)(a:Bool)(s:ByteArray)(b:Bool)(t:ByteArray):(binOp .neq 31 (.agg #[.bool a,.string s]) (.agg #[.bool b,.string t])).run Tryz.prog w= .ok (.bool (!eqW a s b t)) w:=by
 rw [run_neq_struct,in31];rfl
theorem in41(d:Nat)(w:World)(a:Bool)(s:ByteArray)(a2:Bool)(s2:ByteArray)(b:Bool)(t:ByteArray)(b2:Bool)(t2:ByteArray):(Op.equalIn (d+3) 41 (.agg #[.bool a,.string s,.bool a2,.string s2]) (.agg #[.bool b,.string t,.bool b2,.string t2])).run Tryz.prog w= .ok (eqW a s b t && eqW a2 s2 b2 t2) w:=by
 have hu:Tryz.prog.underlying 41=some (.struct (Tryz.prog.fieldsOf 41)):=by unfold Program.fieldsOf;rw [Tryz.underlying41]
 rw [run_equalIn_agg w (d+2) 41 _ _ hu sh41]
 unfold Program.fieldsOf
 rw [Tryz.underlying41]
 simp [Op.eqFields,part,Tryz.isAgg31,Tryz.sizeOf31,in31]
 cases hab:eqW a s b t<;>cases hab2:eqW a2 s2 b2 t2<;>simp_all
theorem sh62:Tryz.prog.stoodInHeld 62=false:=by kernel_rfl
theorem eg62:Tryz.prog.eqGuardType Tryz.prog.depth 62=false:=by kernel_rfl
theorem in62(d:Nat)(w:World)(a:Bool)(s:ByteArray)(a2:Bool)(s2:ByteArray)(a3:Bool)(s3:ByteArray)(a4:Bool)(s4:ByteArray)(b:Bool)(t:ByteArray)(b2:Bool)(t2:ByteArray)(b3:Bool)(t3:ByteArray)(b4:Bool)(t4:ByteArray):(Op.equalIn (d+4) 62 (.agg #[.bool a,.string s,.bool a2,.string s2,.bool a3,.string s3,.bool a4,.string s4]) (.agg #[.bool b,.string t,.bool b2,.string t2,.bool b3,.string t3,.bool b4,.string t4])).run Tryz.prog w= .ok (eqW a s b t && eqW a2 s2 b2 t2 && (eqW a3 s3 b3 t3 && eqW a4 s4 b4 t4)) w:=by
 have hu:Tryz.prog.underlying 62=some (.struct (Tryz.prog.fieldsOf 62)):=by unfold Program.fieldsOf;rw [Tryz.underlying62]
 rw [run_equalIn_agg w (d+3) 62 _ _ hu sh62]
 unfold Program.fieldsOf
 rw [Tryz.underlying62]
 simp [Op.eqFields,part,Tryz.isAgg41,Tryz.sizeOf41,in41]
 cases hab:eqW a s b t && eqW a2 s2 b2 t2<;>cases hab2:eqW a3 s3 b3 t3 && eqW a4 s4 b4 t4<;>simp_all
theorem neq62(w:World)(a:Bool)(s:ByteArray)(a2:Bool)(s2:ByteArray)(a3:Bool)(s3:ByteArray)(a4:Bool)(s4:ByteArray)(b:Bool)(t:ByteArray)(b2:Bool)(t2:ByteArray)(b3:Bool)(t3:ByteArray)(b4:Bool)(t4:ByteArray):(binOp .neq 62 (.agg #[.bool a,.string s,.bool a2,.string s2,.bool a3,.string s3,.bool a4,.string s4]) (.agg #[.bool b,.string t,.bool b2,.string t2,.bool b3,.string t3,.bool b4,.string t4])).run Tryz.prog w= .ok (.bool (!(eqW a s b t && eqW a2 s2 b2 t2 && (eqW a3 s3 b3 t3 && eqW a4 s4 b4 t4)))) w:=by
 rw [run_neq_struct,in62];rfl
end Go.Sky
theorem Go.Proofs.Tryz.ti23:Go.Proofs.Tryz.prog.info? 23=some Go.Proofs.Tryz.t23:=by kernel_rfl
namespace Go.Sky
open Go.Proofs
end Go.Sky
theorem Go.Proofs.Tryz.ti31:Go.Proofs.Tryz.prog.info? 31=some Go.Proofs.Tryz.t31:=by kernel_rfl
namespace Go.Sky
open Go.Proofs
end Go.Sky
theorem Go.Proofs.Tryz.ti34:Go.Proofs.Tryz.prog.info? 34=some Go.Proofs.Tryz.t34:=by kernel_rfl
namespace Go.Sky
open Go.Proofs
end Go.Sky
theorem Go.Proofs.Tryz.ti41:Go.Proofs.Tryz.prog.info? 41=some Go.Proofs.Tryz.t41:=by kernel_rfl
namespace Go.Sky
open Go.Proofs
end Go.Sky
theorem Go.Proofs.Tryz.ti48:Go.Proofs.Tryz.prog.info? 48=some Go.Proofs.Tryz.t48:=by kernel_rfl
namespace Go.Sky
open Go.Proofs
end Go.Sky
theorem Go.Proofs.Tryz.ti79:Go.Proofs.Tryz.prog.info? 79=some Go.Proofs.Tryz.t79:=by kernel_rfl
namespace Go.Sky
open Go.Proofs
end Go.Sky
theorem Go.Proofs.Tryz.ti4:Go.Proofs.Tryz.prog.info? 4=some Go.Proofs.Tryz.t4:=by kernel_rfl
namespace Go.Sky
open Go.Proofs
end Go.Sky
theorem Go.Proofs.Tryz.ti9:Go.Proofs.Tryz.prog.info? 9=some Go.Proofs.Tryz.t9:=by kernel_rfl
namespace Go.Sky
open Go.Proofs
theorem Yf8:Tryz.prog.built 31 []=some #[.bool false,.string ⟨#[]⟩]:=by
 refine Mm _ Tryz.ti31 Tryz.underlying31 rfl (pl:=[(0,1),(1,1)]) (by simp [Tryz.ti4,Tryz.ti9];try decide) ?_
 simp [Instr.fill,show(Value.agg #[.bool false,.string ⟨#[]⟩]).cells=#[.bool false,.string ⟨#[]⟩]from rfl]
theorem Zt9{v0 v1:Value}(h0:v0.oneCell'=true)(h1:v1.oneCell'=true):Tryz.prog.built 31 [(0,v0),(1,v1)]=some #[v0,v1]:=by
 refine Mm _ Tryz.ti31 Tryz.underlying31 rfl (pl:=[(0,1),(1,1)]) (by simp [Tryz.ti4,Tryz.ti9];try decide) ?_
 simp [Instr.fill,Iu h0,Iu h1,show(Value.agg #[.bool false,.string ⟨#[]⟩]).cells=#[.bool false,.string ⟨#[]⟩]from rfl]
theorem Yc2:Tryz.prog.built 41 []=some #[.bool false,.string ⟨#[]⟩,.bool false,.string ⟨#[]⟩]:=by
 refine Mm _ Tryz.ti41 Tryz.underlying41 rfl (pl:=[(0,2),(2,2)]) (by simp [Tryz.ti31];try decide) ?_
 simp [Instr.fill,show(Value.agg #[.bool false,.string ⟨#[]⟩,.bool false,.string ⟨#[]⟩]).cells=#[.bool false,.string ⟨#[]⟩,.bool false,.string ⟨#[]⟩]from rfl]
theorem Zfn{c0_0 c0_1 c1_0 c1_1:Value} : Tryz.prog.built 41 [(0,.agg #[c0_0,c0_1]),(1,.agg #[c1_0,c1_1])]=some #[c0_0,c0_1,c1_0,c1_1]:=by
 refine Mm _ Tryz.ti41 Tryz.underlying41 rfl (pl:=[(0,2),(2,2)]) (by simp [Tryz.ti31];try decide) ?_
 simp [Instr.fill,show(Value.agg #[c0_0,c0_1]).cells=#[c0_0,c0_1]from rfl,show(Value.agg #[c1_0,c1_1]).cells=#[c1_0,c1_1]from rfl,show(Value.agg #[.bool false,.string ⟨#[]⟩,.bool false,.string ⟨#[]⟩]).cells=#[.bool false,.string ⟨#[]⟩,.bool false,.string ⟨#[]⟩]from rfl]
theorem b41_1{c1_0 c1_1:Value} : Tryz.prog.built 41 [(1,.agg #[c1_0,c1_1])]=some #[.bool false,.string ⟨#[]⟩,c1_0,c1_1]:=by
 refine Mm _ Tryz.ti41 Tryz.underlying41 rfl (pl:=[(0,2),(2,2)]) (by simp [Tryz.ti31];try decide) ?_
 simp [Instr.fill,show(Value.agg #[c1_0,c1_1]).cells=#[c1_0,c1_1]from rfl,show(Value.agg #[.bool false,.string ⟨#[]⟩,.bool false,.string ⟨#[]⟩]).cells=#[.bool false,.string ⟨#[]⟩,.bool false,.string ⟨#[]⟩]from rfl]
end Go.Sky
theorem Go.Proofs.Tryz.ti46:Go.Proofs.Tryz.prog.info? 46=some Go.Proofs.Tryz.t46:=by kernel_rfl
namespace Go.Sky
open Go.Proofs
theorem Zyu:Tryz.prog.built 48 []=some #[.bool false,.slice none 0 0]:=by
 refine Mm _ Tryz.ti48 Tryz.underlying48 rfl (pl:=[(0,1),(1,1)]) (by simp [Tryz.ti4,Tryz.ti46];try decide) ?_
 simp [Instr.fill,show(Value.agg #[.bool false,.slice none 0 0]).cells=#[.bool false,.slice none 0 0]from rfl]
theorem Yc1{v0 v1:Value}(h0:v0.oneCell'=true)(h1:v1.oneCell'=true):Tryz.prog.built 48 [(0,v0),(1,v1)]=some #[v0,v1]:=by
 refine Mm _ Tryz.ti48 Tryz.underlying48 rfl (pl:=[(0,1),(1,1)]) (by simp [Tryz.ti4,Tryz.ti46];try decide) ?_
 simp [Instr.fill,Iu h0,Iu h1,show(Value.agg #[.bool false,.slice none 0 0]).cells=#[.bool false,.slice none 0 0]from rfl]
end Go.Sky
theorem Go.Proofs.Tryz.ti50:Go.Proofs.Tryz.prog.info? 50=some Go.Proofs.Tryz.t50:=by kernel_rfl
namespace Go.Sky
open Go.Proofs
theorem b50_01{c0_0 c0_1 c1_0 c1_1:Value} : Tryz.prog.built 50 [(0,.agg #[c0_0,c0_1]),(1,.agg #[c1_0,c1_1])]=some #[c0_0,c0_1,c1_0,c1_1]:=by
 refine Mm _ Tryz.ti50 Tryz.underlying50 rfl (pl:=[(0,2),(2,2)]) (by simp [Tryz.ti48];try decide) ?_
 simp [Instr.fill,show(Value.agg #[c0_0,c0_1]).cells=#[c0_0,c0_1]from rfl,show(Value.agg #[c1_0,c1_1]).cells=#[c1_0,c1_1]from rfl,show(Value.agg #[.bool false,.slice none 0 0,.bool false,.slice none 0 0]).cells=#[.bool false,.slice none 0 0,.bool false,.slice none 0 0]from rfl]
end Go.Sky
theorem Go.Proofs.Tryz.ti62:Go.Proofs.Tryz.prog.info? 62=some Go.Proofs.Tryz.t62:=by kernel_rfl
namespace Go.Sky
open Go.Proofs
theorem b62_:Tryz.prog.built 62 []=some #[.bool false,.string ⟨#[]⟩,.bool false,.string ⟨#[]⟩,.bool false,.string ⟨#[]⟩,.bool false,.string ⟨#[]⟩]:=by
 refine Mm _ Tryz.ti62 Tryz.underlying62 rfl (pl:=[(0,4),(4,4)]) (by simp [Tryz.ti41];try decide) ?_
 simp [Instr.fill,show(Value.agg #[.bool false,.string ⟨#[]⟩,.bool false,.string ⟨#[]⟩,.bool false,.string ⟨#[]⟩,.bool false,.string ⟨#[]⟩]).cells=#[.bool false,.string ⟨#[]⟩,.bool false,.string ⟨#[]⟩,.bool false,.string ⟨#[]⟩,.bool false,.string ⟨#[]⟩]from rfl]
theorem Yc0{c0_0 c0_1 c0_2 c0_3 c1_0 c1_1 c1_2 c1_3:Value} : Tryz.prog.built 62 [(0,.agg #[c0_0,c0_1,c0_2,c0_3]),(1,.agg #[c1_0,c1_1,c1_2,c1_3])]=some #[c0_0,c0_1,c0_2,c0_3,c1_0,c1_1,c1_2,c1_3]:=by
 refine Mm _ Tryz.ti62 Tryz.underlying62 rfl (pl:=[(0,4),(4,4)]) (by simp [Tryz.ti41];try decide) ?_
 simp [Instr.fill,show(Value.agg #[c0_0,c0_1,c0_2,c0_3]).cells=#[c0_0,c0_1,c0_2,c0_3]from rfl,show(Value.agg #[c1_0,c1_1,c1_2,c1_3]).cells=#[c1_0,c1_1,c1_2,c1_3]from rfl,show(Value.agg #[.bool false,.string ⟨#[]⟩,.bool false,.string ⟨#[]⟩,.bool false,.string ⟨#[]⟩,.bool false,.string ⟨#[]⟩]).cells=#[.bool false,.string ⟨#[]⟩,.bool false,.string ⟨#[]⟩,.bool false,.string ⟨#[]⟩,.bool false,.string ⟨#[]⟩]from rfl]
end Go.Sky
theorem Go.Proofs.Tryz.ti77:Go.Proofs.Tryz.prog.info? 77=some Go.Proofs.Tryz.t77:=by kernel_rfl
namespace Go.Sky
open Go.Proofs
theorem Zw6{v0 c1_0 c1_1 c1_2 c1_3 c2_0 c2_1 c2_2 c2_3:Value}(h0:v0.oneCell'=true):Tryz.prog.built 79 [(0,v0),(1,.agg #[c1_0,c1_1,c1_2,c1_3]),(2,.agg #[c2_0,c2_1,c2_2,c2_3])]=some #[v0,c1_0,c1_1,c1_2,c1_3,c2_0,c2_1,c2_2,c2_3]:=by
 refine Mm _ Tryz.ti79 Tryz.underlying79 rfl (pl:=[(0,1),(1,4),(5,4)]) (by simp [Tryz.ti41,Tryz.ti77];try decide) ?_
 simp [Instr.fill,Iu h0,show(Value.agg #[c1_0,c1_1,c1_2,c1_3]).cells=#[c1_0,c1_1,c1_2,c1_3]from rfl,show(Value.agg #[c2_0,c2_1,c2_2,c2_3]).cells=#[c2_0,c2_1,c2_2,c2_3]from rfl,show(Value.agg #[.int .i64 0,.bool false,.string ⟨#[]⟩,.bool false,.string ⟨#[]⟩,.bool false,.string ⟨#[]⟩,.bool false,.string ⟨#[]⟩]).cells=#[.int .i64 0,.bool false,.string ⟨#[]⟩,.bool false,.string ⟨#[]⟩,.bool false,.string ⟨#[]⟩,.bool false,.string ⟨#[]⟩]from rfl]
end Go.Sky
theorem Go.Proofs.Tryz.ti154:Go.Proofs.Tryz.prog.info? 154=some Go.Proofs.Tryz.t154:=by kernel_rfl
namespace Go.Sky
open Go.Proofs
end Go.Sky
theorem Go.Proofs.Tryz.ti151:Go.Proofs.Tryz.prog.info? 151=some Go.Proofs.Tryz.t151:=by kernel_rfl
namespace Go.Sky
open Go.Proofs
theorem Mh{v0 v1:Value}(h0:v0.oneCell'=true)(h1:v1.oneCell'=true):Tryz.prog.built 154 [(0,v0),(1,v1)]=some #[v0,v1]:=by
 refine Mm _ Tryz.ti154 Tryz.underlying154 rfl (pl:=[(0,1),(1,1)]) (by simp [Tryz.ti151,Tryz.ti4];try decide) ?_
 simp [Instr.fill,Iu h0,Iu h1,show(Value.agg #[.bool false,.slice none 0 0]).cells=#[.bool false,.slice none 0 0]from rfl]
theorem J{α:Sort _}{a:α} : a=a:=rfl
theorem CA{α:Type _}(a:α)(s t:List α):(a :: s) ++ t=a :: (s ++ t):=rfl
theorem NA{α:Type _}(t:List α):[] ++ t=t:=rfl
abbrev On (P:Program) (f:FuncId) (a:Array Value) (p:List Pc) (v:Value):Prop:=Cal P f a p false (G:=Unit) (fun _=>True) (fun _=>v) (fun _=>[])
abbrev rX (x y:Int):Value:= .agg #[.bool (decide (x<0)),.string (Xp x.natAbs),.bool (decide (y<0)),.string (Xp y.natAbs)]
theorem vB{a b:Bool}(h:a=b):Value.bool a=Value.bool b:=congrArg _ h
theorem dF{P:Program}{N:Nat}{sc:Nat→Prop}{o:Oper}{env:Kr}{H:Hp}{r:Value}(h:Ia P N sc o env H r)(e:r= .bool false):Ia P N sc o env H (.bool false):=Eb h e
theorem dT{P:Program}{N:Nat}{sc:Nat→Prop}{o:Oper}{env:Kr}{H:Hp}{r:Value}(h:Ia P N sc o env H r)(e:r= .bool true):Ia P N sc o env H (.bool true):=Eb h e
theorem xG{P:Program}{N:Nat}{sc:Nat→Prop}{env:Kr}{H:Hp}{fn:Func}{pre:List Pc}{al:Bool}{G:Type}{φ:G→Prop}{Qm:G→Value}{its:G→List Pc}{w0:World}{r1:ResultVar}{v:Value}(hsc:∀b,sc b→w0.heap.size≤b∨∃q∈pre,q.fp b)(g:G)(hf:fn.results=#[r1])(h1:RV P N sc env H r1 v)(hv:Qm g=v)(hg:φ g)(h0:lk H 0=some (Lj w0 (fun _=>False)))(hgive:Give H al (its g)):X N sc .ret (Zso P fn w0 pre al φ Qm its) env H:=Yu (.inl rfl) hsc g v (fun a w hs=>Ni hs hf h1) hv hg h0 hgive
theorem xU{P:Program}{N:Nat}{sc:Nat→Prop}{env:Kr}{H:Hp}{fn:Func}{pre:List Pc}{al:Bool}{Qm:Unit→Value}{w0:World}{r1:ResultVar}{v:Value}(hsc:∀b,sc b→w0.heap.size≤b∨∃q∈pre,q.fp b)(hf:fn.results=#[r1])(h1:RV P N sc env H r1 v)(h0:lk H 0=some (Lj w0 (fun _=>False)))(hv:Qm ()=v):X N sc .ret (Zso P fn w0 pre al (fun _=>True) Qm (fun _=>[])) env H:=Yu (.inl rfl) hsc () v (fun a w hs=>Ni hs hf h1) hv trivial h0 Zm
theorem K1{t0:Sort _}{a0:t0} : a0=a0∧True:=⟨rfl,trivial⟩
theorem K2{t0:Sort _}{a0:t0}{t1:Sort _}{a1:t1} : a0=a0∧a1=a1∧True:=⟨rfl,rfl,trivial⟩
theorem K3{t0:Sort _}{a0:t0}{t1:Sort _}{a1:t1}{t2:Sort _}{a2:t2} : a0=a0∧a1=a1∧a2=a2∧True:=⟨rfl,rfl,rfl,trivial⟩
theorem K4{t0:Sort _}{a0:t0}{t1:Sort _}{a1:t1}{t2:Sort _}{a2:t2}{t3:Sort _}{a3:t3} : a0=a0∧a1=a1∧a2=a2∧a3=a3∧True:=⟨rfl,rfl,rfl,rfl,trivial⟩
theorem K5{t0:Sort _}{a0:t0}{t1:Sort _}{a1:t1}{t2:Sort _}{a2:t2}{t3:Sort _}{a3:t3}{t4:Sort _}{a4:t4} : a0=a0∧a1=a1∧a2=a2∧a3=a3∧a4=a4∧True:=⟨rfl,rfl,rfl,rfl,rfl,trivial⟩
theorem K6{t0:Sort _}{a0:t0}{t1:Sort _}{a1:t1}{t2:Sort _}{a2:t2}{t3:Sort _}{a3:t3}{t4:Sort _}{a4:t4}{t5:Sort _}{a5:t5} : a0=a0∧a1=a1∧a2=a2∧a3=a3∧a4=a4∧a5=a5∧True:=⟨rfl,rfl,rfl,rfl,rfl,rfl,trivial⟩
theorem K7{t0:Sort _}{a0:t0}{t1:Sort _}{a1:t1}{t2:Sort _}{a2:t2}{t3:Sort _}{a3:t3}{t4:Sort _}{a4:t4}{t5:Sort _}{a5:t5}{t6:Sort _}{a6:t6} : a0=a0∧a1=a1∧a2=a2∧a3=a3∧a4=a4∧a5=a5∧a6=a6∧True:=⟨rfl,rfl,rfl,rfl,rfl,rfl,rfl,trivial⟩
theorem K8{t0:Sort _}{a0:t0}{t1:Sort _}{a1:t1}{t2:Sort _}{a2:t2}{t3:Sort _}{a3:t3}{t4:Sort _}{a4:t4}{t5:Sort _}{a5:t5}{t6:Sort _}{a6:t6}{t7:Sort _}{a7:t7} : a0=a0∧a1=a1∧a2=a2∧a3=a3∧a4=a4∧a5=a5∧a6=a6∧a7=a7∧True:=⟨rfl,rfl,rfl,rfl,rfl,rfl,rfl,rfl,trivial⟩
theorem K9{t0:Sort _}{a0:t0}{t1:Sort _}{a1:t1}{t2:Sort _}{a2:t2}{t3:Sort _}{a3:t3}{t4:Sort _}{a4:t4}{t5:Sort _}{a5:t5}{t6:Sort _}{a6:t6}{t7:Sort _}{a7:t7}{t8:Sort _}{a8:t8} : a0=a0∧a1=a1∧a2=a2∧a3=a3∧a4=a4∧a5=a5∧a6=a6∧a7=a7∧a8=a8∧True:=⟨rfl,rfl,rfl,rfl,rfl,rfl,rfl,rfl,rfl,trivial⟩
theorem K10{t0:Sort _}{a0:t0}{t1:Sort _}{a1:t1}{t2:Sort _}{a2:t2}{t3:Sort _}{a3:t3}{t4:Sort _}{a4:t4}{t5:Sort _}{a5:t5}{t6:Sort _}{a6:t6}{t7:Sort _}{a7:t7}{t8:Sort _}{a8:t8}{t9:Sort _}{a9:t9} : a0=a0∧a1=a1∧a2=a2∧a3=a3∧a4=a4∧a5=a5∧a6=a6∧a7=a7∧a8=a8∧a9=a9∧True:=⟨rfl,rfl,rfl,rfl,rfl,rfl,rfl,rfl,rfl,rfl,trivial⟩
theorem K11{t0:Sort _}{a0:t0}{t1:Sort _}{a1:t1}{t2:Sort _}{a2:t2}{t3:Sort _}{a3:t3}{t4:Sort _}{a4:t4}{t5:Sort _}{a5:t5}{t6:Sort _}{a6:t6}{t7:Sort _}{a7:t7}{t8:Sort _}{a8:t8}{t9:Sort _}{a9:t9}{t10:Sort _}{a10:t10} : a0=a0∧a1=a1∧a2=a2∧a3=a3∧a4=a4∧a5=a5∧a6=a6∧a7=a7∧a8=a8∧a9=a9∧a10=a10∧True:=⟨rfl,rfl,rfl,rfl,rfl,rfl,rfl,rfl,rfl,rfl,rfl,trivial⟩
theorem K12{t0:Sort _}{a0:t0}{t1:Sort _}{a1:t1}{t2:Sort _}{a2:t2}{t3:Sort _}{a3:t3}{t4:Sort _}{a4:t4}{t5:Sort _}{a5:t5}{t6:Sort _}{a6:t6}{t7:Sort _}{a7:t7}{t8:Sort _}{a8:t8}{t9:Sort _}{a9:t9}{t10:Sort _}{a10:t10}{t11:Sort _}{a11:t11} : a0=a0∧a1=a1∧a2=a2∧a3=a3∧a4=a4∧a5=a5∧a6=a6∧a7=a7∧a8=a8∧a9=a9∧a10=a10∧a11=a11∧True:=⟨rfl,rfl,rfl,rfl,rfl,rfl,rfl,rfl,rfl,rfl,rfl,rfl,trivial⟩
theorem K14{t0:Sort _}{a0:t0}{t1:Sort _}{a1:t1}{t2:Sort _}{a2:t2}{t3:Sort _}{a3:t3}{t4:Sort _}{a4:t4}{t5:Sort _}{a5:t5}{t6:Sort _}{a6:t6}{t7:Sort _}{a7:t7}{t8:Sort _}{a8:t8}{t9:Sort _}{a9:t9}{t10:Sort _}{a10:t10}{t11:Sort _}{a11:t11}{t12:Sort _}{a12:t12}{t13:Sort _}{a13:t13} : a0=a0∧a1=a1∧a2=a2∧a3=a3∧a4=a4∧a5=a5∧a6=a6∧a7=a7∧a8=a8∧a9=a9∧a10=a10∧a11=a11∧a12=a12∧a13=a13∧True:=⟨rfl,rfl,rfl,rfl,rfl,rfl,rfl,rfl,rfl,rfl,rfl,rfl,rfl,rfl,trivial⟩
theorem K15{t0:Sort _}{a0:t0}{t1:Sort _}{a1:t1}{t2:Sort _}{a2:t2}{t3:Sort _}{a3:t3}{t4:Sort _}{a4:t4}{t5:Sort _}{a5:t5}{t6:Sort _}{a6:t6}{t7:Sort _}{a7:t7}{t8:Sort _}{a8:t8}{t9:Sort _}{a9:t9}{t10:Sort _}{a10:t10}{t11:Sort _}{a11:t11}{t12:Sort _}{a12:t12}{t13:Sort _}{a13:t13}{t14:Sort _}{a14:t14} : a0=a0∧a1=a1∧a2=a2∧a3=a3∧a4=a4∧a5=a5∧a6=a6∧a7=a7∧a8=a8∧a9=a9∧a10=a10∧a11=a11∧a12=a12∧a13=a13∧a14=a14∧True:=⟨rfl,rfl,rfl,rfl,rfl,rfl,rfl,rfl,rfl,rfl,rfl,rfl,rfl,rfl,rfl,trivial⟩
theorem K17{t0:Sort _}{a0:t0}{t1:Sort _}{a1:t1}{t2:Sort _}{a2:t2}{t3:Sort _}{a3:t3}{t4:Sort _}{a4:t4}{t5:Sort _}{a5:t5}{t6:Sort _}{a6:t6}{t7:Sort _}{a7:t7}{t8:Sort _}{a8:t8}{t9:Sort _}{a9:t9}{t10:Sort _}{a10:t10}{t11:Sort _}{a11:t11}{t12:Sort _}{a12:t12}{t13:Sort _}{a13:t13}{t14:Sort _}{a14:t14}{t15:Sort _}{a15:t15}{t16:Sort _}{a16:t16} : a0=a0∧a1=a1∧a2=a2∧a3=a3∧a4=a4∧a5=a5∧a6=a6∧a7=a7∧a8=a8∧a9=a9∧a10=a10∧a11=a11∧a12=a12∧a13=a13∧a14=a14∧a15=a15∧a16=a16∧True:=⟨rfl,rfl,rfl,rfl,rfl,rfl,rfl,rfl,rfl,rfl,rfl,rfl,rfl,rfl,rfl,rfl,rfl,trivial⟩
theorem K18{t0:Sort _}{a0:t0}{t1:Sort _}{a1:t1}{t2:Sort _}{a2:t2}{t3:Sort _}{a3:t3}{t4:Sort _}{a4:t4}{t5:Sort _}{a5:t5}{t6:Sort _}{a6:t6}{t7:Sort _}{a7:t7}{t8:Sort _}{a8:t8}{t9:Sort _}{a9:t9}{t10:Sort _}{a10:t10}{t11:Sort _}{a11:t11}{t12:Sort _}{a12:t12}{t13:Sort _}{a13:t13}{t14:Sort _}{a14:t14}{t15:Sort _}{a15:t15}{t16:Sort _}{a16:t16}{t17:Sort _}{a17:t17} : a0=a0∧a1=a1∧a2=a2∧a3=a3∧a4=a4∧a5=a5∧a6=a6∧a7=a7∧a8=a8∧a9=a9∧a10=a10∧a11=a11∧a12=a12∧a13=a13∧a14=a14∧a15=a15∧a16=a16∧a17=a17∧True:=⟨rfl,rfl,rfl,rfl,rfl,rfl,rfl,rfl,rfl,rfl,rfl,rfl,rfl,rfl,rfl,rfl,rfl,rfl,trivial⟩
def Zez:=@Go.Proofs.Tryz.call103
def Di:=@Go.Proofs.Tryz.call117
def Lh:=@Go.Proofs.Tryz.call130
def Mn:=@Go.Proofs.Tryz.call133
def An:=@Go.Proofs.Tryz.call149
def Zbk:=@Go.Proofs.Tryz.call23
def Zbj:=@Go.Proofs.Tryz.call44
def Cu:=@Go.Proofs.Tryz.call45
def Bq:=@Go.Proofs.Tryz.call49
def Gp:=@Go.Proofs.Tryz.call69
def Zas:=@Go.Proofs.Tryz.call74
def Gy:=@Go.Proofs.Tryz.call81
def Fn:=@Go.Proofs.Tryz.isAgg151
def Lp:=@Go.Proofs.Tryz.isAgg154
def Eo:=@Go.Proofs.Tryz.isAgg26
def Xs:=@Go.Proofs.Tryz.isAgg31
def iA4:=@Go.Proofs.Tryz.isAgg4
def Xq:=@Go.Proofs.Tryz.isAgg41
def Zc8:=@Go.Proofs.Tryz.isAgg46
def Oy:=@Go.Proofs.Tryz.isAgg48
def Gc:=@Go.Proofs.Tryz.isAgg50
def Zcj:=@Go.Proofs.Tryz.isAgg62
def iA9:=@Go.Proofs.Tryz.isAgg9
def Cy:=@Go.Proofs.Tryz.isAgg98
def Mk:=@Go.Proofs.Tryz.sizeOf149
def Fe:=@Go.Proofs.Tryz.sizeOf151
def Xi:=@Go.Proofs.Tryz.sizeOf154
def Zfo:=@Go.Proofs.Tryz.sizeOf165
def Ih:=@Go.Proofs.Tryz.sizeOf26
def zT3:=@Go.Proofs.Tryz.sizeOf3
def Ye:=@Go.Proofs.Tryz.sizeOf31
def zT4:=@Go.Proofs.Tryz.sizeOf4
def Yr:=@Go.Proofs.Tryz.sizeOf41
def Zck:=@Go.Proofs.Tryz.sizeOf46
def Yz:=@Go.Proofs.Tryz.sizeOf48
def Ml:=@Go.Proofs.Tryz.sizeOf50
def Fb:=@Go.Proofs.Tryz.sizeOf62
def Zji:=@Go.Proofs.Tryz.sizeOf79
def zT9:=@Go.Proofs.Tryz.sizeOf9
def Zjh:=@Go.Proofs.Tryz.sizeOf96
def Gr:=@Go.Proofs.Tryz.sizeOf98
def Ib:=@Go.Proofs.Tryz.underlying102
def Zcn:=@Go.Proofs.Tryz.underlying149
def Qa:=@Go.Proofs.Tryz.underlying151
def Mx:=@Go.Proofs.Tryz.underlying154
def Zjr:=@Go.Proofs.Tryz.underlying165
def Zfu:=@Go.Proofs.Tryz.underlying167
def Zmd:=@Go.Proofs.Tryz.underlying172
def Zxe:=@Go.Proofs.Tryz.underlying22
def Xx:=@Go.Proofs.Tryz.underlying23
def Zij:=@Go.Proofs.Tryz.underlying29
def uT3:=@Go.Proofs.Tryz.underlying3
def Dl:=@Go.Proofs.Tryz.underlying31
def Pq:=@Go.Proofs.Tryz.underlying34
def uT4:=@Go.Proofs.Tryz.underlying4
def Gb:=@Go.Proofs.Tryz.underlying41
def Oo:=@Go.Proofs.Tryz.underlying46
def Es:=@Go.Proofs.Tryz.underlying48
def uT5:=@Go.Proofs.Tryz.underlying5
def Zii:=@Go.Proofs.Tryz.underlying50
def Zih:=@Go.Proofs.Tryz.underlying62
def Dn:=@Go.Proofs.Tryz.underlying74
def Iv:=@Go.Proofs.Tryz.underlying79
def Zlo:=@Go.Proofs.Tryz.underlying83
def uT9:=@Go.Proofs.Tryz.underlying9
def Ze4:=@Go.Proofs.Tryz.underlying96
def Znk:=@Go.Proofs.Tryz.underlying98
open Go.ChangeShapes Go.WideShapes Go.ChangeAt Go.RowKit Go.Joins Go.Deep
variable {P:Program} {W:World} {H:Type} {enc:TypeId×Value→H}
theorem Bw {base:Nat} {spare:Nat→Bool} {held:Bool} {fuel:Nat} {t:TypeId} {f0 f1:Field} {cs:List Value} {x:DataW H×List MemPlace}
  (ht:P.underlying t=some (.struct #[f0,f1])) (hC:P.cellsOf t=2) (ho0:f0.offset=0) (ho1:f1.offset=1) (hc0:P.cellsOf f0.type=1) (hc1:P.cellsOf f1.type=1) (h0:P.underlying f0.type=some .bool) (h1:P.underlying f1.type=some .string)
  (h:DataW.trod enc P W base spare held fuel t cs=some x):∃(b:Bool) (s:ByteArray),cs=[.bool b,.string s]∧s.size≤maxLen:=by
 obtain⟨y0,y1,n,hx,hl,e0,e1⟩:=trod_struct2 ht h
 rw [hC]at hl
 match cs,hl with
 | [c0,c1],_=>
  rw [ho0,hc0]at e0
  rw [ho1,hc1]at e1
  obtain⟨b,hb,_⟩:=DataW.trod_bool h0 e0
  obtain⟨s,hs,_,hz⟩:=DataW.trod_string h1 e1
  simp at hb hs
  exact⟨b,s,by rw [hb,hs],hz⟩
theorem Zdl{α:Type}[Inhabited α]{p:Nat→α→Prop} : ∀n,(∀i,i<n→∃x,p i x)→∃xs:List α,xs.length=n∧∀i x,xs[i]? = some x→p i x
 | 0,_=>⟨[],rfl,fun i x h=>by simp at h⟩
 | n+1,h=>by
  obtain⟨xs,hl,hp⟩:=Zdl n fun i hi=>h i (by omega)
  obtain⟨x,hx⟩:=h n (by omega)
  refine⟨xs ++ [x],by simp [hl],fun i y hy=>?_⟩
  rcases Nat.lt_or_ge i n with hi | hi
  ·rw [List.getElem?_append_left (by omega)]at hy;exact hp i y hy
  ·rw [List.getElem?_append_right (by omega),hl]at hy
   rcases Nat.eq_zero_or_pos (i-n)with h0 | h0
   ·rw [h0]at hy;simp at hy;subst hy;rw [show i=n by omega];exact hx
   ·rw [List.getElem?_eq_none (by simp;omega)]at hy;cases hy
theorem Zb1{r:Reach}{b0:Nat}{t e:TypeId}{a:Addr}{len cap:Nat}(hs:P.underlying t=some (.slice e))(hv:Value.okWide P W r b0 t (.slice (some a) len cap)):a.spot=none∧a.block<W.heap.size:=by
 unfold Value.okWide at hv
 rw [hs]at hv
 simp only at hv
 unfold Cell.okWide at hv
 rw [hs]at hv
 simp only at hv
 unfold Cell.ok at hv
 rw [hs]at hv
 simp only at hv
 obtain⟨_,_,_,h1,row,cells,h2,_⟩:=hv
 refine⟨h1,?_⟩
 unfold World.shape? at h2
 rcases Nat.lt_or_ge a.block W.heap.size with h | h
 ·exact h
 ·rw [Array.getElem?_eq_none h]at h2
  simp at h2
theorem Ztg {t e:TypeId} {f0 f1:Field} {v:Value} {d:DataW H} {p:List MemPlace} (hs:P.underlying t=some (.slice e))
  (ht:P.underlying e=some (.struct #[f0,f1])) (hC:P.cellsOf e=2) (ho0:f0.offset=0) (ho1:f1.offset=1) (hc0:P.cellsOf f0.type=1) (hc1:P.cellsOf f1.type=1) (h0:P.underlying f0.type=some .bool) (h1:P.underlying f1.type=some .string)
  {r:Reach} {b0:Nat} (hv:Value.okWide P W r b0 t v) (h:DataW.Trod enc P W 0 (fun _=>true) true t v d p) (hlt:∀x∈p,x.block<W.heap.size) :
  ∃r:List (Bool×ByteArray),(Px 2 Aq v r).holds W:=by
 obtain⟨a0,len,cap,rfl⟩:=okWide_slice hs hv
 obtain⟨fuel,hf⟩:=h
 rcases open_slice hs hf with⟨hcs,_⟩ | ⟨a,len',cap',m,n,D,Pl,hcs,_,hl,hm,hmm,hx,hel⟩
 ·simp [Value.cells]at hcs
  obtain⟨rfl,rfl,rfl⟩:=hcs
  exact⟨[],Za7 2 Aq W⟩
 ·simp [Value.cells]at hcs
  obtain⟨rfl,rfl,rfl⟩:=hcs
  simp at hmm
  subst hmm
  obtain⟨xs,hxl,hxs⟩:=Zdl (p:=fun i (z:Bool×ByteArray)=>W.cells? 0 (a.add (i*2)) 2=some [.bool z.1,.string z.2]) len fun i hi=>by
   obtain⟨cs',h2,h3⟩:=hel i (by omega)
   rw [hC]at h2
   obtain⟨b,s,rfl,_⟩:=Bw ht hC ho0 ho1 hc0 hc1 h0 h1 h3
   exact⟨(b,s),h2⟩
  have hp:p=MemPlace.row a (m*2) ++ (List.range m).flatMap Pl:=by rw [hC]at hx;exact(Prod.mk.inj hx).2
  refine⟨xs,⟨some a,m,by rw [hxl],by omega,hm,?_⟩,fun b hb=>?_⟩
  ·rcases Nat.eq_zero_or_pos len with hz | hz
   ·exact .inl (List.eq_nil_of_length_eq_zero (by omega))
   ·right
    obtain⟨g,off,spot⟩:=a
    obtain⟨hsp,_⟩:=Zb1 hs hv
    simp only at hsp
    subst hsp
    refine⟨g,off,rfl,fun i x hi j u hj=>?_⟩
    obtain⟨_,_,hc⟩:=World.cells?_some (hxs i x hi)
    have hj2:j<2:=by
     rcases Nat.lt_or_ge j 2 with h | h
     ·exact h
     ·rw [List.getElem?_eq_none (by simp [Value.cells];omega)]at hj;cases hj
    have:=hc j hj2
    simp only [Mv]at this
    rw [this]
    simpa [Value.cells]using hj
  ·cases hb
   exact(Zb1 hs hv).2
theorem Zkh {t e:TypeId} {g0 g1 f0 f1:Field} {v:Value} {d:DataW H} {p:List MemPlace} {base:Nat} {spare:Nat→Bool} {held:Bool} {r:Reach} {b0:Nat}
  (hg:P.underlying t=some (.struct #[g0,g1])) (ht:P.underlying e=some (.struct #[f0,f1])) (hC4:P.cellsOf t=4) (hC:P.cellsOf e=2) (hg0:g0.type=e) (hg1:g1.type=e) (hp0:g0.offset=0) (hp1:g1.offset=2)
  (hc0:P.cellsOf f0.type=1) (hc1:P.cellsOf f1.type=1) (h0:P.underlying f0.type=some .bool) (h1:P.underlying f1.type=some .string) (ho0:f0.offset=0) (ho1:f1.offset=1)
  (hv:Value.okWide P W r b0 t v) (h:DataW.Trod enc P W base spare held t v d p):∃(b:Bool) (s:ByteArray) (c:Bool) (u:ByteArray),v= .agg #[.bool b,.string s,.bool c,.string u]:=by
 obtain⟨cs,rfl,hsz⟩:=okWide_struct hg hv
 obtain⟨fuel,hf⟩:=h
 obtain⟨y0,y1,n,hx,hl,e0,e1⟩:=trod_struct2 hg hf
 rw [hg0,hp0,hC]at e0
 rw [hg1,hp1,hC]at e1
 obtain⟨b,s,hb,_⟩:=Bw ht hC ho0 ho1 hc0 hc1 h0 h1 e0
 obtain⟨c,u,hc,_⟩:=Bw ht hC ho0 ho1 hc0 hc1 h0 h1 e1
 refine⟨b,s,c,u,?_⟩
 rw [show cs=#[.bool b,.string s,.bool c,.string u]from Array.ext' ?_]
 obtain⟨l⟩:=cs
 simp only [Value.cells]at hb hc
 match l,hsz,hb,hc with
 | l,hsz,hb,hc=>
  have h4:l.length=4:=by rw [←hC4];exact hsz
  match l,h4 with
  | [a,b',c',d'],_=>simp_all
end Go.Sky
namespace Go.Sky
set_option maxRecDepth 20000
theorem Zpr{K:Nat}{f:Nat→Int}{n:Nat}(h:∀i,i<n→bl (f i).natAbs≤K)(hn:n≤1023):bl (Qr f n).natAbs≤K+10:=by
 rw [Mo]
 have h1:=Zt5 h
 have h2:n*(2^K-1)≤1023*(2^K-1):=Nat.mul_le_mul_right _ hn
 have h3:0<2^K:=Nat.two_pow_pos K
 rw [Nat.pow_add]
 omega
theorem Hz(zs:List (Int×SL))(z:Int×SL):Zj (zs ++ [z])=Zj zs ++ [z.1]:=by simp [Zj]
theorem Yem(p q:List Int):tzl (mk (max p.length q.length) fun t=>cf p t+cf q t)=Zfd p q:=rfl
theorem Ztb(p:List Int)(c:Int):tzl (mk p.length fun t=>cf p t*c)=Xw p c:=by rw [Zov p (· * c)];rfl
theorem Yeh(p q:List Int):tzl (mk (p.length+q.length-1) fun t=>Qr (fun k=>cf p k*cf q (t-k)) (t+1))=Ou p q:=rfl
theorem Zbu{x:Int}{m:Nat}(h:bl x.natAbs≤m)(n:Nat):bl (x^n).natAbs≤n*m+1:=by
 rcases Nat.eq_zero_or_pos n with h0 | h0
 ·rw [h0,Int.pow_zero];have:bl (1:Int).natAbs=1:=by decide
  omega
 ·have:=Dj x h n h0;omega
theorem Hq(p:List Int)(c:Int):(Xw p c).length≤p.length:=by
 unfold Xw;have:=Hc (p.map (· * c));rwa [List.length_map]at this
theorem Yaz(p q:List Int):(Zfd p q).length≤max p.length q.length:=by
 unfold Zfd;have:=Hc (mk (max p.length q.length) fun i=>cf p i+cf q i);rwa [Qp]at this
theorem bl_i1{i:Nat}(h:i≤1000):bl ((i:Int)+1).natAbs≤1000000000:=by
 have h1:=Ny (show((i:Int)+1).natAbs≤1001 by omega)
 have h2:bl 1001≤10:=by decide
 omega
theorem ev_tb{p:List Int}{x y:Int}(hs:Sz 1000000 p)(hx:∀k,bl (x^k).natAbs≤k*1000000+1)(hy:∀k,bl (y^k).natAbs≤k*1000000+1)(hl:p.length≤30)(t:Nat):bl (cf p t*(x^t*y^(p.length-1-t))).natAbs≤100000000:=by
 rcases Nat.lt_or_ge t p.length with h | h
 ·have h1:=hx t
  have h2:=hy (p.length-1-t)
  have h3:=Qk (x^t) (y^(p.length-1-t))
  have h4:=Qk (cf p t) (x^t*y^(p.length-1-t))
  have h5:=hs t
  have h6:t*1000000+(p.length-1-t)*1000000≤30*1000000:=by rw [←Nat.add_mul];exact Nat.mul_le_mul_right _ (by omega)
  omega
 ·rw [Qe h,Int.zero_mul];exact Nat.zero_le _
theorem La{y:Int}(h:y≠0):∀n:Nat,y^n≠0
 | 0=>by rw [Int.pow_zero];omega
 | n+1=>by rw [Int.pow_succ];exact Int.mul_ne_zero (La h n) h
theorem Ztn(xs ys:List Int):xs.map wr=ys.map wr↔xs=ys:=by
 refine⟨fun h=>?_,fun h=>by rw [h]⟩
 exact List.map_inj_right (fun x y h=>Zsq (congrArg Prod.fst h) (congrArg Prod.snd h)) |>.1 h
theorem Cal.imp2{P:Program}{f:FuncId}{args:Array Value}{p1 p q:Pc}{pre:List Pc}{al:Bool}{G:Type}{φ:G→Prop}{Qm:G→Value}{its:G→List Pc}(h:Cal P f args (p1 :: p :: pre) al φ Qm its)(hh:∀w,q.holds w→p.holds w)(hf:∀b,p.fp b→q.fp b) :
  Cal P f args (p1 :: q :: pre) al φ Qm its:=fun w hp=>by
 refine(h w fun r hr=>?_).mono ?_
 ·rcases List.mem_cons.1 hr with rfl | hr
  ·exact hp _ (List.mem_cons_self ..)
  ·rcases List.mem_cons.1 hr with rfl | hr
   ·exact hh w (hp q (List.mem_cons_of_mem _ (List.mem_cons_self ..)))
   ·exact hp r (List.mem_cons_of_mem _ (List.mem_cons_of_mem _ hr))
 ·rintro e w' ⟨g,he,hg,hb,hits⟩
  refine⟨g,he,hg,hb,fun p' hp'=>?_⟩
  obtain⟨h1,h2,h3⟩:=hits p' hp'
  refine⟨h1,h2,fun b hb=>?_⟩
  rcases h3 b hb with h | ⟨h,r,hr,hrb⟩
  ·exact .inl h
  ·refine .inr ⟨h,?_⟩
   rcases List.mem_cons.1 hr with rfl | hr
   ·exact⟨r,List.mem_cons_self ..,hrb⟩
   ·rcases List.mem_cons.1 hr with rfl | hr
    ·exact⟨q,List.mem_cons_of_mem _ (List.mem_cons_self ..),hf b hrb⟩
    ·exact⟨r,List.mem_cons_of_mem _ (List.mem_cons_of_mem _ hr),hrb⟩
theorem Zkj{r:List (Bool×ByteArray)}(ha:r.all (fun w=>okW w.1 w.2)=true):okP r=(decide (r.length≤25) && (decide (r.length=0) || decide ((0:Int)<(((r.getD (r.length-1) (false,⟨#[]⟩)).2.size:Nat):Int)))):=by
 unfold okP
 rw [ha,Bool.true_and]
 congr 2
 rw [decide_eq_decide];omega
def shm(q:List Int)(c:Int)(s i:Nat):List Int:=mk (s+i) fun t=>if t<s then 0 else c*cf q (t-s)
theorem Zf4(q:List Int)(c:Int)(s:Nat):List.replicate s 0=shm q c s 0:=by
 rw [Zn7];unfold shm
 exact Gl fun i hi=>by rw [if_pos hi]
theorem Zf5(q:List Int)(c:Int)(s i:Nat):shm q c s i ++ [c*cf q i]=shm q c s (i+1):=by
 unfold shm
 rw [show s+(i+1)=s+i+1 by omega,Zb4,if_neg (by omega),show s+i-s=i by omega]
theorem Zpo(q:List Int)(c:Int)(s t:Nat):cf (shm q c s q.length) t=if s≤t∧t<s+q.length then c*cf q (t-s)else 0:=by
 unfold shm
 rw [It]
 by_cases h1:t<s
 ·rw [if_neg (by omega:¬(s≤t∧t<s+q.length))];split
  ·rfl
  ·rfl
 ·by_cases h2:t<s+q.length
  ·rw [if_pos h2,if_neg h1,if_pos (show s≤t∧t<s+q.length by omega)]
  ·rw [if_neg h2,if_neg (show ¬(s≤t∧t<s+q.length) by omega)]
section
variable {p q:List Int}
theorem Ze9(hq:0<q.length)(hl:q.length≤p.length):∀j,j≤p.length-q.length+1→∀t,p.length-j≤t→cf (Oe p q j) t=0
 | 0,_,t,ht=>Qe (by unfold Oe;omega)
 | j+1,hj,t,ht=>by
  rcases Nat.lt_or_ge t p.length with h | h
  ·unfold Oe
   rw [Zg7 (by rw [Oz];exact h)]
   by_cases he:t=p.length-1-j
   ·subst he
    rw [if_pos (by omega),show p.length-1-j-(p.length-1-j-(q.length-1))=q.length-1 by omega]
    omega
   ·rw [Ze9 hq hl j (by omega) t (by omega),Int.zero_mul,if_neg (by omega)];rfl
  ·exact Qe (by rw [Oz];omega)
theorem Zcx(hq:0<q.length)(hl:q.length≤p.length){j:Nat} : ∀k,j+k≤p.length-q.length+1→(∀t,p.length-(j+k)≤t→cf (Oe p q j) t=0)→∀t,cf (Oe p q (j+k)) t=cf (Oe p q j) t*cf q (q.length-1)^k
 | 0,_,_,t=>by rw [Int.pow_zero,Int.mul_one];rfl
 | k+1,hk,hz,t=>by
  have ih:=Zcx hq hl k (by omega) (fun t ht=>hz t (by omega))
  rcases Nat.lt_or_ge t p.length with h | h
  ·show cf (Zer q (Oe p q (j+k)) (p.length-1-(j+k))) t=_
   rw [Zg7 (by rw [Oz];exact h),ih t,ih (p.length-1-(j+k)),hz (p.length-1-(j+k)) (by omega),Int.zero_mul,Int.zero_mul]
   split<;>rw [Int.sub_zero,Int.pow_succ,Int.mul_assoc]
  ·rw [Qe (by rw [Oz];omega),Qe (by rw [Oz];omega),Int.zero_mul]
def Ck(p q R:List Int)(j:Nat):Prop:=Tr R∧∀t,cf R t=cf (Oe p q j) t*cf q (q.length-1)^(p.length-q.length+1-j)
theorem Zn5:Ck p q (Xw p (cf q (q.length-1)^(p.length-q.length+1))) 0:=⟨Oh _ _,fun t=>by rw [Qo];rfl⟩
theorem Zs5{R:List Int}{j:Nat}(hq:0<q.length)(hl:q.length≤p.length)(hlead:cf q (q.length-1)≠0)(hj:j≤p.length-q.length+1)(h:Ck p q R j)(hR:q.length≤R.length):j≤p.length-R.length∧p.length-R.length≤p.length-q.length∧R.length≤p.length∧Ck p q R (p.length-R.length):=by
 have hpow:∀n,cf q (q.length-1)^n≠0:=fun n=>La hlead n
 have htop:cf R (R.length-1)≠0:=h.1.mem (fun e=>by rw [e,List.length_nil]at hR;omega)
 have h1:R.length-1<p.length-j:=by
  rcases Nat.lt_or_ge (R.length-1) (p.length-j)with h1 | h1
  ·exact h1
  ·rw [h.2,Ze9 hq hl j hj _ h1,Int.zero_mul]at htop;exact absurd rfl htop
 have hjl:j≤p.length-R.length:=by omega
 refine⟨hjl,by omega,by omega,h.1,fun t=>?_⟩
 have hz:∀t,p.length-(j+(p.length-R.length-j))≤t→cf (Oe p q j) t=0:=fun t ht=>by
  have h2:=h.2 t
  rw [Qe (by omega)]at h2
  rcases Int.mul_eq_zero.1 h2.symm with h3 | h3
  ·exact h3
  ·exact absurd h3 (hpow _)
 have h2:=Zcx hq hl (j:=j) (p.length-R.length-j) (by omega) hz t
 rw [show j+(p.length-R.length-j)=p.length-R.length by omega]at h2
 rw [h2,h.2,Int.mul_assoc,←Int.pow_add]
 congr 2;omega
theorem Zh8{R:List Int}(hlead:cf q (q.length-1)≠0)(h:Ck p q R (p.length-R.length))(hq:0<q.length)(hR:q.length≤R.length)(hp:R.length≤p.length):cf R (R.length-1)/cf q (q.length-1)=cf (Oe p q (p.length-R.length)) (R.length-1)*cf q (q.length-1)^(p.length-q.length-(p.length-R.length)):=by
 rw [h.2,show p.length-q.length+1-(p.length-R.length)=p.length-q.length-(p.length-R.length)+1 by omega,Int.pow_succ,←Int.mul_assoc]
 exact Int.mul_ediv_cancel _ hlead
theorem Zn6{R:List Int}(hlead:cf q (q.length-1)≠0)(h:Ck p q R (p.length-R.length))(hq:0<q.length)(hR:q.length≤R.length)(hp:R.length≤p.length) :
  Ck p q (Zan R (shm q (cf R (R.length-1)/cf q (q.length-1)) (R.length-q.length) q.length)) (p.length-R.length+1):=by
 refine⟨Zds _ _,fun t=>?_⟩
 rw [Hu,Zpo,Zh8 hlead h hq hR hp,h.2]
 rcases Nat.lt_or_ge t p.length with ht | ht
 ·show _=cf (Zer q (Oe p q (p.length-R.length)) (p.length-1-(p.length-R.length))) t*_
  rw [Zg7 (by rw [Oz];exact ht),show p.length-1-(p.length-R.length)=R.length-1 by omega,show R.length-1-(q.length-1)=R.length-q.length by omega]
  rw [show p.length-q.length+1-(p.length-R.length)=p.length-q.length-(p.length-R.length)+1 by omega,show p.length-q.length+1-(p.length-R.length+1)=p.length-q.length-(p.length-R.length) by omega,Int.pow_succ]
  split<;>grind
 ·rw [Qe (p:=Oe p q (p.length-R.length)) (by rw [Oz];exact ht),Qe (p:=Oe p q (p.length-R.length+1)) (by rw [Oz];exact ht),if_neg (by omega)]
  simp
theorem Zqs{R:List Int}{j:Nat}(hq:0<q.length)(hl:q.length≤p.length)(hlead:cf q (q.length-1)≠0)(hj:j≤p.length-q.length+1)(h:Ck p q R j)(hR:R.length<q.length):R=Pr p q:=by
 unfold Pr
 rw [if_neg (by omega)]
 refine h.1.ext (Nr _) fun t=>?_
 have hz:∀t,p.length-(j+(p.length-q.length+1-j))≤t→cf (Oe p q j) t=0:=fun t ht=>by
  have h2:=h.2 t
  rw [Qe (by omega)]at h2
  rcases Int.mul_eq_zero.1 h2.symm with h3 | h3
  ·exact h3
  ·exact absurd h3 (La hlead _)
 have h2:=Zcx hq hl (j:=j) (p.length-q.length+1-j) (by omega) hz t
 rw [show j+(p.length-q.length+1-j)=p.length-q.length+1 by omega]at h2
 rw [Km,h2,h.2]
theorem Zs6{R:List Int}{j:Nat}(hj:j≤p.length-q.length+1)(h:Ck p q R j):Sz (Pi p+(p.length-q.length+1)*(Pi q+1)+1) R:=fun t=>by
 rw [h.2]
 have h1:=Bs p q j t
 have h2:=Zbu (Ot q (q.length-1)) (p.length-q.length+1-j)
 have h3:=Qk (cf (Oe p q j) t) (cf q (q.length-1)^(p.length-q.length+1-j))
 have h4:(p.length-q.length+1-j)*Pi q≤(p.length-q.length+1-j)*(Pi q+1):=Nat.mul_le_mul_left _ (by omega)
 have h5:j*(Pi q+1)+(p.length-q.length+1-j)*(Pi q+1)=(p.length-q.length+1)*(Pi q+1):=by rw [←Nat.add_mul];congr 1;omega
 omega
theorem Zqr{R:List Int}{j:Nat}(h:Ck p q R j):R.length≤p.length:=by
 rcases Nat.lt_or_ge p.length R.length with h1 | h1
 ·have h2:=h.1.mem (fun e=>by rw [e]at h1;simp at h1)
  rw [h.2,Qe (by rw [Oz];omega),Int.zero_mul]at h2
  exact absurd rfl h2
 ·exact h1
end
end Go.Sky
namespace Go.Sky
section
variable {P:Program} {N:Nat} {sc:Nat→Prop} {env env':Kr} {H H':Hp}
theorem Aa(n k:Nat):∀a w,Sat N sc env H a w→Sat N sc env ((n,Dx qI (List.replicate k I0)) :: H) a w:=fun a w hs=>by
 have hz:∀z,z∈List.replicate k I0→z=I0:=fun z hz=>(List.mem_replicate.1 hz).2
 refine hs.add n _ (fun z h=>by rw [hz z h];exact Za7 1 Ht w) (fun j' jt _ _ Ga b hb hb'=>?_) (fun b hb=>?_)
 ·obtain⟨z,h1,h2⟩:=hb;rw [hz z h1]at h2;cases h2
 ·obtain⟨z,h1,h2⟩:=hb;rw [hz z h1]at h2;cases h2
end
theorem Zw4{c r l:Int}{n A B:Nat}(h:c=r*l^n)(hr:bl r.natAbs≤A)(hl:bl l.natAbs≤B):bl c.natAbs≤A+(n*B+1):=by
 rw [h]
 have h1:=Qk r (l^n)
 rcases Nat.eq_zero_or_pos n with h0 | h0
 ·rw [h0,Int.pow_zero];rw [Int.mul_one];omega
 ·have:=Dj l hl n h0;omega
theorem Yd6{p q R:List Int}(hq:q.length≤R.length)(hl:q.length≤p.length)(hp:R.length≤p.length) :
  Pi p+(p.length-R.length)*(Pi q+1)+((p.length-q.length-(p.length-R.length))*Pi q+1)≤Pi p+(p.length-q.length+1)*(Pi q+1):=by
 have h1:(p.length-q.length-(p.length-R.length))*Pi q≤(p.length-q.length-(p.length-R.length))*(Pi q+1):=Nat.mul_le_mul_left _ (by omega)
 have h2:(p.length-R.length)*(Pi q+1)+(p.length-q.length-(p.length-R.length))*(Pi q+1)=(p.length-q.length)*(Pi q+1):=by rw [←Nat.add_mul];congr 1;omega
 rw [Nat.succ_mul];omega
theorem Zz8{p q R:List Int}{c r:Int}(h:c=r*cf q (q.length-1)^(p.length-q.length-(p.length-R.length)))(hr:bl r.natAbs≤Pi p+(p.length-R.length)*(Pi q+1))(hs:Sz (Pi q) q)(hq:q.length≤R.length)(hl:q.length≤p.length)(hp:R.length≤p.length)(t:Nat) :
  bl (c*cf q t).natAbs≤Pi p+(p.length-q.length+1)*(Pi q+1)+1:=by
 have h1:=Zw4 h hr (hs _)
 have h2:=Qk c (cf q t)
 have h3:=hs t
 have h4:(p.length-q.length-(p.length-R.length))*Pi q≤(p.length-q.length-(p.length-R.length))*(Pi q+1):=Nat.mul_le_mul_left _ (by omega)
 have h5:(p.length-R.length)*(Pi q+1)+(p.length-q.length-(p.length-R.length))*(Pi q+1)=(p.length-q.length)*(Pi q+1):=by rw [←Nat.add_mul];congr 1;omega
 rw [Nat.succ_mul];omega
theorem Znr{q:List Int}{c:Int}{s i n:Nat}(h:∀t,bl (c*cf q t).natAbs≤n):Sz n (shm q c s i):=by
 unfold shm
 refine Az fun t _=>?_
 split
 ·exact Nat.zero_le _
 ·exact h _
end Go.Sky
namespace Go.Sky
theorem Ybz(zs:List (Int×SL))(k:Nat)(z:Int×SL):Zj (zs.set k z)=(Zj zs).set k z.1:=by simp [Zj,List.map_set]
theorem Yfg{q D:List Int}{k:Nat}(h:k+q.length≤D.length):Zan (tzl D) (tzl (shm q (cf D (k+q.length-1)/cf q (q.length-1)) k q.length))=tzl (Zew q D k):=by
 refine(Zds _ _).ext (Nr _) fun t=>?_
 rw [Hu,Km,Km,Km,Zpo]
 unfold Zew
 rw [It]
 by_cases h1:t<D.length
 ·rw [if_pos h1];rfl
 ·rw [if_neg h1,if_neg (by omega),Qe (by omega)];rfl
theorem div_c{q:List Int}{x:Int}{A:Nat}(h0:cf q (q.length-1)≠0)(hx:x%cf q (q.length-1)=0)(ha:bl x.natAbs≤A)(t:Nat):bl (x/cf q (q.length-1)*cf q t).natAbs≤A+(Pi q+1):=by
 have h1:=Ea (Int.dvd_of_emod_eq_zero hx) ha
 have h2:=Qk (x/cf q (q.length-1)) (cf q t)
 have h3:=Ot q t
 omega
theorem Zr0(p q:List Int)(j:Nat):Qy p q (j+1)=Zew q (Qy p q j) (p.length-q.length-j):=rfl
theorem Ycj{p q:List Int}{j:Nat}(h:q.length≤p.length)(hj:j≤p.length-q.length):Zan (tzl (Qy p q j)) (tzl (shm q (cf (Qy p q j) (p.length-q.length-j+q.length-1)/cf q (q.length-1)) (p.length-q.length-j) q.length))=tzl (Qy p q (j+1)):=by
 rw [Zr0];exact Yfg (by rw [Fm];omega)
theorem Zyq{p q:List Int}{j:Nat}(hj:j<p.length-q.length+1):(Zdf p q j).set (p.length-q.length-j) (cf (Qy p q j) (p.length-q.length-j+q.length-1)/cf q (q.length-1))=Zdf p q (j+1):=Zr1 hj
theorem div_sz{p q:List Int}{j:Nat}(hj:j≤p.length-q.length+1)(hx:∀k,p.length-q.length<k+j→k≤p.length-q.length→Ln p q k){M:Nat}(hF:Pi p+(p.length-q.length+1)*(Pi q+1)≤M)(t:Nat):bl (cf (Qy p q j) t).natAbs≤M:=by
 have h1:=Zav p q j hj hx t
 have h2:j*(Pi q+1)≤(p.length-q.length+1)*(Pi q+1):=Nat.mul_le_mul_right _ hj
 omega
theorem Yff{p q:List Int}{j:Nat}(hj:j≤p.length-q.length)(hx:∀k,p.length-q.length<k+j→k≤p.length-q.length→Ln p q k){M:Nat}(hF:Pi p+(p.length-q.length+1)*(Pi q+1)≤M)(t:Nat):bl (cf (Qy p q j) t).natAbs+(Pi q+1)≤M:=by
 have h1:=Zav p q j (by omega) hx t
 have h2:(j+1)*(Pi q+1)≤(p.length-q.length+1)*(Pi q+1):=Nat.mul_le_mul_right _ (by omega)
 rw [Nat.succ_mul]at h2
 omega
theorem Yfd{p q:List Int}{M:Nat}(hF:Pi p+(p.length-q.length+1)*(Pi q+1)≤M)(hx:∀k,k≤p.length-q.length→Ln p q k)(j:Nat):Sz M (Zdf p q j):=by
 refine Az fun t ht=>?_
 split
 ·unfold Zr9 dq
  have h1:=div_sz (p:=p) (q:=q) (j:=p.length-q.length-t) (by omega) (fun k _ hk=>hx k hk) hF (t+q.length-1)
  exact Ea (Int.dvd_of_emod_eq_zero (hx t (by omega))) h1
 ·simp [Ly]
theorem Yek{p q:List Int}(hp:p≠[])(hl:q.length≤p.length)(hx:∀k,k≤p.length-q.length→Ln p q k){n:Nat}(hn:n=(tzl (Qy p q (p.length-q.length+1))).length):decide (n=0)=decide (pdv p q):=by
 subst hn
 refine decide_eq_decide.2 ⟨fun h=> .inr ⟨hl,hx,List.eq_nil_of_length_eq_zero h⟩,fun h=>?_⟩
 rcases h with h | ⟨_,_,h⟩
 ·exact absurd h hp
 ·rw [h];rfl
theorem pdv_no{p q:List Int}(hp:p≠[]){k:Nat}(hk:k≤p.length-q.length)(h:¬Ln p q k):decide (pdv p q)=false:=decide_eq_false fun hd=>by
 rcases hd with h1 | ⟨_,h2,_⟩
 ·exact hp h1
 ·exact h (h2 k hk)
theorem Yej{p q:List Int}(hp:p≠[])(h:p.length<q.length):decide (pdv p q)=false:=decide_eq_false fun hd=>by
 rcases hd with h1 | ⟨h2,_,_⟩
 ·exact hp h1
 ·omega
theorem Yei{p q:List Int}(hp:p=[]):decide (pdv p q)=true:=decide_eq_true (.inl hp)
def Gf(a b:Int):Nat→List Int
 | 0=>[1]
 | i+1=>Ou (Gf a b i) (tzl [a,b])
def Znz(p:List Int)(a b d:Int):Nat→List Int
 | 0=>[]
 | i+1=>Zfd (Znz p a b d i) (Xw (Gf a b i) (cf p i*d^(p.length-1-i)))
def hs(f:Nat→PS):Nat→PS
 | 0=>0
 | n+1=>hs f n+f n
theorem Zkz{f g:Nat→PS} : ∀{n:Nat},(∀k,k<n→f k=g k)→hs f n=hs g n
 | 0,_=>rfl
 | n+1,h=>by show hs f n+f n=hs g n+g n;rw [Zkz fun k hk=>h k (by omega),h n (by omega)]
theorem Zrr(f:Nat→PS):∀n,hs f (n+1)=f 0+hs (fun k=>f (k+1)) n
 | 0=>by show(0:PS)+f 0=f 0+0;rw [PS.zero_add',PS.add_zero']
 | n+1=>by
  show hs f (n+1)+f (n+1)=f 0+(hs (fun k=>f (k+1)) n+f (n+1))
  rw [Zrr f n,PS.add_assoc']
theorem Yb1(f:Nat→PS)(c:PS):∀n,hs (fun k=>f k*c) n=hs f n*c
 | 0=>by show(0:PS)=0*c;rw [PS.zero_mul']
 | n+1=>by show hs (fun k=>f k*c) n+f n*c=(hs f n+f n)*c;rw [Yb1 f c n,PS.distrib_r]
theorem Zoe(p:List Int):ps (tzl p)=ps p:=PS.ext' fun i=>Km p i
theorem Yf1(a b:Int)(i:Nat):cf [a,b] i=if i=0 then a else if i=1 then b else 0:=by
 rcases i with _ | _ | i
 ·rfl
 ·rfl
 ·rw [Qe (by simp),if_neg (by omega),if_neg (by omega)]
theorem Zp9{f:Nat→Int} : ∀{n:Nat},(∀k,k<n→f k=0)→Qr f n=0
 | 0,_=>rfl
 | n+1,h=>by rw [Qq,Zp9 fun k hk=>h k (by omega),h n (by omega)];rfl
theorem Zvt(f:PS)(a b:Int)(t:Nat):(f*ps [a,b]).c t=f.c t*a+if t=0 then 0 else f.c (t-1)*b:=by
 rw [PS.mul_c]
 simp only [Md,Yf1]
 rw [Qq,Nat.sub_self,if_pos rfl]
 rcases t with _ | t
 ·simp [Qr]
 ·rw [Qq,show t+1-t=1 by omega,if_neg (by omega:¬1=0),if_pos rfl,Zp9 fun k hk=>by rw [if_neg (by omega),if_neg (by omega),Int.mul_zero],Nat.add_sub_cancel,if_neg (by omega:¬t+1=0)];omega
theorem Yam:ps [1]=1:=PS.ext' fun i=>by
 rw [Md,PS.one_c]
 rcases i with _ | i
 ·rfl
 ·rw [Qe (by simp),if_neg (by omega)]
theorem ps_nil:ps []=0:=PS.ext' fun i=>by rw [Md,PS.zero_c];exact Qe (by simp)
theorem C_c(n:Int)(i:Nat):(PS.C n).c i=if i=0 then n else 0:=by
 have h:=PS.C_mul_c n 1 i
 rw [show PS.C n*1=PS.C n from PS.mul_one' _,PS.one_c]at h
 rw [h];split<;>simp
theorem Zes(a b:Int)(i:Nat):ps (Gf a b (i+1))=ps (Gf a b i)*ps [a,b]:=by
 show ps (Ou _ _)=_;rw [Zvg,Zoe]
theorem Zof(p:List Int)(a b d:Int)(j:Nat):ps (Kg p a b d (j+1))=ps (Kg p a b d j)*ps [a,b]+PS.C (cf p (p.length-2-j)*d^(j+1)):=PS.ext' fun t=>by
 rw [PS.add_c,Zvt,C_c,Md,Zys,It,Md,Md]
 by_cases h:t<(Kg p a b d j).length+1
 ·rw [if_pos h]
  by_cases h0:t=0
  ·rw [if_pos h0,if_pos h0,if_pos h0];omega
  ·rw [if_neg h0,if_neg h0,if_neg h0];omega
 ·rw [if_neg h,Qe (by omega),Qe (by omega),if_neg (by omega),if_neg (by omega)];simp
theorem Zvh(p:List Int)(a b d:Int):∀j,j≤p.length-1→ps (Kg p a b d j)=hs (fun k=>PS.C (cf p (p.length-1-j+k)*d^(j-k))*ps (Gf a b k)) (j+1)
 | 0,_=>by
  rw [Cb];show _=(0:PS)+PS.C (cf p (p.length-1)*d^0)*ps [1]
  rw [Yam,Int.pow_zero,Int.mul_one,show(0:PS)+PS.C (cf p (p.length-1))*1=PS.C (cf p (p.length-1)) by rw [PS.mul_one',PS.zero_add']]
  refine PS.ext' fun t=>?_
  rw [Md,C_c]
  rcases t with _ | t
  ·rfl
  ·rw [Qe (by simp),if_neg (by omega)]
 | j+1,h=>by
  rw [Zof,Zvh p a b d j (by omega),←Yb1,Zrr _ (j+1)]
  have h1:hs (fun k=>PS.C (cf p (p.length-1-j+k)*d^(j-k))*ps (Gf a b k)*ps [a,b]) (j+1)=hs (fun k=>PS.C (cf p (p.length-1-(j+1)+(k+1))*d^(j+1-(k+1)))*ps (Gf a b (k+1))) (j+1):=Zkz fun k hk=>by
   rw [Zes,show p.length-1-(j+1)+(k+1)=p.length-1-j+k by omega,show j+1-(k+1)=j-k by omega,PS.mul_assoc']
  rw [h1]
  show _+_=PS.C (cf p (p.length-1-(j+1)+0)*d^(j+1))*ps [1]+_
  rw [Yam,show p.length-1-(j+1)+0=p.length-2-j by omega]
  rw [PS.mul_one',PS.add_comm']
theorem Zvf(p:List Int)(a b d:Int):∀n,ps (Znz p a b d n)=hs (fun k=>PS.C (cf p k*d^(p.length-1-k))*ps (Gf a b k)) n
 | 0=>ps_nil
 | n+1=>by show ps (Zfd _ _)=hs _ n+_;rw [Yef,Zvf p a b d n,Zxw]
theorem Ydh(p:List Int)(a b d:Int):∀n,Tr (Znz p a b d n)
 | 0=>Tr.nil
 | n+1=>Zuk _ _
theorem Ydy(p:List Int)(a b d:Int):Znz p a b d p.length=Zap p a b d:=by
 unfold Zap
 split
 ·rename_i h;rw [h];rfl
 ·rename_i h
  refine(Ydh p a b d _).ps_inj (Nr _) ?_
  rw [Zoe,Zvf,Zvh p a b d _ (Nat.le_refl _),show p.length-1+1=p.length by omega]
  exact Zkz fun k hk=>by rw [Nat.sub_self,Nat.zero_add]
theorem Zhn(a b:Int):∀i,(Gf a b i).length≤i+1
 | 0=>Nat.le_refl _
 | i+1=>by
  have h1:=Zhn a b i
  have h2:(tzl [a,b]).length≤2:=Hc _
  have h3:(Gf a b (i+1)).length≤(Gf a b i).length+(tzl [a,b]).length-1:=Nat.le_trans (Hc _) (by rw [Qp];exact Nat.le_refl _)
  omega
theorem Zj4{a b:Int}{m:Nat}(ha:bl a.natAbs≤m)(hb:bl b.natAbs≤m):∀i,Sz (i*(m+1)+1) (Gf a b i)
 | 0=>fun t=>by
  rcases t with _ | t
  ·show bl 1≤_;rw [Ycw];omega
  ·show bl (cf [1] (t+1)).natAbs≤_;rw [Qe (by simp)];simp [Ly]
 | i+1=>fun t=>by
  have h1:=Zj4 ha hb i
  rw [←Md,Zes,Zvt,Md,Md,Nat.succ_mul]
  have h2:=h1 t
  have h3:=h1 (t-1)
  have h4:=Qk (cf (Gf a b i) t) a
  have h5:=Qk (cf (Gf a b i) (t-1)) b
  have h6:=Ky (cf (Gf a b i) t*a) (if t=0 then 0 else cf (Gf a b i) (t-1)*b)
  have h7:bl (if t=0 then 0 else cf (Gf a b i) (t-1)*b).natAbs≤i*(m+1)+1+m:=by
   split
   ·simp [Ly]
   ·omega
  omega
theorem Zpv{x d:Int}{A m k:Nat}(hx:bl x.natAbs≤A)(hd:bl d.natAbs≤m):bl (x*d^k).natAbs≤A+k*m:=by
 have h:=Zha (a:=x) (n:=1) (d:=d) (A:=A) (m:=max m 1) (i:=0) (j:=k) hx (by show bl 1≤_;rw [Ycw];omega) (by omega)
 rcases Nat.eq_zero_or_pos k with h0 | h0
 ·subst h0;simp;exact hx
 ·have h1:=Qk x (d^k)
  have h2:=Dj d hd k h0
  omega
theorem Zmm{p:List Int}{a b d:Int}{m i:Nat}(ha:bl a.natAbs≤m)(hb:bl b.natAbs≤m)(hd:bl d.natAbs≤m)(hi:i<p.length)(t:Nat) :
  bl (cf (Xw (Gf a b i) (cf p i*d^(p.length-1-i))) t).natAbs≤Pi p+p.length*(m+1)+1:=by
 rw [Qo]
 have h1:=Qk (cf (Gf a b i) t) (cf p i*d^(p.length-1-i))
 have h2:=Zj4 ha hb i t
 have h3:=Zpv (k:=p.length-1-i) (Ot p i) hd
 have h4:i*(m+1)+(p.length-1-i)*(m+1)+(m+1)=p.length*(m+1):=by rw [←Nat.add_mul,←Nat.succ_mul];congr 1;omega
 have h6:i*(m+1)+(p.length-1-i)*(m+1)≤p.length*(m+1):=by omega
 have h5:(p.length-1-i)*m≤(p.length-1-i)*(m+1):=Nat.mul_le_mul_left _ (by omega)
 omega
theorem Zu1{p:List Int}{a b d:Int}{m:Nat}(ha:bl a.natAbs≤m)(hb:bl b.natAbs≤m)(hd:bl d.natAbs≤m):∀i,i≤p.length→Sz (Pi p+p.length*(m+1)+1+i) (Znz p a b d i)
 | 0,_=>Sz.nil _
 | i+1,h=>fun t=>by
  have h1:=Zu1 (p:=p) ha hb hd i (by omega) t
  have h2:=Zmm (p:=p) ha hb hd (i:=i) (by omega) t
  show bl (cf (Zfd _ _) t).natAbs≤_
  rw [Zjb]
  have h3:=Ky (cf (Znz p a b d i) t) (cf (Xw (Gf a b i) (cf p i*d^(p.length-1-i))) t)
  omega
theorem Zql{p:List Int}{a b d:Int} : ∀i,(Znz p a b d i).length≤i+1
 | 0=>Nat.zero_le _
 | i+1=>by
  have h1:=Yaz (Znz p a b d i) (Xw (Gf a b i) (cf p i*d^(p.length-1-i)))
  have h2:=Zql (p:=p) (a:=a) (b:=b) (d:=d) i
  have h3:=Zhn a b i
  have h4:(Xw (Gf a b i) (cf p i*d^(p.length-1-i))).length≤(Gf a b i).length:=Nat.le_trans (Hc _) (by simp)
  show(Zfd _ _).length≤_
  omega
abbrev RW:=List (Bool×ByteArray)
abbrev qR (z:SL×RW):Pc:=Px 2 Aq (svv z.1) z.2
abbrev qZ (z:SL×List Int):Pc:=Px 2 wv (svv z.1) z.2
abbrev R0:SL×RW:=((none,0,0),[])
def short1(r:RW):Bool:=(decide (r.length≤14) || decide (r.length=26)) && r.all fun c=>decide (c.2.size≤16)
def shortb(ls:List RW):Bool:=ls.all short1
theorem Zxt {P:Program} {N:Nat} {sc:Nat→Prop} {M:Nat→Prop} {env:Kr} {H:Hp} {ops:Array Oper} {F:Kr→Hp→Prop} {rest:List (Nat×Nat)} {i:Nat} {o:Oper} {G:Type} {φ:G→Prop} {genv:G→Kr} {gH:G→Hp} {j e:Nat} {b:Bool} (ho:ops[i]? = some o) (hg:o.guard=some (j,b)) (hj:(ops[j]?).bind (·.dst)=some e) (he:lk env e=some (.bool b)) (heN:Nat.blt e N=true) (ht:T P N sc M o env H φ genv gH)
  (h:∀g,φ g→LD P N sc M ops F rest (genv g) (gH g)) :
  LD P N sc M ops F ((i,1) :: rest) env H:=r1g ht ho hg hj he heN h
theorem inI_bl{x:Int}(h:inI x):bl x.natAbs≤65536:=Zfy (l:=[x]) (fun y hy=>by rw [List.mem_singleton.1 hy];exact h) 0
theorem Bz{f:Nat→Int}{k:Nat} : ∀{n:Nat},k<n→(∀i,i<n→i≠k→f i=0)→Qr f n=f k
 | 0,hk,_=>absurd hk (Nat.not_lt_zero _)
 | n+1,hk,h=>by
  rw [Qq]
  by_cases e:k=n
  ·subst e
   rw [Fp fun i hi=>h i (by omega) (by omega),Int.zero_add]
  ·rw [h n (by omega) (fun x=>e x.symm),Bz (by omega) (fun i hi=>h i (by omega)),Int.add_zero]
theorem Am{p q:List Int}{a b:Nat}(ha:∀i,a<i→cf p i=0)(hb:∀i,b<i→cf q i=0):(ps p*ps q).c (a+b)=cf p a*cf q b:=by
 rw [PS.mul_c,Bz (k:=a) (by omega) fun i hi hne=>?_]
 ·rw [Md,Md,show a+b-a=b by omega]
 ·rw [Md,Md]
  rcases Nat.lt_or_ge a i with h | h
  ·rw [ha i h,Int.zero_mul]
  ·rw [hb (a+b-i) (by omega),Int.mul_zero]
theorem Zgr(s s':List Int)(c c':Int)(f:PS)(t:Nat):(ps (Zan (Xw s c) (Xw s' c'))*f).c t=c*(ps s*f).c t-c'*(ps s'*f).c t:=by
 rw [PS.mul_c,PS.mul_c,PS.mul_c,←Mq,Int.sub_eq_add_neg,←Int.neg_mul,←Mq,←Dr]
 refine Qh fun k _=>?_
 rw [Md,Md,Md,Hu,Qo,Qo]
 grind
theorem Zrb(f:PS)(q q':List Int)(u v:Int)(h:∀i,u*cf q i=v*cf q' i)(t:Nat):u*(f*ps q).c t=v*(f*ps q').c t:=by
 rw [PS.mul_c,PS.mul_c,←Mq,←Mq]
 refine Qh fun k _=>?_
 rw [Md,Md]
 have:=h (t-k)
 grind
theorem Zvs{q s r:List Int}(hq:Tr q)(hq0:q≠[])(h:∀t,(ps s*ps q).c t=cf r t)(hr:∀t,q.length-1≤t→cf r t=0):∀t,cf s t=0:=by
 have hlead:=hq.mem hq0
 have hlen:0<q.length:=List.length_pos_iff.2 hq0
 have hs:tzl s=[]:=by
  rcases Ziv (tzl s)with h1 | ⟨ys,y,h1⟩
  ·exact h1
  ·exfalso
   have ht:=Nr s
   have hne:tzl s≠[]:=by rw [h1];simp
   have h2:=ht.mem hne
   have h3:=Am (p:=tzl s) (q:=q) (a:=(tzl s).length-1) (b:=q.length-1) (fun i hi=>Qe (by omega)) (fun i hi=>Qe (by omega))
   have h4:ps (tzl s)=ps s:=PS.ext' fun i=>Km s i
   rw [h4,h,hr _ (by omega)]at h3
   rcases Int.mul_eq_zero.1 h3.symm with h5 | h5
   ·exact h2 h5
   ·exact hlead h5
 exact(Ij s).1 hs
theorem Kv{s:List Int}(h:∀t,cf s t=0)(f:PS)(t:Nat):(ps s*f).c t=0:=by
 rw [PS.mul_c]
 exact Fp fun k _=>by rw [Md,h,Int.zero_mul]
theorem Nz{p q:List Int}(hp:Tr p)(hq:Tr q)(h1:p≠[])(h2:q≠[]):(Ou p q).length=p.length+q.length-1:=by
 have l1:=List.length_pos_iff.2 h1
 have l2:=List.length_pos_iff.2 h2
 unfold Ou
 rw [Zbq,Qp]
 right
 rw [Qp,It,if_pos (by omega),show p.length+q.length-1-1=(p.length-1)+(q.length-1) by omega,Am (fun i hi=>Qe (by omega)) (fun i hi=>Qe (by omega))]
 exact Int.mul_ne_zero (hp.mem h1) (hq.mem h2)
def mono(s:Nat)(c:Int):List Int:=List.replicate s 0 ++ [c]
theorem Zjc(s:Nat)(c:Int)(i:Nat):cf (mono s c) i=if i=s then c else 0:=by
 unfold mono
 rw [Zek,List.length_replicate]
 split
 ·rw [if_neg (by omega)]
  unfold cf
  simp [List.getD_eq_getElem?_getD,List.getElem?_replicate]
  split<;>rfl
 ·rename_i h
  split
  ·rename_i h2;subst h2;simp [cf]
  ·exact Qe (by simp;omega)
theorem Zkn(s:Nat)(c:Int)(f:PS)(t:Nat):(ps (mono s c)*f).c t=if s≤t then c*f.c (t-s)else 0:=by
 rw [PS.mul_c]
 split
 ·rw [Bz (k:=s) (by omega) fun i _ hne=>by rw [Md,Zjc,if_neg hne,Int.zero_mul],Md,Zjc,if_pos rfl]
 ·exact Fp fun k hk=>by rw [Md,Zjc,if_neg (by omega),Int.zero_mul]
theorem Zho{p q:List Int}(hq:0<q.length)(hl:q.length≤p.length):∀j,j≤p.length-q.length+1→∃s:List Int,∀t,cf q (q.length-1)^j*cf p t=(ps s*ps q).c t+cf (Oe p q j) t
 | 0,_=>⟨[],fun t=>by rw [Kv (fun t=>Qe (Nat.zero_le _)),Int.pow_zero];unfold Oe;omega⟩
 | j+1,hj=>by
  obtain⟨s,ih⟩:=Zho hq hl j (by omega)
  refine⟨Zan (Xw s (cf q (q.length-1))) (Xw (mono (p.length-1-j-(q.length-1)) (cf (Oe p q j) (p.length-1-j))) (-1)),fun t=>?_⟩
  rw [Zgr,Zkn]
  have h0:=ih t
  show _=_+cf (Zer q (Oe p q j) (p.length-1-j)) t
  rw [Int.pow_succ]
  rcases Nat.lt_or_ge t p.length with h | h
  ·rw [Zg7 (by rw [Oz];exact h)]
   generalize p.length-1-j-(q.length-1)=sh
   generalize cf (Oe p q j) (p.length-1-j)=R
   generalize cf (Oe p q j) t=R' at h0 ⊢
   generalize (ps s*ps q).c t=X at h0 ⊢
   generalize cf q (q.length-1)^j=L at h0 ⊢
   generalize cf q (q.length-1)=l at h0 ⊢
   have e:L*l*cf p t=l*X+R'*l:=by rw [Int.mul_assoc,Int.mul_comm l,←Int.mul_assoc,h0];grind
   rw [e]
   by_cases h1:sh≤t
   ·rw [if_pos h1,Md]
    by_cases h2:t<sh+q.length
    ·rw [if_pos ⟨h1,h2⟩];omega
    ·rw [if_neg (by omega),Qe (p:=q) (i:=t-_) (by omega)];omega
   ·rw [if_neg h1,if_neg (by omega)];omega
  ·have z1:cf p t=0:=Qe h
   have z2:cf (Oe p q j) t=0:=Qe (by rw [Oz];exact h)
   have z3:cf (Zer q (Oe p q j) (p.length-1-j)) t=0:=Qe (by rw [Zgt,Oz];exact h)
   have z4:cf q (t-(p.length-1-j-(q.length-1)))=0:=Qe (by omega)
   rw [z1,z2,Int.mul_zero,Int.add_zero]at h0
   rw [z1,z3,if_pos (by omega),Md,z4,←h0];simp
theorem Cq(p:List Int){q:List Int}(hq:q≠[]):∃(k:Nat) (s:List Int),∀t,cf q (q.length-1)^k*cf p t=(ps s*ps q).c t+cf (Pr p q) t:=by
 have hq':0<q.length:=List.length_pos_iff.2 hq
 rcases Nat.lt_or_ge p.length q.length with h | h
 ·refine⟨0,[],fun t=>?_⟩
  rw [Kv (fun t=>Qe (Nat.zero_le _)),Int.pow_zero]
  unfold Pr;rw [if_pos h];omega
 ·obtain⟨s,hs⟩:=Zho hq' h _ (Nat.le_refl _)
  refine⟨p.length-q.length+1,s,fun t=>?_⟩
  rw [hs t]
  unfold Pr
  rw [if_neg (by omega),Km]
theorem Ov(p:List Int){q:List Int}(hq:q≠[]):(Pr p q).length<q.length:=by
 have hq':0<q.length:=List.length_pos_iff.2 hq
 unfold Pr
 split
 ·assumption
 ·have:=Zbr (p:=Oe p q (p.length-q.length+1)) (n:=q.length-1) fun i hi=>Ze9 hq' (by omega) _ (Nat.le_refl _) i (by omega)
  omega
theorem Il{p q:List Int}(hp:Tr p):Tr (Pr p q):=by
 unfold Pr;split
 ·exact hp
 ·exact Nr _
def Sim(a b:List Int):Prop:=∃m n:Int,m≠0∧n≠0∧∀i,m*cf a i=n*cf b i
theorem Sim.refl(a:List Int):Sim a a:=⟨1,1,by decide,by decide,fun _=>rfl⟩
theorem Sim.symm{a b:List Int} : Sim a b→Sim b a:=fun⟨m,n,hm,hn,h⟩=>⟨n,m,hn,hm,fun i=>(h i).symm⟩
theorem Sim.trans{a b c:List Int} : Sim a b→Sim b c→Sim a c:=fun⟨m,n,hm,hn,h⟩ ⟨u,v,hu,hv,k⟩=>
 ⟨m*u,n*v,Int.mul_ne_zero hm hu,Int.mul_ne_zero hn hv,fun i=>by have h1:=h i;have h2:=k i;grind⟩
theorem Sim.zero{a b:List Int}(h:Sim a b){i:Nat}(hi:cf a i=0):cf b i=0:=by
 obtain⟨m,n,hm,hn,h⟩:=h
 have:=h i
 rw [hi,Int.mul_zero]at this
 rcases Int.mul_eq_zero.1 this.symm with h | h
 ·exact absurd h hn
 ·exact h
theorem Sim.len_le{a b:List Int}(h:Sim a b)(hb:Tr b):b.length≤a.length:=by
 rcases Nat.lt_or_ge a.length b.length with hl | hl
 ·exfalso
  have hne:b≠[]:=List.length_pos_iff.1 (by omega)
  exact hb.mem hne (h.zero (Qe (by omega)))
 ·exact hl
theorem Sim.len{a b:List Int}(h:Sim a b)(ha:Tr a)(hb:Tr b):a.length=b.length:=Nat.le_antisymm (h.symm.len_le ha) (h.len_le hb)
theorem Sim.nil{a b:List Int}(h:Sim a b)(hb:Tr b)(ha:a=[]):b=[]:=by
 have:=h.len_le hb
 rw [ha]at this
 exact List.eq_nil_of_length_eq_zero (by simpa using this)
theorem Zxx{a b a' b':List Int}(ha:Tr a)(ha':Tr a')(hb:Tr b)(hb':Tr b')(h0:b≠[])(h1:Sim a a')(h2:Sim b b'):Sim (Pr a b) (Pr a' b'):=by
 have h0':b'≠[]:=fun e=>h0 (h2.symm.nil hb e)
 have hlen:=h2.len hb hb'
 obtain⟨k,s,hs⟩:=Cq a h0
 obtain⟨k',s',hs'⟩:=Cq a' h0'
 have hL:cf b (b.length-1)^k≠0:=La (hb.mem h0) k
 have hL':cf b' (b'.length-1)^k'≠0:=La (hb'.mem h0') k'
 generalize cf b (b.length-1)^k=L at hs hL
 generalize cf b' (b'.length-1)^k'=L' at hs' hL'
 obtain⟨m,n,hm,hn,e1⟩:=h1
 obtain⟨u,v,hu,hv,e2⟩:=h2
 have l1:=Ov a h0
 have l2:=Ov a' h0'
 have key:∀t,(ps (Zan (Xw s (L'*m*v)) (Xw s' (L*n*u)))*ps b').c t=cf (Zan (Xw (Pr a' b') (L*n*u)) (Xw (Pr a b) (L'*m*u))) t:=fun t=>by
  rw [Zgr,Hu,Qo,Qo]
  have a1:=hs t
  have a2:=hs' t
  have a3:=e1 t
  have a4:=Zrb (ps s) b b' u v e2 t
  generalize (ps s*ps b).c t=X at a1 a4
  generalize (ps s*ps b').c t=Y at a4
  generalize (ps s'*ps b').c t=Z at a2
  generalize cf a t=A at a1 a3
  generalize cf a' t=A' at a2 a3
  generalize cf (Pr a b) t=R at a1
  generalize cf (Pr a' b') t=R' at a2
  have:L'*m*v*Y=L'*m*u*X:=by grind
  grind
 have z:=Zvs hb' h0' key fun t ht=>by
  rw [Hu,Qo,Qo,Qe (p:=Pr a' b') (by omega),Qe (p:=Pr a b) (by omega)];omega
 refine⟨L'*m*u,L*n*u,by simp [*],by simp [*],fun t=>?_⟩
 have:=key t
 rw [Kv z,Hu,Qo,Qo]at this
 grind
theorem Zch(c:Int):∀(p:List Int) (g:Int),0≤g→(p.map (· * c)).foldl (fun g c=>(Int.gcd g c:Int)) (g*c.natAbs)=p.foldl (fun g c=>(Int.gcd g c:Int)) g*c.natAbs
 | [],g,_=>rfl
 | x :: p,g,hg=>by
  rw [List.map_cons,List.foldl_cons,List.foldl_cons,←Zch c p _ (by omega)]
  congr 1
  have:Int.gcd (g*(c.natAbs:Int)) (x*c)=Int.gcd g x*c.natAbs:=by
   unfold Int.gcd
   rw [Int.natAbs_mul,Int.natAbs_mul,Int.natAbs_natCast,Nat.gcd_mul_right]
  rw [this];push_cast;rfl
theorem Zhr(p:List Int)(c:Int):Ql (p.map (· * c))=Ql p*c.natAbs:=by
 have:=Zch c p 0 (Int.le_refl _)
 rw [Int.zero_mul]at this
 exact this
theorem Eh(p:List Int)(i:Nat):cf (Xf p) i*Ql p=cf p i:=by
 rw [Zbi];exact Int.ediv_mul_cancel (Kp p i)
theorem Zxy:Xf []=[]:=rfl
theorem Af{p:List Int}(h:Tr p)(h0:p≠[]):Ql p≠0:=fun e=>h.mem h0 ((Zc2 p).1 e _)
theorem Ir{p:List Int}(h:Tr p)(h0:p≠[]):Ql (Xf p)=1:=by
 have h1:=Af h h0
 have h2:=Zhr (Xf p) (Ql p)
 rw [show(Xf p).map (· * Ql p)=p from Hf (by rw [List.length_map,Xd]) fun i _=>by rw [Zhx _ _ (by simp)];exact Eh p i]at h2
 have h3:=Lt p
 have h4:Ql p*(Ql (Xf p)-1)=0:=by
  rw [Int.mul_sub,Int.mul_one,Int.mul_comm]
  have:((Ql p).natAbs:Int)=Ql p:=by omega
  rw [this]at h2;omega
 rcases Int.mul_eq_zero.1 h4 with h5 | h5<;>omega
theorem Zgi{p:List Int}(h:Ql p=1):Xf p=p:=Hf (Xd p) fun i _=>by rw [Zbi,h,Int.ediv_one]
theorem Ad{p:List Int}(h:Tr p):Xf (Xf p)=Xf p:=by
 by_cases h0:p=[]
 ·subst h0;rfl
 ·exact Zgi (Ir h h0)
theorem Py{p:List Int}(h:Tr p):Sim (Xf p) p:=by
 by_cases h0:p=[]
 ·subst h0;exact Sim.refl _
 ·exact⟨Ql p,1,Af h h0,by decide,fun i=>by rw [Int.one_mul,Int.mul_comm];exact Eh p i⟩
def Qj(p:List Int):List Int:=Kn (Xf p)
theorem Zjy{x y:List Int}(hx:Tr x)(hy:Tr y)(h0:x≠[])(h1:Ql x=1)(h2:Ql y=1)(h:Sim x y):x=y∨∀i,cf x i=- cf y i:=by
 have hl:=h.len hx hy
 obtain⟨m,n,hm,hn,e⟩:=h
 have h3:=Zhr x m
 have h4:=Zhr y n
 rw [show x.map (· * m)=y.map (· * n)from Hf (by simp [hl]) fun i _=>by
  rw [Zhx _ _ (by simp),Zhx _ _ (by simp),Int.mul_comm,Int.mul_comm (cf y i)];exact e i,h4,h1,h2]at h3
 have h5:m=n∨m=-n:=by omega
 rcases h5 with rfl | rfl
 ·exact .inl (Hf hl fun i _=>Int.eq_of_mul_eq_mul_left hm (e i))
 ·exact .inr fun i=>Int.eq_of_mul_eq_mul_left hn (by have:=e i;grind)
theorem Dg(g:List Int)(i:Nat):cf (Kn g) i=if g.length≠0∧cf g (g.length-1)<0 then-cf g i else cf g i:=by
 unfold Kn;split
 ·rw [Qo];omega
 ·rfl
theorem Mp{g:List Int}(h:Tr g):Tr (Kn g):=by
 unfold Kn;split
 ·exact Oh _ _
 ·exact h
theorem Hy(g:List Int):Sim (Kn g) g:=by
 by_cases h:g.length≠0∧cf g (g.length-1)<0
 ·exact⟨-1,1,by decide,by decide,fun i=>by rw [Dg,if_pos h];omega⟩
 ·exact⟨1,1,by decide,by decide,fun i=>by rw [Dg,if_neg h]⟩
theorem Zos{a b:List Int}(ha:Tr a)(hb:Tr b)(h:Sim a b):Qj a=Qj b:=by
 by_cases h0:a=[]
 ·rw [h.nil hb h0,h0]
 ·have h0':b≠[]:=fun e=>h0 (h.symm.nil ha e)
  have hs:Sim (Xf a) (Xf b):=(Py ha).trans (h.trans (Py hb).symm)
  have hx:=Qf ha
  have hy:=Qf hb
  have hl:=hs.len hx hy
  have hx0:Xf a≠[]:=fun e=>h0 (List.eq_nil_of_length_eq_zero (by rw [←Xd,e];rfl))
  rcases Zjy hx hy hx0 (Ir ha h0) (Ir hb h0') hs with e | e
  ·unfold Qj;rw [e]
  ·unfold Qj
   refine(Mp hx).ext (Mp hy) fun i=>?_
   rw [Dg,Dg,←hl,e i,e ((Xf a).length-1)]
   have hne:cf (Xf b) ((Xf a).length-1)≠0:=by rw [hl];exact hy.mem (fun e2=>hx0 (List.eq_nil_of_length_eq_zero (by rw [hl,e2];rfl)))
   have hl0:(Xf a).length≠0:=fun e2=>hx0 (List.eq_nil_of_length_eq_zero e2)
   by_cases h3:cf (Xf b) ((Xf a).length-1)<0
   ·rw [if_neg (by omega),if_pos ⟨hl0,h3⟩]
   ·rw [if_pos (by omega),if_neg (by omega)];omega
theorem Ztu:∀(f:Nat) {a b a' b':List Int},Tr a→Tr a'→Tr b→Tr b'→Sim a a'→Sim b b'→Sim (eu f a b) (eu f a' b')
 | 0,_,_,_,_,_,_,_,_,h,_=>h
 | f+1,a,b,a',b',ha,ha',hb,hb',h1,h2=>by
  unfold eu
  by_cases h0:b=[]
  ·rw [if_pos h0,if_pos (h2.nil hb' h0)];exact h1
  ·rw [if_neg h0,if_neg (fun e=>h0 (h2.symm.nil hb e))]
   have t1:=Il (q:=b) ha
   have t2:=Il (q:=b') ha'
   exact Ztu f hb hb' (Qf t1) (Qf t2) h2 ((Py t1).trans ((Zxx ha ha' hb hb' h0 h1 h2).trans (Py t2).symm))
theorem Zk4:∀(f:Nat) {a b:List Int},Tr a→Tr b→Tr (eu f a b)
 | 0,_,_,h,_=>h
 | f+1,a,b,ha,hb=>by
  unfold eu
  split
  ·exact ha
  ·exact Zk4 f hb (Qf (Il ha))
theorem Zgy:∀(f k:Nat) {a b:List Int},eok f a b→eu (f+k) a b=eu f a b
 | 0,k,a,b,h=>by rw [show b=[]from h,Dz,Dz]
 | f+1,k,a,b,h=>by
  rcases h with h | h
  ·rw [h,Dz,Dz]
  ·by_cases h0:b=[]
   ·rw [h0,Dz,Dz]
   ·rw [show f+1+k=f+k+1 by omega]
    unfold eu
    rw [if_neg h0,if_neg h0]
    exact Zgy f k h.2
theorem Zv5:∀(f:Nat) {a b:List Int},Tr a→Tr b→Xf a=a→Xf b=b→Xf (eu f a b)=eu f a b
 | 0,_,_,_,_,h,_=>h
 | f+1,a,b,ha,hb,h1,h2=>by
  unfold eu
  split
  ·exact h1
  ·exact Zv5 f hb (Qf (Il ha)) h2 (Ad (Il ha))
theorem Zh2{p q:List Int}(hp:Tr p)(hq:Tr q):Tr (gA p q):=by unfold gA;split<;>exact Qf ‹_›
theorem Zh1{p q:List Int}(hp:Tr p)(hq:Tr q):Tr (gB p q):=by unfold gB;split<;>exact Qf ‹_›
theorem Zq4{F:Nat}{p q:List Int}(hp:Tr p)(hq:Tr q):Ms F p q=Qj (eu F (gA p q) (gB p q)):=by
 unfold Ms Qj
 rw [Zv5 F (Zh2 hp hq) (Zh1 hp hq)]
 ·unfold gA;split
  ·exact Ad hq
  ·exact Ad hp
 ·unfold gB;split
  ·exact Ad hp
  ·exact Ad hq
theorem Ye3{F G:Nat}{p q:List Int}(hp:Tr p)(hq:Tr q)(h1:eok F p q)(h2:eok G (gA p q) (gB p q)):Kn (Xf (eu F p q))=Ms G p q:=by
 rw [Zq4 hp hq]
 show Qj (eu F p q)=_
 rw [←Zgy F (G+1) h1,←Zgy G F h2]
 refine Zos (Zk4 _ hp hq) (Zk4 _ (Zh2 hp hq) (Zh1 hp hq)) ?_
 rcases Nat.lt_or_ge p.length q.length with h | h
 ·rw [show gA p q=Xf q from if_pos h,show gB p q=Xf p from if_pos h]
  rw [show F+(G+1)=F+G+1 by omega,show G+F=F+G by omega]
  have h0:q≠[]:=List.length_pos_iff.1 (by omega)
  have:eu (F+G+1) p q=eu (F+G) q (Xf p):=by
   conv=>lhs;unfold eu
   rw [if_neg h0,show Pr p q=p from if_pos h]
  rw [this]
  exact Ztu _ hq (Qf hq) (Qf hp) (Qf hp) (Py hq).symm (Sim.refl _)
 ·rw [show gA p q=Xf p from if_neg (by omega),show gB p q=Xf q from if_neg (by omega)]
  have h3:eu (F+(G+1)) p q=eu (F+G) p q:=by rw [Zgy F (G+1) h1,Zgy F G h1]
  rw [h3,show G+F=F+G by omega]
  exact Ztu _ hp (Qf hp) hq (Qf hq) (Py hp).symm (Py hq).symm
def chk:Nat→Nat→Nat→Nat→Nat→Bool
 | 0,_,lb,_,_=>Nat.beq lb 0
 | f+1,la,lb,A,B=>Nat.beq lb 0 || (bif Nat.blt la lb then chk f lb la B A else
   Nat.ble (A+(la-lb+1)*B) 65537 && (List.range lb).all fun l=>chk f lb l B (bif Nat.ble l 1 then 2 else A+(la-lb+1)*B))
theorem Ztp(p:List Int)(x y z:Int):(Zap p x y z).length≤p.length:=by
 unfold Zap
 split
 ·exact Nat.zero_le _
 ·refine Nat.le_trans (Hc _) ?_
  rw [Zc7];omega
theorem Zrh(x y:Int):Kw x y∣x:=by
 unfold Kw;split
 ·exact Int.neg_dvd.2 (Int.gcd_dvd_left ..)
 ·exact Int.gcd_dvd_left ..
theorem Zkq(x y:Int):Kw x y∣y:=by
 unfold Kw;split
 ·exact Int.neg_dvd.2 (Int.gcd_dvd_right ..)
 ·exact Int.gcd_dvd_right ..
def s8(l:List Int):Prop:=∀x∈l,(Xp x.natAbs).size≤8
abbrev Z0:SL×List Int:=((none,0,0),[])
theorem vp_eu:∀(f:Nat) {a b:List Int},Vp a→Vp b→eok f a b→Vp (eu f a b)
 | 0,_,_,h,_,_=>h
 | f+1,a,b,ha,hb,h=>by
  unfold eu
  split
  ·exact ha
  ·rcases h with h | h
   ·contradiction
   ·exact vp_eu f hb (Ii (Zau ha h.1)) h.2
theorem Zy1{g:List Int}(h:Vp g):Vp (Kn g):=by
 unfold Kn
 split
 ·refine⟨fun i=>by rw [Qo];exact Zcb h.sz i,Oh _ _,Nat.le_trans (Hq _ _) h.len⟩
 ·exact h
theorem Zuf{F:Nat}{p q:List Int}(hp:Vp p)(hq:Vp q)(h:eok F (gA p q) (gB p q)):Vp (Ms F p q):=Zy1 (vp_eu F (vp_gA hp hq) (vp_gB hp hq) h)
def pevn(p:List Int)(x y:Int)(n:Nat):Int:=Qr (fun i=>cf p i*(x^i*y^(n-1-i))) n
def dn(p:List Int)(y:Int):Int:=y^(p.length-1)
theorem Yaw{p q:List Int}(hp:Tr p)(hq:Tr q)(h1:p≠[])(h2:q≠[])(x y:Int):pev (Ou p q) x y=pev p x y*pev q x y:=by
 have l1:=List.length_pos_iff.2 h1
 have l2:=List.length_pos_iff.2 h2
 unfold pev
 rw [Nz hp hq h1 h2]
 obtain⟨Fk,hF⟩:∃Fk:Nat→Nat→Int,∀k j,Fk k j=cf p k*cf q j*(x^(k+j)*y^(p.length+q.length-1-1-(k+j))):=⟨_,fun _ _=>rfl⟩
 have e1:Qr (fun i=>cf (Ou p q) i*(x^i*y^(p.length+q.length-1-1-i))) (p.length+q.length-1)=Qr (fun i=>Qr (fun k=>Fk k (i-k)) (i+1)) (p.length+q.length-1):=by
  refine Qh fun i _=>?_
  rw [Gx,PS.mul_c,←Zbv]
  exact Qh fun k hk=>by
   rw [hF,show k+(i-k)=i by omega];rfl
 rw [e1,Zhk,Zdw (m:=p.length) (by omega) fun k h1 h2=>Fp fun j _=>by rw [hF,Qe h1,Int.zero_mul,Int.zero_mul],←Zbv]
 refine Qh fun k hk=>?_
 rw [Zdw (m:=q.length) (by omega) fun j h1 h2=>by rw [hF,Qe h1,Int.mul_zero,Int.zero_mul],←Mq]
 refine Qh fun j hj=>?_
 rw [hF,Int.pow_add,show p.length+q.length-1-1-(k+j)=(p.length-1-k)+(q.length-1-j) by omega,Int.pow_add]
 generalize x^k=a;generalize x^j=b;generalize y^(p.length-1-k)=c;generalize y^(q.length-1-j)=d
 grind
theorem Fw(q:List Int):Ou [] q=[]:=Za4 (.inl rfl)
theorem Zfc(p:List Int):Ou p []=[]:=Za4 (.inr rfl)
theorem Ybs(N D:Int):N/Kw N D*D=N*(D/Kw N D):=by
 have h1:=Int.ediv_mul_cancel (Zrh N D)
 have h2:=Int.ediv_mul_cancel (Zkq N D)
 generalize N/Kw N D=n at *
 generalize D/Kw N D=d at *
 generalize Kw N D=g at *
 subst h1 h2
 grind
theorem Zyc{N D:Int}(h:0<D):0<D/Kw N D:=by
 have h1:Kw N D=(Int.gcd N D:Int):=if_neg (by omega)
 have h2:=Int.ediv_mul_cancel (Zkq N D)
 rw [h1]at h2 ⊢
 generalize D/(Int.gcd N D:Int)=d at *
 rcases Int.lt_or_le 0 d with h3 | h3
 ·exact h3
 ·exfalso
  have:d*(Int.gcd N D:Int)≤0:=Int.mul_nonpos_of_nonpos_of_nonneg h3 (by omega)
  omega
section
variable {p q:List Int}
theorem Zfj(hp:Tr p)(hq:Tr q)(h1:p≠[])(h2:q≠[]):∀j,j≤p.length→∀t,cf (Qy (Ou p q) q j) t=(ps (p.take (p.length-j))*ps q).c t
 | 0,_,t=>by
  rw [Nat.sub_zero,List.take_length];exact Gx p q t
 | j+1,hj,t=>by
  have ih:=Zfj hp hq h1 h2 j (by omega)
  have l1:=List.length_pos_iff.2 h1
  have l2:=List.length_pos_iff.2 h2
  have hl:=Nz hp hq h1 h2
  have e0:Qy (Ou p q) q (j+1)=Zew q (Qy (Ou p q) q j) (p.length-1-j):=by
   show Zew q _ _=_;rw [hl];congr 1;omega
  have hq0:=hq.mem h2
  have htop:cf (Qy (Ou p q) q j) (p.length-1-j+q.length-1)=cf p (p.length-1-j)*cf q (q.length-1):=by
   rw [ih,show p.length-1-j+q.length-1=(p.length-1-j)+(q.length-1) by omega,Am (fun i hi=>by rw [De,if_neg (by omega)]) (fun i hi=>Qe (by omega)),De,if_pos (by omega)]
  have hdq:dq q (Qy (Ou p q) q j) (p.length-1-j)=cf p (p.length-1-j):=by
   unfold dq;rw [htop];exact Int.mul_ediv_cancel _ hq0
  have e1:(ps (p.take (p.length-j))*ps q).c t=(ps (p.take (p.length-(j+1)))*ps q).c t+(ps (mono (p.length-1-j) (cf p (p.length-1-j)))*ps q).c t:=by
   rw [PS.mul_c,PS.mul_c,PS.mul_c,←Dr]
   refine Qh fun k _=>?_
   rw [Md,Md,Md,Md,De,De,Zjc]
   by_cases a1:k=p.length-1-j
   ·rw [if_pos (by omega),if_neg (by omega),if_pos a1,←a1];omega
   ·rw [if_neg a1]
    by_cases a2:k<p.length-j
    ·rw [if_pos a2,if_pos (by omega)];omega
    ·rw [if_neg a2,if_neg (by omega)];omega
  rw [e0]
  unfold Zew
  rw [It,Fm,hl,hdq,ih,e1,Zkn,Md]
  by_cases b1:t<p.length+q.length-1
  ·rw [if_pos b1]
   by_cases b2:p.length-1-j≤t
   ·rw [if_pos b2]
    by_cases b3:t<p.length-1-j+q.length
    ·rw [if_pos ⟨b2,b3⟩];omega
    ·rw [if_neg (by omega),Qe (p:=q) (by omega)];omega
   ·rw [if_neg b2,if_neg (by omega)];omega
  ·rw [if_neg b1,PS.mul_c]
   refine(Fp fun k _=>?_).symm
   rw [Md,Md,De]
   split
   ·rw [Qe (p:=q) (by omega),Int.mul_zero]
   ·rw [Int.zero_mul]
theorem Zol(hp:Tr p)(hq:Tr q)(h2:q≠[]):pdv (Ou p q) q∧Kt (Ou p q) q=p:=by
 by_cases h1:p=[]
 ·subst h1;rw [Fw];exact⟨.inl rfl,rfl⟩
 have l1:=List.length_pos_iff.2 h1
 have l2:=List.length_pos_iff.2 h2
 have hl:=Nz hp hq h1 h2
 have hq0:=hq.mem h2
 have hd:∀k,k≤p.length-1→cf (Qy (Ou p q) q (p.length-1-k)) (k+q.length-1)=cf p k*cf q (q.length-1):=fun k hk=>by
  rw [Zfj hp hq h1 h2 _ (by omega),show k+q.length-1=k+(q.length-1) by omega,Am (fun i hi=>by rw [De,if_neg (by omega)]) (fun i hi=>Qe (by omega)),De,if_pos (by omega)]
 have hn:(Ou p q).length-q.length=p.length-1:=by omega
 have hne:Ou p q≠[]:=List.length_pos_iff.1 (by omega)
 refine⟨.inr ⟨by omega,fun k hk=>?_,?_⟩,?_⟩
 ·unfold Ln;rw [hn]at hk ⊢;rw [hd k hk];exact Int.mul_emod_left _ _
 ·rw [hn,show p.length-1+1=p.length by omega]
  refine(Ij _).2 fun i=>?_
  rw [Zfj hp hq h1 h2 _ (Nat.le_refl _),Nat.sub_self,List.take_zero]
  exact Kv (fun t=>Qe (Nat.zero_le _)) _ _
 ·rw [Zka hne]
  unfold Yao
  rw [hn,show p.length-1+1=p.length by omega,Gl (g:=cf p) fun k hk=>?_,Zi5,Zbq hp]
  unfold Zr9 dq
  rw [hn,hd k (by omega)]
  exact Int.mul_ediv_cancel _ hq0
end
def Dv(g a:List Int):Prop:=∃(k:Int) (s:List Int),k≠0∧∀t,k*cf a t=(ps s*ps g).c t
theorem Zq6(f:PS)(t:Nat):(ps [1]*f).c t=f.c t:=by
 rw [PS.mul_c,Bz (k:=0) (by omega) fun i _ hne=>by rw [Md,Qe (p:=[1]) (by simp;omega),Int.zero_mul],Md,show cf [1] 0=1 from rfl,Int.one_mul,Nat.sub_zero]
theorem Dv.refl(a:List Int):Dv a a:=⟨1,[1],by decide,fun t=>by rw [Zq6,Int.one_mul,Md]⟩
theorem Dv.nil(g:List Int):Dv g []:=⟨1,[],by decide,fun t=>by rw [Kv (fun t=>Qe (Nat.zero_le _)),Qe (Nat.zero_le _)];rfl⟩
theorem Dv.sim{g a b:List Int} : Dv g a→Sim a b→Dv g b:=fun⟨k,s,hk,h⟩ ⟨m,n,hm,hn,e⟩=>
 ⟨k*n,Xw s m,Int.mul_ne_zero hk hn,fun t=>by
  rw [PS.mul_c,show(fun i=>(ps (Xw s m)).c i*(ps g).c (t-i))=fun i=>m*((ps s).c i*(ps g).c (t-i))from funext fun i=>by rw [Md,Md,Md,Qo];grind,Mq,←PS.mul_c,←h,Int.mul_assoc,←e];grind⟩
theorem Dv.lin{g a b c:List Int}(ha:Dv g a)(hb:Dv g b)(s:List Int)(L:Int)(hL:L≠0)(h:∀t,L*cf c t=(ps s*ps a).c t+cf b t):Dv g c:=by
 obtain⟨k,u,hk,h1⟩:=ha
 obtain⟨m,v,hm,h2⟩:=hb
 refine⟨L*(k*m),Zfd (Xw (Ou s u) m) (Xw v k),Int.mul_ne_zero hL (Int.mul_ne_zero hk hm),fun t=>?_⟩
 have e1:ps g=ps g:=rfl
 have e2:k*(ps s*ps a).c t=(ps (Ou s u)*ps g).c t:=by
  rw [Zvg,PS.mul_assoc',PS.mul_c,PS.mul_c,←Mq]
  refine Qh fun i _=>?_
  rw [←h1,Md,Md];grind
 have e3:(ps (Zfd (Xw (Ou s u) m) (Xw v k))*ps g).c t=m*(ps (Ou s u)*ps g).c t+k*(ps v*ps g).c t:=by
  rw [PS.mul_c,PS.mul_c,PS.mul_c,←Mq,←Mq,←Dr]
  refine Qh fun i _=>?_
  rw [Md,Md,Md,Md,Zjb,Qo,Qo];grind
 have h0:=h t
 have h3:=h2 t
 rw [e3,←e2,←h3]
 generalize (ps s*ps a).c t=X at *
 generalize cf c t=C at *
 generalize cf b t=B at *
 have:L*(k*m)*C=k*m*(L*C):=by grind
 rw [this,h0];grind
theorem eu_dv:∀(f:Nat) {a b:List Int},Tr a→Tr b→eok f a b→Dv (eu f a b) a∧Dv (eu f a b) b
 | 0,a,b,ha,hb,h=>by rw [show b=[]from h];exact⟨Dv.refl _,Dv.nil _⟩
 | f+1,a,b,ha,hb,h=>by
  by_cases h0:b=[]
  ·subst h0;rw [Dz];exact⟨Dv.refl _,Dv.nil _⟩
  ·rcases h with h | h
   ·exact absurd h h0
   ·have e:eu (f+1) a b=eu f b (Xf (Pr a b)):=by
     conv=>lhs;unfold eu
     rw [if_neg h0]
    rw [e]
    have t1:=Il (q:=b) ha
    obtain⟨d1,d2⟩:=eu_dv f hb (Qf t1) h.2
    obtain⟨k,s,hs⟩:=Cq a h0
    exact⟨d1.lin (d2.sim (Py t1)) s _ (La (hb.mem h0) k) hs,d1⟩
theorem Dv.of_sim{g g' a:List Int} : Dv g a→Sim g g'→Dv g' a:=fun⟨k,s,hk,h⟩ ⟨m,n,hm,hn,e⟩=>
 ⟨m*k,Xw s n,Int.mul_ne_zero hm hk,fun t=>by
  rw [Int.mul_assoc,h,PS.mul_c,PS.mul_c,←Mq]
  refine Qh fun i _=>?_
  rw [Md,Md,Md,Md,Qo]
  have:=e (t-i)
  grind⟩
theorem Dv.zero{a:List Int}(ha:Tr a)(h:Dv [] a):a=[]:=by
 obtain⟨k,s,hk,h⟩:=h
 rw [←Zbq ha,Ij]
 intro i
 have h1:=h i
 rw [PS.mul_comm',Kv (fun t=>Qe (Nat.zero_le _))]at h1
 rcases Int.mul_eq_zero.1 h1 with h2 | h2
 ·exact absurd h2 hk
 ·exact h2
theorem Zd6{F:Nat}{p q:List Int}(hp:Tr p)(hq:Tr q)(h:eok F (gA p q) (gB p q)):Dv (Ms F p q) p∧Dv (Ms F p q) q:=by
 have hA:=Zh2 hp hq
 have hB:=Zh1 hp hq
 obtain⟨h1,h2⟩:=eu_dv F hA hB h
 have hs:Sim (eu F (gA p q) (gB p q)) (Ms F p q):=(Hy _).symm
 have h1:=h1.of_sim hs
 have h2:=h2.of_sim hs
 by_cases hl:p.length<q.length
 ·rw [show gA p q=Xf q from if_pos hl]at h1
  rw [show gB p q=Xf p from if_pos hl]at h2
  exact⟨h2.sim (Py hp),h1.sim (Py hq)⟩
 ·rw [show gA p q=Xf p from if_neg hl]at h1
  rw [show gB p q=Xf q from if_neg hl]at h2
  exact⟨h1.sim (Py hp),h2.sim (Py hq)⟩
theorem Zdt{F:Nat}{p q:List Int}(hp:Tr p)(hq:Tr q):Tr (Ms F p q):=Mp (Zk4 F (Zh2 hp hq) (Zh1 hp hq))
theorem Ze8(p:List Int){c:Int}(h:c≠0):Sim p (Xw p c):=⟨c,1,h,by decide,fun i=>by rw [Qo];grind⟩
def fin8(la A:Nat):Bool:=Nat.ble la 2 || Nat.ble (64+(9-la)*A) 65536
def chk2:Nat→Nat→Nat→Nat→Nat→Bool
 | 0,la,_,A,_=>fin8 la A
 | f+1,la,lb,A,B=>bif Nat.beq lb 0 then fin8 la A else bif Nat.blt la lb then chk2 f lb la B A else
   (List.range lb).all fun l=>chk2 f lb l B (bif Nat.ble l 1 then 2 else A+(la-lb+1)*B)
theorem Zb5{g:List Int}(h:Tr g):(Kn g).length=g.length:=(Hy g).len (Mp h) h
theorem Zib(g:List Int):Ql (Kn g)=Ql g:=by
 have d1:Ql (Kn g)∣Ql g:=El fun i=>by
  have h:=Kp (Kn g) i
  rw [Dg]at h
  split at h
  ·exact Int.dvd_neg.1 h
  ·exact h
 have d2:Ql g∣Ql (Kn g):=El fun i=>by
  rw [Dg];split
  ·exact Int.dvd_neg.2 (Kp g i)
  ·exact Kp g i
 exact Int.dvd_antisymm (Lt _) (Lt _) d1 d2
theorem Zkg{F:Nat}{p q:List Int}(hp:Tr p)(hq:Tr q)(h0:Ms F p q≠[]):Ql (Ms F p q)=1:=by
 rw [Zq4 hp hq]at h0 ⊢
 unfold Qj at h0 ⊢
 rw [Zib]
 refine Ir (Zk4 F (Zh2 hp hq) (Zh1 hp hq)) fun e=>h0 ?_
 rw [e];rfl
end Go.Sky
namespace Go.Sky
def Zax(xs:List Int):Prop:=xs.length=0∨(xs.length+2)*(xs.length+2)*(Pi xs+16)≤65536
instance (xs:List Int):Decidable (Zax xs):=by unfold Zax;infer_instance
def sqf(F:Nat)(xs:List Int):List Int:=Kt (Qj xs) (Ms F (Qj xs) (Qi (Qj xs)))
def Ydp(F:Nat)(xs:List Int):Prop:=(∀i,i<xs.length→bl (cf (Qj xs) (i+1)*((i:Int)+1)).natAbs≤65536)∧¬Zm2 (Qj xs) (Qi (Qj xs))∧eok F (gA (Qj xs) (Qi (Qj xs))) (gB (Qj xs) (Qi (Qj xs)))∧
 Bp (Qj xs) (Ms F (Qj xs) (Qi (Qj xs)))=0∧pdv (Qj xs) (Ms F (Qj xs) (Qi (Qj xs)))
def Le(x y:List Int):List Int:=if cf y (y.length-1)<0∧(x.length-y.length+1)%2=1 then Xf (Pr x y)else Xw (Xf (Pr x y)) (-1)
def cok:Nat→List Int→List Int→Prop
 | 0,_,y=>y=[]
 | f+1,x,y=>y=[]∨(Bp x y=0∧y.length≤x.length∧cok f y (Le x y))
def Li:Nat→List Int→List Int→List (List Int)
 | 0,x,_=>[x]
 | f+1,x,y=>if y=[]then [x]else x :: Li f y (Le x y)
theorem Dt(f:Nat)(x:List Int):Li f x []=[x]:=by cases f<;>rfl
theorem Zg6{f:Nat}{a b:List Int}(h:cok f a b)(hb:b≠[]):∃g,f=g+1∧Bp a b=0∧b.length≤a.length∧cok g b (Le a b)∧Li f a b=a :: Li g b (Le a b):=by
 cases f with
 | zero=>exact absurd h hb
 | succ g=>
  rcases h with h | h
  ·exact absurd h hb
  ·exact⟨g,rfl,h.1,h.2.1,h.2.2,by show(if b=[]then [a]else _)=_;rw [if_neg hb]⟩
def chn(F:Nat)(xs:List Int):List (List Int):=Li F (sqf F xs) (Xf (Qi (sqf F xs)))
def Ar(F:Nat)(xs:List Int):Prop:=Ydp F xs∧(∀i,i<xs.length→bl (cf (sqf F xs) (i+1)*((i:Int)+1)).natAbs≤65536)∧cok F (sqf F xs) (Xf (Qi (sqf F xs)))
theorem Zsr{p:List Int}(h:Vp p):Vp (Qj p):=by
 unfold Qj
 have h1:=Ii h
 refine⟨fun i=>?_,Mp h1.tr,by rw [Zb5 h1.tr];exact h1.len⟩
 rw [Dg];split
 ·rw [Int.natAbs_neg];exact h1.sz i
 ·exact h1.sz i
theorem Ng{p:List Int}(h:Tr p):(Qj p).length=p.length:=by unfold Qj;rw [Zb5 (Qf h),Xd]
theorem Zjn{x y:List Int}(hx:Vp x)(hd:Bp x y=0):Vp (Le x y):=by
 have h:=Ii (Zau hx hd)
 unfold Le
 split
 ·exact h
 ·exact⟨fun i=>by rw [Qo];exact Zcb h.sz i,Oh _ _,Nat.le_trans (Hq _ _) h.len⟩
def Mu(s:Int×Int)(x:Int):Int×Int:=if x=0 then s else(if x=-s.2 then s.1+1 else s.1,x)
def chg(l:List Int):Int:=(l.foldl Mu (0,0)).1
theorem Zb7{α β:Type}(f:α→β→α)(a:α)(l:List β)(x:β):(l ++ [x]).foldl f a=f (l.foldl f a) x:=by simp
theorem chg1_n(s:Int×Int)(x:Int):(Mu s x).1=s.1∨(Mu s x).1=s.1+1:=by
 unfold Mu;split
 ·exact .inl rfl
 ·dsimp only;split
  ·exact .inr rfl
  ·exact .inl rfl
def sgs(ls:List (List Int))(x y:Int):List Int:=ls.map fun p=>(pev p x y).sign
def sgr(ls:List (List Int)):List Int:=ls.map fun p=>(cf p (p.length-1)).sign
def sgl(ls:List (List Int)):List Int:=ls.map fun p=>if p.length%2=0 then-(cf p (p.length-1)).sign else(cf p (p.length-1)).sign
def smost(xs:List Int):Nat:=(xs.take (xs.length-1)).foldl (fun m c=>max m c.natAbs) 0
def sbound(xs:List Int):Int:=((smost xs/(cf xs (xs.length-1)).natAbs:Nat):Int)+2
def Zt2(xs:List Int):Int:=if xs.length=0 then 3 else if Zax xs then 0 else 7
def ef(z:Int×Int):Bool:=decide (512<bl z.1.natAbs) || decide (512<bl z.2.natAbs)
def chk2r(xs:List Int)(x y x2 y2:Int):Int:=if xs.length=0 then 3 else if 0<x*y2-x2*y then 3 else if Zax xs∧ef (x,y)=false∧ef (x2,y2)=false then 0 else 7
theorem Yfy{xs:List Int}(h0:xs≠[])(h:Zax xs):Zt2 xs=0:=by
 unfold Zt2
 rw [if_neg (fun e=>h0 (List.eq_nil_of_length_eq_zero e)),if_pos h]
theorem Zi3{xs:List Int}(h:¬cf (Xf xs) ((Xf xs).length-1)<0):Qj xs=Xf xs:=by
 unfold Qj Kn;rw [if_neg (by omega)]
theorem Zi4{xs:List Int}(h0:(Xf xs).length≠0)(h:cf (Xf xs) ((Xf xs).length-1)<0):Qj xs=Xw (Xf xs) (-1):=by
 unfold Qj Kn;rw [if_pos ⟨h0,h⟩]
theorem Zfh{P:Nat→Prop} : ∀n,P n→∃m,P m∧∀k,k<m→¬P k:=by
 intro n
 induction n using Nat.strongRecOn with
 | _ n ih=>
  intro h
  by_cases hx:∃k,k<n∧P k
  ·obtain⟨k,hk,hf⟩:=hx;exact ih k hk hf
  ·exact⟨n,h,fun k hk hf=>hx ⟨k,hk,hf⟩⟩
theorem Zye{n:Nat}(h:2≤n):∃p,2≤p∧p∣n∧∀d,2≤d→d∣n→p≤d:=by
 obtain⟨p,⟨h1,h2⟩,h3⟩:=Zfh (P:=fun d=>2≤d∧d∣n) n ⟨h,Nat.dvd_refl n⟩
 exact⟨p,h1,h2,fun d hd hdn=>by
  rcases Nat.lt_or_ge d p with h4 | h4
  ·exact absurd ⟨hd,hdn⟩ (h3 d h4)
  ·exact h4⟩
theorem Zrm{n p:Nat}(h1:2≤p)(h2:p∣n)(h3:∀d,2≤d→d∣n→p≤d)(hn:0<n){x y:Int}(h:(p:Int)∣x*y):(p:Int)∣x∨(p:Int)∣y:=by
 by_cases hx:(p:Int)∣x
 ·exact .inl hx
 ·right
  have hg:Nat.gcd p x.natAbs=1:=by
   have hd:=Nat.gcd_dvd_left p x.natAbs
   have h0:0<Nat.gcd p x.natAbs:=Nat.gcd_pos_of_pos_left _ (by omega)
   rcases Nat.lt_or_ge (Nat.gcd p x.natAbs) 2 with h4 | h4
   ·omega
   ·have h5:=h3 _ h4 (Nat.dvd_trans hd h2)
    have h6:=Nat.le_of_dvd (by omega) hd
    exfalso
    refine hx (Int.natAbs_dvd_natAbs.1 ?_)
    rw [Int.natAbs_natCast]
    have h7:Nat.gcd p x.natAbs=p:=by omega
    rw [←h7];exact Nat.gcd_dvd_right _ _
  have h8:=Int.natAbs_dvd_natAbs.2 h
  rw [Int.natAbs_natCast,Int.natAbs_mul]at h8
  refine Int.natAbs_dvd_natAbs.1 ?_
  rw [Int.natAbs_natCast]
  exact(show Nat.Coprime p x.natAbs from hg).dvd_of_dvd_mul_left h8
theorem gauss{g a:List Int}(hg:Ql g=1):∀(n:Nat) (k:Int) (s:List Int),k.natAbs=n→k≠0→(∀t,k*cf a t=(ps s*ps g).c t)→∃q:List Int,∀t,cf a t=(ps q*ps g).c t:=by
 intro n
 induction n using Nat.strongRecOn with
 | _ n ih=>
  intro k s hkn hk h
  rcases Nat.lt_or_ge n 2 with h2 | h2
  ·have hkk:k*k=1:=by
    have:k=1∨k=-1:=by omega
    rcases this with e | e<;>subst e<;>rfl
   refine⟨Xw s k,fun t=>?_⟩
   have e:(ps (Xw s k)*ps g).c t=k*(ps s*ps g).c t:=by
    rw [PS.mul_c,PS.mul_c,←Mq]
    exact Qh fun i _=>by rw [Md,Md,Md,Qo];grind
   rw [e,←h,←Int.mul_assoc,hkk,Int.one_mul]
  ·obtain⟨p,p2,pd,pm⟩:=Zye h2
   have hpp:∀{x y:Int},(p:Int)∣x*y→(p:Int)∣x∨(p:Int)∣y:=Zrm p2 pd pm (by omega)
   have hpk:(p:Int)∣k:=Int.natAbs_dvd_natAbs.1 (by rw [Int.natAbs_natCast,hkn];exact pd)
   have hgn:∃j,¬(p:Int)∣cf g j:=Classical.byContradiction fun hx=>by
    have:(p:Int)∣Ql g:=El fun i=>Classical.byContradiction fun hy=>hx ⟨i,hy⟩
    rw [hg]at this
    have:=Int.le_of_dvd (by decide) this
    omega
   obtain⟨j0,hj0⟩:=hgn
   obtain⟨j,hj,hjm⟩:=Zfh (P:=fun j=>¬(p:Int)∣cf g j) j0 hj0
   have hs:∀i,(p:Int)∣cf s i:=fun i0=>Classical.byContradiction fun hi0=>by
    obtain⟨i,hi,him⟩:=Zfh (P:=fun i=>¬(p:Int)∣cf s i) i0 hi0
    have h3:=h (i+j)
    rw [PS.mul_c]at h3
    have key:∀m,m≤i+j+1→(p:Int)∣Qr (fun k=>if k=i then 0 else(ps s).c k*(ps g).c (i+j-k)) m:=fun m=>by
     induction m with
     | zero=>intro _;exact Int.dvd_zero _
     | succ m ihm=>
      intro hm
      rw [Qq]
      refine Int.dvd_add (ihm (by omega)) ?_
      split
      ·exact Int.dvd_zero _
      ·rename_i hne
       rw [Md,Md]
       rcases Nat.lt_or_ge m i with h4 | h4
       ·exact Int.dvd_trans (Classical.byContradiction fun hx=>him m h4 hx) (Int.dvd_mul_right _ _)
       ·exact Int.dvd_trans (Classical.byContradiction fun hx=>hjm (i+j-m) (by omega) hx) (Int.dvd_mul_left _ _)
    have e1:Qr (fun k=>(ps s).c k*(ps g).c (i+j-k)) (i+j+1)=Qr (fun k=>if k=i then 0 else(ps s).c k*(ps g).c (i+j-k)) (i+j+1)+cf s i*cf g j:=by
     have e2:Qr (fun k=>(ps s).c k*(ps g).c (i+j-k)) (i+j+1)=Qr (fun k=>(if k=i then 0 else(ps s).c k*(ps g).c (i+j-k))+(if k=i then(ps s).c k*(ps g).c (i+j-k)else 0)) (i+j+1):=
      Qh fun k _=>by split<;>omega
     rw [e2,Dr,Bz (f:=fun k=>if k=i then(ps s).c k*(ps g).c (i+j-k)else 0) (k:=i) (by omega) (fun q _ hq=>if_neg hq),if_pos rfl,Md,Md,show i+j-i=j by omega]
    rw [e1]at h3
    have h4:(p:Int)∣cf s i*cf g j:=by
     have h5:cf s i*cf g j=k*cf a (i+j)-Qr (fun k=>if k=i then 0 else(ps s).c k*(ps g).c (i+j-k)) (i+j+1):=by omega
     rw [h5]
     exact Int.dvd_sub (Int.dvd_trans hpk (Int.dvd_mul_right _ _)) (key _ (Nat.le_refl _))
    rcases hpp h4 with h5 | h5
    ·exact hi h5
    ·exact hj h5
   obtain⟨k',hk'⟩:=hpk
   have hp0:(p:Int)≠0:=by omega
   refine ih k'.natAbs ?_ k' (s.map (· / (p:Int))) rfl ?_ ?_
   ·rw [←hkn,hk',Int.natAbs_mul,Int.natAbs_natCast]
    have:0<k'.natAbs:=by
     rcases Nat.eq_zero_or_pos k'.natAbs with h6 | h6
     ·rw [show k'=0 by omega]at hk';simp at hk';exact absurd hk' hk
     ·exact h6
    have:=Nat.mul_le_mul_right k'.natAbs p2
    omega
   ·intro e;rw [e]at hk';simp at hk';exact hk hk'
   ·intro t
    refine Int.eq_of_mul_eq_mul_left hp0 ?_
    rw [←Int.mul_assoc,←hk',h,PS.mul_c,PS.mul_c,←Mq]
    refine Qh fun i _=>?_
    rw [Md,Md,Md,Zhx _ _ (by simp),←Int.mul_assoc,Int.mul_ediv_cancel' (hs i)]
def Ap:List Int→Int→Int
 | [],_=>0
 | c :: r,t=>c+t*Ap r t
def sdv:List Int→Int→List Int
 | [],_=>[]
 | [_],_=>[]
 | _ :: c :: r,t=>Ap (c :: r) t :: sdv (c :: r) t
theorem Zff:∀(u:List Int) (t:Int),(sdv u t).length=u.length-1
 | [],_=>rfl
 | [_],_=>rfl
 | _ :: c :: r,t=>by unfold sdv;rw [List.length_cons,Zff (c :: r) t];simp
theorem Zo5:∀(u:List Int) (t x:Int),Ap u x=Ap u t+(x-t)*Ap (sdv u t) x
 | [],t,x=>by simp [Ap,sdv]
 | [c],t,x=>by simp [Ap,sdv]
 | a :: c :: r,t,x=>by
  have ih:=Zo5 (c :: r) t x
  show a+x*Ap (c :: r) x=a+t*Ap (c :: r) t+(x-t)*(Ap (c :: r) t+x*Ap (sdv (c :: r) t) x)
  rw [ih]
  generalize Ap (c :: r) t=A
  generalize Ap (sdv (c :: r) t) x=B
  grind
theorem Dh(a:Int)(u:List Int)(i:Nat):cf (a :: u) i=if i=0 then a else cf u (i-1):=by
 cases i with
 | zero=>rfl
 | succ i=>simp [cf]
theorem Zca(i:Nat):cf [] i=0:=Qe (Nat.zero_le _)
theorem Zt3:∀(u:List Int) (t:Int) (i:Nat),cf u (i+1)=cf (sdv u t) i-t*cf (sdv u t) (i+1)
 | [],t,i=>by unfold sdv;simp [Zca]
 | [c],t,i=>by unfold sdv;rw [Dh,if_neg (by omega)];simp [Zca]
 | a :: c :: r,t,i=>by
  unfold sdv
  rw [Dh,if_neg (by omega),Nat.add_sub_cancel]
  cases i with
  | zero=>
   rw [Dh,if_pos rfl,Dh,if_pos rfl,Dh,if_neg (by omega)]
   show c=Ap (c :: r) t-t*cf (sdv (c :: r) t) 0
   match r with
   | []=>simp [Ap,sdv,cf]
   | d :: r'=>unfold sdv;rw [Dh,if_pos rfl];show c=(c+t*Ap (d :: r') t)-_;omega
  | succ i=>
   rw [Dh _ (sdv _ _) (i+1),if_neg (by omega),Dh _ (sdv _ _),if_neg (by omega),Nat.add_sub_cancel,Nat.add_sub_cancel]
   exact Zt3 (c :: r) t i
theorem Zwy:∀(u:List Int) (t:Int),cf u 0=Ap u t-t*cf (sdv u t) 0
 | [],t=>by simp [Ap,sdv,cf]
 | [c],t=>by simp [Ap,sdv,cf]
 | a :: c :: r,t=>by
  unfold sdv
  rw [Dh,if_pos rfl,Dh,if_pos rfl]
  show a=(a+t*Ap (c :: r) t)-t*Ap (c :: r) t
  omega
theorem Zj5:∀(n:Nat) (u:List Int) (R:List Int),u.length=n→(∃i,cf u i≠0)→R.Nodup→(∀t∈R,Ap u t=0)→R.length<n
 | 0,u,R,hn,hu,_,_=>by
  obtain⟨i,hi⟩:=hu
  rw [List.eq_nil_of_length_eq_zero hn,Zca]at hi
  exact absurd rfl hi
 | n+1,u,[],hn,hu,_,_=>by simp
 | n+1,u,t :: R,hn,hu,hd,hR=>by
  have h0:=hR t (List.mem_cons_self ..)
  have hl:=Zff u t
  have hw:∃i,cf (sdv u t) i≠0:=Classical.byContradiction fun hx=>by
   have hz:∀i,cf (sdv u t) i=0:=fun i=>Classical.byContradiction fun hy=>hx ⟨i,hy⟩
   obtain⟨i,hi⟩:=hu
   cases i with
   | zero=>rw [Zwy u t,h0,hz]at hi;simp at hi
   | succ i=>rw [Zt3 u t,hz,hz]at hi;simp at hi
  have:=Zj5 n (sdv u t) R (by omega) hw (List.nodup_cons.1 hd).2 fun x hx=>by
   have h1:=hR x (List.mem_cons_of_mem _ hx)
   rw [Zo5 u t x,h0,Int.zero_add]at h1
   rcases Int.mul_eq_zero.1 h1 with h2 | h2
   ·exfalso
    have:x=t:=by omega
    subst this
    exact(List.nodup_cons.1 hd).1 hx
   ·exact h2
  simp;omega
def kk:Nat→Nat
 | 0=>0
 | d+1=>30*kk d+1
theorem Zv4:∀(p:List Int) (t:Int),Ap p t=Qr (fun i=>cf p i*t^i) p.length
 | [],t=>rfl
 | c :: r,t=>by
  rw [List.length_cons,Gj,Ap,Zv4 r t,←Mq,Int.pow_zero,Int.mul_one]
  congr 1
  exact Qh fun i _=>by
   rw [Dh,if_neg (by omega),Nat.add_sub_cancel,Int.pow_succ];grind
theorem Zk3(p:List Int)(t:Int):Ap p t=pev p t 1:=by
 rw [Zv4];unfold pev
 exact Qh fun i _=>by rw [Int.one_pow,Int.mul_one]
def pts:List Int:=[0,1,2,3,4,5,6,7,8,9,10,11,12,13,14]
theorem Zk2{α:Type}(f:α→Bool):∀l:List α,(l.filter f).length+(l.filter fun x=>!f x).length=l.length
 | []=>rfl
 | x :: l=>by
  have ih:=Zk2 f l
  cases h:f x<;>simp [h]<;>omega
end Go.Sky

