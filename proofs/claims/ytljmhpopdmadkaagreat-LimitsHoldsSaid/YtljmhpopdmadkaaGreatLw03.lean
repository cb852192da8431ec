/- Rules, arithmetic and contracts: part 4. No conditions but those that each theorem names. -/
import Derived.Test.YtljmhpopdmadkaaGreatLw02
import Derived.Test.YtljmhpopdmadkaaGreatProg
import Derived.Test.YtljmhpopdmadkaaGreatRows
import Derived.WalkKit
import Derived.ProofKit
import Derived.OpenShut
import Derived.ShutString
import Derived.ChangeOld
import Derived.Deep.Slices
import Derived.Lib.SmallJoins
set_option linter.all false
namespace Go.Sky
open Go.Proofs
theorem pU:Enc Tryz.prog 111 1 Nt:=Enc.flat Tryz.sizeOf111 Tryz.isAgg111 (fun _=>rfl)
theorem pB:Enc Tryz.prog 5 1 Zhq:=Enc.flat Tryz.sizeOf5 Tryz.isAgg5 (fun _=>rfl)
theorem pN:Enc Tryz.prog 3 1 Ha:=Enc.flat Tryz.sizeOf3 Tryz.isAgg3 (fun _=>rfl)
theorem pZ:Enc Tryz.prog 3 1 Yl:=Enc.flat Tryz.sizeOf3 Tryz.isAgg3 (fun _=>rfl)
theorem Zgq(args:Array Value)(w:World):(callFunc 216 args).run Tryz.prog w=((add64Entry args).run Tryz.prog w).andThen fun v w'=> .ok (.value v) w':=
 run_callFunc_extern Tryz.func216 O6 O6 O6 O6 args w
theorem Zyr(args:Array Value)(w:World):(callFunc 217 args).run Tryz.prog w=((Zdf args).run Tryz.prog w).andThen fun v w'=> .ok (.value v) w':=
 run_callFunc_extern Tryz.func217 O6 O6 O6 O6 args w
end Go.Sky
theorem Go.Proofs.Tryz.ti111:Go.Proofs.Tryz.prog.info? 111=some Go.Proofs.Tryz.t111:=Go.Sky.O6
namespace Go.Sky
open Go.Proofs
end Go.Sky
theorem Go.Proofs.Tryz.ti5:Go.Proofs.Tryz.prog.info? 5=some Go.Proofs.Tryz.t5:=Go.Sky.O6
namespace Go.Sky
open Go.Proofs
end Go.Sky
theorem Go.Proofs.Tryz.ti3:Go.Proofs.Tryz.prog.info? 3=some Go.Proofs.Tryz.t3:=Go.Sky.O6
namespace Go.Sky
open Go.Proofs
theorem pW:Enc Tryz.prog 93 2 Zuh:=Enc.agg O3 Tryz.sizeOf93 Tryz.isAgg93 (fun x=>⟨[.bool x.1,.string x.2],rfl,rfl,by simp [Value.oneCell']⟩)
theorem pV:Enc Tryz.prog 93 2 wv:=Enc.agg O3 Tryz.sizeOf93 Tryz.isAgg93 (fun x=>⟨[.bool (decide (x<0)),.string (Xp x.natAbs)],rfl,rfl,by simp [Value.oneCell']⟩)
theorem pI:Enc Tryz.prog 77 2 Zc2:=Enc.agg O3 Tryz.sizeOf77 Tryz.isAgg77 (fun x=>⟨[.bool (decide (x.1<0)),Qo x.2],rfl,rfl,by simp [Value.oneCell']⟩)
theorem pS{α:Type} : Enc Tryz.prog 39 1 (Kk (α:=α)):=Enc.flat Tryz.sizeOf39 Tryz.isAgg39 (fun _=>rfl)
theorem pY:Enc Tryz.prog 238 8 iq:=Enc.agg O3 Tryz.sizeOf238 Tryz.isAgg238 (fun x=>⟨[.bool (decide (x.1.1<0)),.string (Xp x.1.1.natAbs),.bool (decide (x.1.2<0)),.string (Xp x.1.2.natAbs),.bool (decide (x.2.1<0)),.string (Xp x.2.1.natAbs),.bool (decide (x.2.2<0)),.string (Xp x.2.2.natAbs)],rfl,rfl,by simp [Value.oneCell']⟩)
theorem pQ:Enc Tryz.prog 129 4 rq:=Enc.agg O3 Tryz.sizeOf129 Tryz.isAgg129 (fun x=>⟨[.bool (decide (x.1<0)),.string (Xp x.1.natAbs),.bool (decide (x.2<0)),.string (Xp x.2.natAbs)],rfl,rfl,by simp [Value.oneCell']⟩)
theorem pR:Enc Tryz.prog 129 4 encQ:=Enc.agg O3 Tryz.sizeOf129 Tryz.isAgg129 (fun x=>⟨[.bool x.1.1,.string x.1.2,.bool x.2.1,.string x.2.2],rfl,rfl,by simp [Value.oneCell']⟩)
theorem sh93:Tryz.prog.stoodInHeld 93=false:=O6
theorem sh129:Tryz.prog.stoodInHeld 129=false:=O6
theorem eg93:Tryz.prog.eqGuardType Tryz.prog.depth 93=false:=O6
theorem Yiz(d:Nat)(w:World)(a:Bool)(s:ByteArray)(b:Bool)(t:ByteArray):(Op.equalIn (d+2) 93 (.agg #[.bool a,.string s]) (.agg #[.bool b,.string t])).run Tryz.prog w= .ok (eqW a s b t) w:=by
 have hu:Tryz.prog.underlying 93=some (.struct (Tryz.prog.fieldsOf 93)):=by unfold Program.fieldsOf;rw [Tryz.underlying93]
 rw [run_equalIn_agg w (d+1) 93 _ _ hu sh93]
 unfold Program.fieldsOf
 rw [Tryz.underlying93]
 simp [Op.eqFields,part,Tryz.isAgg4,Tryz.isAgg9,run_equalIn_bool' _ _ _ _ _ Tryz.underlying4,run_equalIn_string _ _ _ _ _ Tryz.underlying9]
 unfold eqW
 cases hab:(a == b)
 ·simp_all
 ·by_cases h:s.toList=t.toList<;>simp_all
theorem eql93(w:World)(a:Bool)(s:ByteArray)(b:Bool)(t:ByteArray):(binOp .eql 93 (.agg #[.bool a,.string s]) (.agg #[.bool b,.string t])).run Tryz.prog w= .ok (.bool (eqW a s b t)) w:=by
 rw [run_eql_struct,Yiz];rfl
theorem neq93(w:World)(a:Bool)(s:ByteArray)(b:Bool)(t:ByteArray):(binOp .neq 93 (.agg #[.bool a,.string s]) (.agg #[.bool b,.string t])).run Tryz.prog w= .ok (.bool (!eqW a s b t)) w:=by
 rw [run_neq_struct,Yiz];rfl
theorem in129(d:Nat)(w:World)(a:Bool)(s:ByteArray)(a2:Bool)(s2:ByteArray)(b:Bool)(t:ByteArray)(b2:Bool)(t2:ByteArray):(Op.equalIn (d+3) 129 (.agg #[.bool a,.string s,.bool a2,.string s2]) (.agg #[.bool b,.string t,.bool b2,.string t2])).run Tryz.prog w= .ok (eqW a s b t && eqW a2 s2 b2 t2) w:=by
 have hu:Tryz.prog.underlying 129=some (.struct (Tryz.prog.fieldsOf 129)):=by unfold Program.fieldsOf;rw [Tryz.underlying129]
 rw [run_equalIn_agg w (d+2) 129 _ _ hu sh129]
 unfold Program.fieldsOf
 rw [Tryz.underlying129]
 simp [Op.eqFields,part,Tryz.isAgg93,Tryz.sizeOf93,Yiz]
 cases hab:eqW a s b t<;>cases hab2:eqW a2 s2 b2 t2<;>simp_all
end Go.Sky
theorem Go.Proofs.Tryz.ti22:Go.Proofs.Tryz.prog.info? 22=some Go.Proofs.Tryz.t22:=Go.Sky.O6
namespace Go.Sky
open Go.Proofs
end Go.Sky
theorem Go.Proofs.Tryz.ti24:Go.Proofs.Tryz.prog.info? 24=some Go.Proofs.Tryz.t24:=Go.Sky.O6
namespace Go.Sky
open Go.Proofs
end Go.Sky
theorem Go.Proofs.Tryz.ti39:Go.Proofs.Tryz.prog.info? 39=some Go.Proofs.Tryz.t39:=Go.Sky.O6
namespace Go.Sky
open Go.Proofs
end Go.Sky
theorem Go.Proofs.Tryz.ti77:Go.Proofs.Tryz.prog.info? 77=some Go.Proofs.Tryz.t77:=Go.Sky.O6
namespace Go.Sky
open Go.Proofs
end Go.Sky
theorem Go.Proofs.Tryz.ti93:Go.Proofs.Tryz.prog.info? 93=some Go.Proofs.Tryz.t93:=Go.Sky.O6
namespace Go.Sky
open Go.Proofs
end Go.Sky
theorem Go.Proofs.Tryz.ti129:Go.Proofs.Tryz.prog.info? 129=some Go.Proofs.Tryz.t129:=Go.Sky.O6
namespace Go.Sky
open Go.Proofs
theorem b24_01{v0 v1:Value}(h0:v0.oneCell'=true)(h1:v1.oneCell'=true):Tryz.prog.built 24 [(0,v0),(1,v1)]=some #[v0,v1,.int .i64 0,.slice none 0 0,.slice none 0 0,.slice none 0 0]:=by
 refine Xk _ Tryz.ti24 Tryz.underlying24 rfl (pl:=[(0,1),(1,1),(2,1),(3,1),(4,1),(5,1)]) (by simp [Tryz.ti22,Tryz.ti3];try decide) ?_
 simp [Instr.fill,Ya h0,Ya h1,show(Value.agg #[.int .i64 0,.int .i64 0,.int .i64 0,.slice none 0 0,.slice none 0 0,.slice none 0 0]).cells=#[.int .i64 0,.int .i64 0,.int .i64 0,.slice none 0 0,.slice none 0 0,.slice none 0 0]from rfl]
theorem Zu3{v0 v1 v2 v3 v4 v5:Value}(h0:v0.oneCell'=true)(h1:v1.oneCell'=true)(h2:v2.oneCell'=true)(h3:v3.oneCell'=true)(h4:v4.oneCell'=true)(h5:v5.oneCell'=true):Tryz.prog.built 24 [(0,v0),(1,v1),(2,v2),(3,v3),(4,v4),(5,v5)]=some #[v0,v1,v2,v3,v4,v5]:=by
 refine Xk _ Tryz.ti24 Tryz.underlying24 rfl (pl:=[(0,1),(1,1),(2,1),(3,1),(4,1),(5,1)]) (by simp [Tryz.ti22,Tryz.ti3];try decide) ?_
 simp [Instr.fill,Ya h0,Ya h1,Ya h2,Ya h3,Ya h4,Ya h5,show(Value.agg #[.int .i64 0,.int .i64 0,.int .i64 0,.slice none 0 0,.slice none 0 0,.slice none 0 0]).cells=#[.int .i64 0,.int .i64 0,.int .i64 0,.slice none 0 0,.slice none 0 0,.slice none 0 0]from rfl]
end Go.Sky
theorem Go.Proofs.Tryz.ti26:Go.Proofs.Tryz.prog.info? 26=some Go.Proofs.Tryz.t26:=Go.Sky.O6
namespace Go.Sky
open Go.Proofs
theorem b26_:Tryz.prog.built 26 []=some #[.int .i64 0,.int .i64 0]:=by
 refine Xk _ Tryz.ti26 Tryz.underlying26 rfl (pl:=[(0,1),(1,1)]) (by simp [Tryz.ti3];try decide) ?_
 simp [Instr.fill,show(Value.agg #[.int .i64 0,.int .i64 0]).cells=#[.int .i64 0,.int .i64 0]from rfl]
theorem b26_0{v0:Value}(h0:v0.oneCell'=true):Tryz.prog.built 26 [(0,v0)]=some #[v0,.int .i64 0]:=by
 refine Xk _ Tryz.ti26 Tryz.underlying26 rfl (pl:=[(0,1),(1,1)]) (by simp [Tryz.ti3];try decide) ?_
 simp [Instr.fill,Ya h0,show(Value.agg #[.int .i64 0,.int .i64 0]).cells=#[.int .i64 0,.int .i64 0]from rfl]
theorem Zd2{v0 v1:Value}(h0:v0.oneCell'=true)(h1:v1.oneCell'=true):Tryz.prog.built 26 [(0,v0),(1,v1)]=some #[v0,v1]:=by
 refine Xk _ Tryz.ti26 Tryz.underlying26 rfl (pl:=[(0,1),(1,1)]) (by simp [Tryz.ti3];try decide) ?_
 simp [Instr.fill,Ya h0,Ya h1,show(Value.agg #[.int .i64 0,.int .i64 0]).cells=#[.int .i64 0,.int .i64 0]from rfl]
end Go.Sky
theorem Go.Proofs.Tryz.ti52:Go.Proofs.Tryz.prog.info? 52=some Go.Proofs.Tryz.t52:=Go.Sky.O6
namespace Go.Sky
open Go.Proofs
end Go.Sky
theorem Go.Proofs.Tryz.ti50:Go.Proofs.Tryz.prog.info? 50=some Go.Proofs.Tryz.t50:=Go.Sky.O6
namespace Go.Sky
open Go.Proofs
theorem b52_:Tryz.prog.built 52 []=some #[.int .i64 0,.int .i64 0]:=by
 refine Xk _ Tryz.ti52 Tryz.underlying52 rfl (pl:=[(0,1),(1,1)]) (by simp [Tryz.ti3,Tryz.ti50];try decide) ?_
 simp [Instr.fill,show(Value.agg #[.int .i64 0,.int .i64 0]).cells=#[.int .i64 0,.int .i64 0]from rfl]
theorem Zu2{v0 v1:Value}(h0:v0.oneCell'=true)(h1:v1.oneCell'=true):Tryz.prog.built 52 [(0,v0),(1,v1)]=some #[v0,v1]:=by
 refine Xk _ Tryz.ti52 Tryz.underlying52 rfl (pl:=[(0,1),(1,1)]) (by simp [Tryz.ti3,Tryz.ti50];try decide) ?_
 simp [Instr.fill,Ya h0,Ya h1,show(Value.agg #[.int .i64 0,.int .i64 0]).cells=#[.int .i64 0,.int .i64 0]from rfl]
theorem b52_1{v1:Value}(h1:v1.oneCell'=true):Tryz.prog.built 52 [(1,v1)]=some #[.int .i64 0,v1]:=by
 refine Xk _ Tryz.ti52 Tryz.underlying52 rfl (pl:=[(0,1),(1,1)]) (by simp [Tryz.ti3,Tryz.ti50];try decide) ?_
 simp [Instr.fill,Ya h1,show(Value.agg #[.int .i64 0,.int .i64 0]).cells=#[.int .i64 0,.int .i64 0]from rfl]
end Go.Sky
theorem Go.Proofs.Tryz.ti64:Go.Proofs.Tryz.prog.info? 64=some Go.Proofs.Tryz.t64:=Go.Sky.O6
namespace Go.Sky
open Go.Proofs
theorem b64_:Tryz.prog.built 64 []=some #[.int .i64 0,.int .i64 0,.int .i64 0]:=by
 refine Xk _ Tryz.ti64 Tryz.underlying64 rfl (pl:=[(0,1),(1,1),(2,1)]) (by simp [Tryz.ti3];try decide) ?_
 simp [Instr.fill,show(Value.agg #[.int .i64 0,.int .i64 0,.int .i64 0]).cells=#[.int .i64 0,.int .i64 0,.int .i64 0]from rfl]
theorem b64_01{v0 v1:Value}(h0:v0.oneCell'=true)(h1:v1.oneCell'=true):Tryz.prog.built 64 [(0,v0),(1,v1)]=some #[v0,v1,.int .i64 0]:=by
 refine Xk _ Tryz.ti64 Tryz.underlying64 rfl (pl:=[(0,1),(1,1),(2,1)]) (by simp [Tryz.ti3];try decide) ?_
 simp [Instr.fill,Ya h0,Ya h1,show(Value.agg #[.int .i64 0,.int .i64 0,.int .i64 0]).cells=#[.int .i64 0,.int .i64 0,.int .i64 0]from rfl]
end Go.Sky
theorem Go.Proofs.Tryz.ti4:Go.Proofs.Tryz.prog.info? 4=some Go.Proofs.Tryz.t4:=Go.Sky.O6
namespace Go.Sky
open Go.Proofs
theorem b77_:Tryz.prog.built 77 []=some #[.bool false,.slice none 0 0]:=by
 refine Xk _ Tryz.ti77 Tryz.underlying77 rfl (pl:=[(0,1),(1,1)]) (by simp [Tryz.ti22,Tryz.ti4];try decide) ?_
 simp [Instr.fill,show(Value.agg #[.bool false,.slice none 0 0]).cells=#[.bool false,.slice none 0 0]from rfl]
theorem Ygb{v0 v1:Value}(h0:v0.oneCell'=true)(h1:v1.oneCell'=true):Tryz.prog.built 77 [(0,v0),(1,v1)]=some #[v0,v1]:=by
 refine Xk _ Tryz.ti77 Tryz.underlying77 rfl (pl:=[(0,1),(1,1)]) (by simp [Tryz.ti22,Tryz.ti4];try decide) ?_
 simp [Instr.fill,Ya h0,Ya h1,show(Value.agg #[.bool false,.slice none 0 0]).cells=#[.bool false,.slice none 0 0]from rfl]
end Go.Sky
theorem Go.Proofs.Tryz.ti90:Go.Proofs.Tryz.prog.info? 90=some Go.Proofs.Tryz.t90:=Go.Sky.O6
namespace Go.Sky
open Go.Proofs
theorem Zyd{v0 v1 v2:Value}(h0:v0.oneCell'=true)(h1:v1.oneCell'=true)(h2:v2.oneCell'=true):Tryz.prog.built 90 [(0,v0),(1,v1),(2,v2)]=some #[v0,v1,v2]:=by
 refine Xk _ Tryz.ti90 Tryz.underlying90 rfl (pl:=[(0,1),(1,1),(2,1)]) (by simp [Tryz.ti3,Tryz.ti50];try decide) ?_
 simp [Instr.fill,Ya h0,Ya h1,Ya h2,show(Value.agg #[.int .i64 0,.int .i64 0,.int .i64 0]).cells=#[.int .i64 0,.int .i64 0,.int .i64 0]from rfl]
end Go.Sky
theorem Go.Proofs.Tryz.ti9:Go.Proofs.Tryz.prog.info? 9=some Go.Proofs.Tryz.t9:=Go.Sky.O6
namespace Go.Sky
open Go.Proofs
theorem b93_:Tryz.prog.built 93 []=some #[.bool false,.string ⟨#[]⟩]:=by
 refine Xk _ Tryz.ti93 Tryz.underlying93 rfl (pl:=[(0,1),(1,1)]) (by simp [Tryz.ti4,Tryz.ti9];try decide) ?_
 simp [Instr.fill,show(Value.agg #[.bool false,.string ⟨#[]⟩]).cells=#[.bool false,.string ⟨#[]⟩]from rfl]
theorem Zu1{v0 v1:Value}(h0:v0.oneCell'=true)(h1:v1.oneCell'=true):Tryz.prog.built 93 [(0,v0),(1,v1)]=some #[v0,v1]:=by
 refine Xk _ Tryz.ti93 Tryz.underlying93 rfl (pl:=[(0,1),(1,1)]) (by simp [Tryz.ti4,Tryz.ti9];try decide) ?_
 simp [Instr.fill,Ya h0,Ya h1,show(Value.agg #[.bool false,.string ⟨#[]⟩]).cells=#[.bool false,.string ⟨#[]⟩]from rfl]
end Go.Sky
theorem Go.Proofs.Tryz.ti106:Go.Proofs.Tryz.prog.info? 106=some Go.Proofs.Tryz.t106:=Go.Sky.O6
namespace Go.Sky
open Go.Proofs
end Go.Sky
theorem Go.Proofs.Tryz.ti29:Go.Proofs.Tryz.prog.info? 29=some Go.Proofs.Tryz.t29:=Go.Sky.O6
namespace Go.Sky
open Go.Proofs
theorem Zye{v0 c1_0 c1_1 c1_2:Value}(h0:v0.oneCell'=true):Tryz.prog.built 106 [(0,v0),(1,.agg #[c1_0,c1_1,c1_2])]=some #[v0,c1_0,c1_1,c1_2]:=by
 refine Xk _ Tryz.ti106 Tryz.underlying106 rfl (pl:=[(0,1),(1,3)]) (by simp [Tryz.ti29,Tryz.ti90];try decide) ?_
 simp [Instr.fill,Ya h0,show(Value.agg #[c1_0,c1_1,c1_2]).cells=#[c1_0,c1_1,c1_2]from rfl,show(Value.agg #[.slice none 0 0,.int .i64 0,.int .i64 0,.int .i64 0]).cells=#[.slice none 0 0,.int .i64 0,.int .i64 0,.int .i64 0]from rfl]
theorem Zsk:Tryz.prog.built 129 []=some #[.bool false,.string ⟨#[]⟩,.bool false,.string ⟨#[]⟩]:=by
 refine Xk _ Tryz.ti129 Tryz.underlying129 rfl (pl:=[(0,2),(2,2)]) (by simp [Tryz.ti93];try decide) ?_
 simp [Instr.fill,show(Value.agg #[.bool false,.string ⟨#[]⟩,.bool false,.string ⟨#[]⟩]).cells=#[.bool false,.string ⟨#[]⟩,.bool false,.string ⟨#[]⟩]from rfl]
theorem Zfr{c0_0 c0_1 c1_0 c1_1:Value} : Tryz.prog.built 129 [(0,.agg #[c0_0,c0_1]),(1,.agg #[c1_0,c1_1])]=some #[c0_0,c0_1,c1_0,c1_1]:=by
 refine Xk _ Tryz.ti129 Tryz.underlying129 rfl (pl:=[(0,2),(2,2)]) (by simp [Tryz.ti93];try decide) ?_
 simp [Instr.fill,show(Value.agg #[c0_0,c0_1]).cells=#[c0_0,c0_1]from rfl,show(Value.agg #[c1_0,c1_1]).cells=#[c1_0,c1_1]from rfl,show(Value.agg #[.bool false,.string ⟨#[]⟩,.bool false,.string ⟨#[]⟩]).cells=#[.bool false,.string ⟨#[]⟩,.bool false,.string ⟨#[]⟩]from rfl]
end Go.Sky
theorem Go.Proofs.Tryz.ti151:Go.Proofs.Tryz.prog.info? 151=some Go.Proofs.Tryz.t151:=Go.Sky.O6
namespace Go.Sky
open Go.Proofs
theorem Zm1{c0_0 c0_1 c1_0 c1_1 c2_0 c2_1 c3_0 c3_1:Value} : Tryz.prog.built 151 [(0,.agg #[c0_0,c0_1]),(1,.agg #[c1_0,c1_1]),(2,.agg #[c2_0,c2_1]),(3,.agg #[c3_0,c3_1])]=some #[c0_0,c0_1,c1_0,c1_1,c2_0,c2_1,c3_0,c3_1]:=by
 refine Xk _ Tryz.ti151 Tryz.underlying151 rfl (pl:=[(0,2),(2,2),(4,2),(6,2)]) (by simp [Tryz.ti93];try decide) ?_
 simp [Instr.fill,show(Value.agg #[c0_0,c0_1]).cells=#[c0_0,c0_1]from rfl,show(Value.agg #[c1_0,c1_1]).cells=#[c1_0,c1_1]from rfl,show(Value.agg #[c2_0,c2_1]).cells=#[c2_0,c2_1]from rfl,show(Value.agg #[c3_0,c3_1]).cells=#[c3_0,c3_1]from rfl,show(Value.agg #[.bool false,.string ⟨#[]⟩,.bool false,.string ⟨#[]⟩,.bool false,.string ⟨#[]⟩,.bool false,.string ⟨#[]⟩]).cells=#[.bool false,.string ⟨#[]⟩,.bool false,.string ⟨#[]⟩,.bool false,.string ⟨#[]⟩,.bool false,.string ⟨#[]⟩]from rfl]
end Go.Sky
theorem Go.Proofs.Tryz.ti171:Go.Proofs.Tryz.prog.info? 171=some Go.Proofs.Tryz.t171:=Go.Sky.O6
namespace Go.Sky
open Go.Proofs
end Go.Sky
theorem Go.Proofs.Tryz.ti168:Go.Proofs.Tryz.prog.info? 168=some Go.Proofs.Tryz.t168:=Go.Sky.O6
namespace Go.Sky
open Go.Proofs
theorem Lk{v0 v1:Value}(h0:v0.oneCell'=true)(h1:v1.oneCell'=true):Tryz.prog.built 171 [(0,v0),(1,v1)]=some #[v0,v1]:=by
 refine Xk _ Tryz.ti171 Tryz.underlying171 rfl (pl:=[(0,1),(1,1)]) (by simp [Tryz.ti168,Tryz.ti4];try decide) ?_
 simp [Instr.fill,Ya h0,Ya h1,show(Value.agg #[.bool false,.slice none 0 0]).cells=#[.bool false,.slice none 0 0]from rfl]
end Go.Sky
theorem Go.Proofs.Tryz.ti238:Go.Proofs.Tryz.prog.info? 238=some Go.Proofs.Tryz.t238:=Go.Sky.O6
namespace Go.Sky
open Go.Proofs
theorem Ykf{c0_0 c0_1 c0_2 c0_3 c1_0 c1_1 c1_2 c1_3:Value} : Tryz.prog.built 238 [(0,.agg #[c0_0,c0_1,c0_2,c0_3]),(1,.agg #[c1_0,c1_1,c1_2,c1_3])]=some #[c0_0,c0_1,c0_2,c0_3,c1_0,c1_1,c1_2,c1_3]:=by
 refine Xk _ Tryz.ti238 Tryz.underlying238 rfl (pl:=[(0,4),(4,4)]) (by simp [Tryz.ti129];try decide) ?_
 simp [Instr.fill,show(Value.agg #[c0_0,c0_1,c0_2,c0_3]).cells=#[c0_0,c0_1,c0_2,c0_3]from rfl,show(Value.agg #[c1_0,c1_1,c1_2,c1_3]).cells=#[c1_0,c1_1,c1_2,c1_3]from rfl,show(Value.agg #[.bool false,.string ⟨#[]⟩,.bool false,.string ⟨#[]⟩,.bool false,.string ⟨#[]⟩,.bool false,.string ⟨#[]⟩]).cells=#[.bool false,.string ⟨#[]⟩,.bool false,.string ⟨#[]⟩,.bool false,.string ⟨#[]⟩,.bool false,.string ⟨#[]⟩]from rfl]
theorem J{α:Sort _}{a:α} : a=a:=rfl
abbrev Oo (P:Program) (f:FuncId) (a:Array Value) (p:List Pc) (v:Value):Prop:=Cal P f a p false (G:=Unit) (fun _=>True) (fun _=>v) (fun _=>[])
abbrev rX (x y:Int):Value:= .agg #[.bool (decide (x<0)),.string (Xp x.natAbs),.bool (decide (y<0)),.string (Xp y.natAbs)]
theorem vB{a b:Bool}(h:a=b):Value.bool a=Value.bool b:=congrArg _ h
theorem dF{P:Program}{N:Nat}{sc:Nat→Prop}{o:Oper}{env:Qt}{H:Hp}{r:Value}(h:Ml P N sc o env H r)(e:r= .bool false):Ml P N sc o env H (.bool false):=Zj h e
theorem dT{P:Program}{N:Nat}{sc:Nat→Prop}{o:Oper}{env:Qt}{H:Hp}{r:Value}(h:Ml P N sc o env H r)(e:r= .bool true):Ml P N sc o env H (.bool true):=Zj h e
theorem K1{t0:Sort _}{a0:t0} : a0=a0∧True:=⟨rfl,trivial⟩
theorem K2{t0:Sort _}{a0:t0}{t1:Sort _}{a1:t1} : a0=a0∧a1=a1∧True:=⟨rfl,rfl,trivial⟩
theorem K3{t0:Sort _}{a0:t0}{t1:Sort _}{a1:t1}{t2:Sort _}{a2:t2} : a0=a0∧a1=a1∧a2=a2∧True:=⟨rfl,rfl,rfl,trivial⟩
theorem K4{t0:Sort _}{a0:t0}{t1:Sort _}{a1:t1}{t2:Sort _}{a2:t2}{t3:Sort _}{a3:t3} : a0=a0∧a1=a1∧a2=a2∧a3=a3∧True:=⟨rfl,rfl,rfl,rfl,trivial⟩
theorem K6{t0:Sort _}{a0:t0}{t1:Sort _}{a1:t1}{t2:Sort _}{a2:t2}{t3:Sort _}{a3:t3}{t4:Sort _}{a4:t4}{t5:Sort _}{a5:t5} : a0=a0∧a1=a1∧a2=a2∧a3=a3∧a4=a4∧a5=a5∧True:=⟨rfl,rfl,rfl,rfl,rfl,rfl,trivial⟩
def cF127:=@Go.Proofs.Tryz.call127
def Lh:=@Go.Proofs.Tryz.sizeOf111
def zT3:=@Go.Proofs.Tryz.sizeOf3
def zT77:=@Go.Proofs.Tryz.sizeOf77
def Ke:=@Go.Proofs.Tryz.sizeOf93
def Za7:=@Go.Proofs.Tryz.underlying111
def Zgt:=@Go.Proofs.Tryz.underlying142
def Pe:=@Go.Proofs.Tryz.underlying168
def Et:=@Go.Proofs.Tryz.underlying22
def Zlq:=@Go.Proofs.Tryz.underlying230
def uT3:=@Go.Proofs.Tryz.underlying3
def Ygy:=@Go.Proofs.Tryz.underlying38
def Nn:=@Go.Proofs.Tryz.underlying39
def Ygx:=@Go.Proofs.Tryz.underlying46
def uT5:=@Go.Proofs.Tryz.underlying5
def uT9:=@Go.Proofs.Tryz.underlying9
open Go.ChangeShapes Go.WideShapes Go.ChangeAt Go.RowKit Go.Joins Go.Deep
variable {P:Program} {W:World} {H:Type} {enc:TypeId×Value→H}
theorem Zhg{α:Type}[Inhabited α]{p:Nat→α→Prop} : ∀n,(∀i,i<n→∃x,p i x)→∃xs:List α,xs.length=n∧∀i x,xs[i]? = some x→p i x
 | 0,_=>⟨[],rfl,fun i x h=>by simp at h⟩
 | n+1,h=>by
  obtain⟨xs,hl,hp⟩:=Zhg n fun i hi=>h i O
  obtain⟨x,hx⟩:=h n O
  refine⟨xs ++ [x],by simp [hl],fun i y hy=>?_⟩
  rcases Nat.lt_or_ge i n with hi | hi
  ·rw [List.getElem?_append_left O]at hy;exact hp i y hy
  ·rw [List.getElem?_append_right O,hl]at hy
   rcases Nat.eq_zero_or_pos (i-n)with h0 | h0
   ·rw [h0]at hy;simp at hy;subst hy;rw [show i=n by omega];exact hx
   ·rw [List.getElem?_eq_none O8]at hy;cases hy
theorem Zjm{r:Reach}{b0:Nat}{t e:TypeId}{a:Addr}{len cap:Nat}(hs:P.underlying t=some (.slice e))(hv:Value.okWide P W r b0 t (.slice (some a) len cap)):a.spot=none∧a.block<W.heap.size:=by
 unfold Value.okWide at hv
 rw [hs]at hv
 simp only at hv
 unfold Cell.okWide at hv
 rw [hs]at hv
 simp only at hv
 unfold Cell.ok at hv
 rw [hs]at hv
 simp only at hv
 obtain⟨_,_,_,h1,row,cells,h2,_⟩:=hv
 refine⟨h1,?_⟩
 unfold World.shape? at h2
 rcases Nat.lt_or_ge a.block W.heap.size with h | h
 ·exact h
 ·rw [Array.getElem?_eq_none h]at h2
  simp at h2
end Go.Sky
namespace Go.Sky
abbrev qT (z:SL×List (Int×SL)):Pc:=pp (Qo z.1) z.2
abbrev T0:SL×List (Int×SL):=((none,0,0),[])
abbrev intsT (zs:List (SL×List (Int×SL))):List (List Int):=zs.map fun z=>Pw z.2
set_option maxRecDepth 20000
theorem Zcr(zs:List (Int×SL))(z:Int×SL):Pw (zs ++ [z])=Pw zs ++ [z.1]:=by simp [Pw]
theorem Yg7{x:Int}{m:Nat}(h:bl x.natAbs≤m)(n:Nat):bl (x^n).natAbs≤n*m+1:=by
 rcases Nat.eq_zero_or_pos n with h0 | h0
 ·rw [h0,Int.pow_zero];have:bl (1:Int).natAbs=1:=O3
  omega
 ·have:=Ej x h n h0;omega
theorem Ib(p:List Int)(c:Int):(Yb p c).length≤p.length:=by
 unfold Yb;have:=Kx (p.map (· * c));rwa [List.length_map]at this
theorem Lf{y:Int}(h:y≠0):∀n:Nat,y^n≠0
 | 0=>by rw [Int.pow_zero];omega
 | n+1=>by rw [Int.pow_succ];exact Int.mul_ne_zero (Lf h n) h
theorem Ztt(xs ys:List Int):xs.map wr=ys.map wr↔xs=ys:=by
 refine⟨fun h=>?_,fun h=>by rw [h]⟩
 exact List.map_inj_right (fun x y h=>Yan (congrArg Prod.fst h) (congrArg Prod.snd h)) |>.1 h
theorem Cal.imp2{P:Program}{f:FuncId}{args:Array Value}{p1 p q:Pc}{pre:List Pc}{al:Bool}{G:Type}{φ:G→Prop}{Yc:G→Value}{its:G→List Pc}(h:Cal P f args (p1 :: p :: pre) al φ Yc its)(hh:∀w,q.holds w→p.holds w)(hf:∀b,p.fp b→q.fp b) :
  Cal P f args (p1 :: q :: pre) al φ Yc its:=fun w hp=>by
 refine(h w fun r hr=>?_).mono ?_
 ·rcases List.mem_cons.1 hr with rfl | hr
  ·exact hp _ (List.mem_cons_self ..)
  ·rcases List.mem_cons.1 hr with rfl | hr
   ·exact hh w (hp q (List.mem_cons_of_mem _ (List.mem_cons_self ..)))
   ·exact hp r (List.mem_cons_of_mem _ (List.mem_cons_of_mem _ hr))
 ·rintro e w' ⟨g,he,hg,hb,hits⟩
  refine⟨g,he,hg,hb,fun p' hp'=>?_⟩
  obtain⟨h1,h2,h3⟩:=hits p' hp'
  refine⟨h1,h2,fun b hb=>?_⟩
  rcases h3 b hb with h | ⟨h,r,hr,hrb⟩
  ·exact .inl h
  ·refine .inr ⟨h,?_⟩
   rcases List.mem_cons.1 hr with rfl | hr
   ·exact⟨r,List.mem_cons_self ..,hrb⟩
   ·rcases List.mem_cons.1 hr with rfl | hr
    ·exact⟨q,List.mem_cons_of_mem _ (List.mem_cons_self ..),hf b hrb⟩
    ·exact⟨r,List.mem_cons_of_mem _ (List.mem_cons_of_mem _ hr),hrb⟩
def shm(q:List Int)(c:Int)(s i:Nat):List Int:=mk (s+i) fun t=>if t<s then 0 else c*cf q (t-s)
theorem Yfw(q:List Int)(c:Int)(s t:Nat):cf (shm q c s q.length) t=if s≤t∧t<s+q.length then c*cf q (t-s)else 0:=by
 unfold shm
 rw [Ol]
 by_cases h1:t<s
 ·rw [if_neg (by omega:¬(s≤t∧t<s+q.length))];split
  ·rfl
  ·rfl
 ·by_cases h2:t<s+q.length
  ·rw [if_pos h2,if_neg h1,if_pos (show s≤t∧t<s+q.length by omega)]
  ·rw [if_neg h2,if_neg (show ¬(s≤t∧t<s+q.length) by omega)]
section
variable {p q:List Int}
theorem Zi3(hq:0<q.length)(hl:q.length≤p.length):∀j,j≤p.length-q.length+1→∀t,p.length-j≤t→cf (Qg p q j) t=0
 | 0,_,t,ht=>Yj (by unfold Qg;omega)
 | j+1,hj,t,ht=>by
  rcases Nat.lt_or_ge t p.length with h | h
  ·unfold Qg
   rw [Zse (by rw [Mg];exact h)]
   by_cases he:t=p.length-1-j
   ·subst he
    rw [if_pos O,show p.length-1-j-(p.length-1-j-(q.length-1))=q.length-1 by omega]
    omega
   ·rw [Zi3 hq hl j O t O,Int.zero_mul,if_neg O];rfl
  ·exact Yj (by rw [Mg];omega)
def RestInv(p q R:List Int)(j:Nat):Prop:=Tr R∧∀t,cf R t=cf (Qg p q j) t*cf q (q.length-1)^(p.length-q.length+1-j)
end
end Go.Sky
namespace Go.Sky
section
variable {P:Program} {N:Nat} {sc:Nat→Prop} {env env':Qt} {H H':Hp}
end
end Go.Sky
namespace Go.Sky
def rterm(a b:Int):Nat→List Int
 | 0=>[1]
 | i+1=>Xm (rterm a b i) (tzl [a,b])
def rsum(p:List Int)(a b d:Int):Nat→List Int
 | 0=>[]
 | i+1=>Ct (rsum p a b d i) (Yb (rterm a b i) (cf p i*d^(p.length-1-i)))
def hs(f:Nat→PS):Nat→PS
 | 0=>0
 | n+1=>hs f n+f n
theorem Yck(p:List Int):ps (tzl p)=ps p:=PS.ext' fun i=>Ku p i
theorem C_c(n:Int)(i:Nat):(PS.C n).c i=if i=0 then n else 0:=by
 have h:=PS.C_mul_c n 1 i
 rw [show PS.C n*1=PS.C n from PS.mul_one' _,PS.one_c]at h
 rw [h];split<;>simp
abbrev RW:=List (Bool×ByteArray)
abbrev qR (z:SL×RW):Pc:=Ym 2 Zuh (Qo z.1) z.2
abbrev qZ (z:SL×List Int):Pc:=Ym 2 wv (Qo z.1) z.2
abbrev R0:SL×RW:=((none,0,0),[])
def short1(r:RW):Bool:=(decide (r.length≤14) || decide (r.length=26)) && r.all fun c=>decide (c.2.size≤16)
def shortb(ls:List RW):Bool:=ls.all short1
theorem Zhl {P:Program} {N:Nat} {sc:Nat→Prop} {M:Nat→Prop} {env:Qt} {H:Hp} {ops:Array Oper} {F:Qt→Hp→Prop} {rest:List (Nat×Nat)} {i:Nat} {o:Oper} {G:Type} {φ:G→Prop} {genv:G→Qt} {gH:G→Hp} {j e:Nat} {b:Bool} (ho:ops[i]? = some o) (hg:o.guard=some (j,b)) (hj:(ops[j]?).bind (·.dst)=some e) (he:lk env e=some (.bool b)) (heN:Nat.blt e N=true) (ht:T P N sc M o env H φ genv gH)
  (h:∀g,φ g→LD P N sc M ops F rest (genv g) (gH g)) :
  LD P N sc M ops F ((i,1) :: rest) env H:=r1g ht ho hg hj he heN h
theorem Cb{f:Nat→Int}{k:Nat} : ∀{n:Nat},k<n→(∀i,i<n→i≠k→f i=0)→Ye f n=f k
 | 0,hk,_=>absurd hk (Nat.not_lt_zero _)
 | n+1,hk,h=>by
  rw [Yk]
  by_cases e:k=n
  ·subst e
   rw [Gp fun i hi=>h i O O,Int.zero_add]
  ·rw [h n O (fun x=>e x.symm),Cb O (fun i hi=>h i O),Int.add_zero]
theorem Cm{p q:List Int}{a b:Nat}(ha:∀i,a<i→cf p i=0)(hb:∀i,b<i→cf q i=0):(ps p*ps q).c (a+b)=cf p a*cf q b:=by
 rw [PS.mul_c,Cb (k:=a) O fun i hi hne=>?_]
 ·rw [Om,Om,show a+b-a=b by omega]
 ·rw [Om,Om]
  rcases Nat.lt_or_ge a i with h | h
  ·rw [ha i h,Int.zero_mul]
  ·rw [hb (a+b-i) O,Int.mul_zero]
theorem Zjs(s s':List Int)(c c':Int)(f:PS)(t:Nat):(ps (Cr (Yb s c) (Yb s' c'))*f).c t=c*(ps s*f).c t-c'*(ps s'*f).c t:=by
 rw [PS.mul_c,PS.mul_c,PS.mul_c,←Oy,Int.sub_eq_add_neg,←Int.neg_mul,←Oy,←Dn]
 refine Yh fun k _=>?_
 rw [Om,Om,Om,Dl,Yy,Yy]
 grind
theorem Yig{q s r:List Int}(hq:Tr q)(hq0:q≠[])(h:∀t,(ps s*ps q).c t=cf r t)(hr:∀t,q.length-1≤t→cf r t=0):∀t,cf s t=0:=by
 have hlead:=hq.mem hq0
 have hlen:0<q.length:=List.length_pos_iff.2 hq0
 have hs:tzl s=[]:=by
  rcases Zhy (tzl s)with h1 | ⟨ys,y,h1⟩
  ·exact h1
  ·exfalso
   have ht:=Qm s
   have hne:tzl s≠[]:=by rw [h1];simp
   have h2:=ht.mem hne
   have h3:=Cm (p:=tzl s) (q:=q) (a:=(tzl s).length-1) (b:=q.length-1) (fun i hi=>Yj O) (fun i hi=>Yj O)
   have h4:ps (tzl s)=ps s:=PS.ext' fun i=>Ku s i
   rw [h4,h,hr _ O]at h3
   rcases Int.mul_eq_zero.1 h3.symm with h5 | h5
   ·exact h2 h5
   ·exact hlead h5
 exact(Mv s).1 hs
theorem Le{s:List Int}(h:∀t,cf s t=0)(f:PS)(t:Nat):(ps s*f).c t=0:=by
 rw [PS.mul_c]
 exact Gp fun k _=>by rw [Om,h,Int.zero_mul]
theorem Pg{p q:List Int}(hp:Tr p)(hq:Tr q)(h1:p≠[])(h2:q≠[]):(Xm p q).length=p.length+q.length-1:=by
 have l1:=List.length_pos_iff.2 h1
 have l2:=List.length_pos_iff.2 h2
 unfold Xm
 rw [Aq,Yi]
 right
 rw [Yi,Ol,if_pos O,show p.length+q.length-1-1=(p.length-1)+(q.length-1) by omega,Cm (fun i hi=>Yj O) (fun i hi=>Yj O)]
 exact Int.mul_ne_zero (hp.mem h1) (hq.mem h2)
def mono(s:Nat)(c:Int):List Int:=List.replicate s 0 ++ [c]
theorem Zib(s:Nat)(c:Int)(i:Nat):cf (mono s c) i=if i=s then c else 0:=by
 unfold mono
 rw [Zcz,List.length_replicate]
 split
 ·rw [if_neg O]
  unfold cf
  simp [List.getD_eq_getElem?_getD,List.getElem?_replicate]
  split<;>rfl
 ·rename_i h
  split
  ·rename_i h2;subst h2;simp [cf]
  ·exact Yj O8
theorem Zjt(s:Nat)(c:Int)(f:PS)(t:Nat):(ps (mono s c)*f).c t=if s≤t then c*f.c (t-s)else 0:=by
 rw [PS.mul_c]
 split
 ·rw [Cb (k:=s) O fun i _ hne=>by rw [Om,Zib,if_neg hne,Int.zero_mul],Om,Zib,if_pos rfl]
 ·exact Gp fun k hk=>by rw [Om,Zib,if_neg O,Int.zero_mul]
theorem Zf8{p q:List Int}(hq:0<q.length)(hl:q.length≤p.length):∀j,j≤p.length-q.length+1→∃s:List Int,∀t,cf q (q.length-1)^j*cf p t=(ps s*ps q).c t+cf (Qg p q j) t
 | 0,_=>⟨[],fun t=>by rw [Le (fun t=>Yj (Nat.zero_le _)),Int.pow_zero];unfold Qg;omega⟩
 | j+1,hj=>by
  obtain⟨s,ih⟩:=Zf8 hq hl j O
  refine⟨Cr (Yb s (cf q (q.length-1))) (Yb (mono (p.length-1-j-(q.length-1)) (cf (Qg p q j) (p.length-1-j))) (-1)),fun t=>?_⟩
  rw [Zjs,Zjt]
  have h0:=ih t
  show _=_+cf (Zg2 q (Qg p q j) (p.length-1-j)) t
  rw [Int.pow_succ]
  rcases Nat.lt_or_ge t p.length with h | h
  ·rw [Zse (by rw [Mg];exact h)]
   generalize p.length-1-j-(q.length-1)=sh
   generalize cf (Qg p q j) (p.length-1-j)=R
   generalize cf (Qg p q j) t=R' at h0 ⊢
   generalize (ps s*ps q).c t=X at h0 ⊢
   generalize cf q (q.length-1)^j=L at h0 ⊢
   generalize cf q (q.length-1)=l at h0 ⊢
   have e:L*l*cf p t=l*X+R'*l:=by rw [Int.mul_assoc,Int.mul_comm l,←Int.mul_assoc,h0];grind
   rw [e]
   by_cases h1:sh≤t
   ·rw [if_pos h1,Om]
    by_cases h2:t<sh+q.length
    ·rw [if_pos ⟨h1,h2⟩];omega
    ·rw [if_neg O,Yj (p:=q) (i:=t-_) O];omega
   ·rw [if_neg h1,if_neg O];omega
  ·have z1:cf p t=0:=Yj h
   have z2:cf (Qg p q j) t=0:=Yj (by rw [Mg];exact h)
   have z3:cf (Zg2 q (Qg p q j) (p.length-1-j)) t=0:=Yj (by rw [Zfa,Mg];exact h)
   have z4:cf q (t-(p.length-1-j-(q.length-1)))=0:=Yj O
   rw [z1,z2,Int.mul_zero,Int.add_zero]at h0
   rw [z1,z3,if_pos O,Om,z4,←h0];simp
theorem Bv(p:List Int){q:List Int}(hq:q≠[]):∃(k:Nat) (s:List Int),∀t,cf q (q.length-1)^k*cf p t=(ps s*ps q).c t+cf (Xy p q) t:=by
 have hq':0<q.length:=List.length_pos_iff.2 hq
 rcases Nat.lt_or_ge p.length q.length with h | h
 ·refine⟨0,[],fun t=>?_⟩
  rw [Le (fun t=>Yj (Nat.zero_le _)),Int.pow_zero]
  unfold Xy;rw [if_pos h];omega
 ·obtain⟨s,hs⟩:=Zf8 hq' h _ (Nat.le_refl _)
  refine⟨p.length-q.length+1,s,fun t=>?_⟩
  rw [hs t]
  unfold Xy
  rw [if_neg O,Ku]
theorem Pi(p:List Int){q:List Int}(hq:q≠[]):(Xy p q).length<q.length:=by
 have hq':0<q.length:=List.length_pos_iff.2 hq
 unfold Xy
 split
 ·assumption
 ·have:=Ar (p:=Qg p q (p.length-q.length+1)) (n:=q.length-1) fun i hi=>Zi3 hq' O _ (Nat.le_refl _) i O
  omega
theorem Kg{p q:List Int}(hp:Tr p):Tr (Xy p q):=by
 unfold Xy;split
 ·exact hp
 ·exact Qm _
def Sim(a b:List Int):Prop:=∃m n:Int,m≠0∧n≠0∧∀i,m*cf a i=n*cf b i
theorem Sim.refl(a:List Int):Sim a a:=⟨1,1,O3,O3,fun _=>rfl⟩
theorem Sim.symm{a b:List Int} : Sim a b→Sim b a:=fun⟨m,n,hm,hn,h⟩=>⟨n,m,hn,hm,fun i=>(h i).symm⟩
theorem Sim.trans{a b c:List Int} : Sim a b→Sim b c→Sim a c:=fun⟨m,n,hm,hn,h⟩ ⟨u,v,hu,hv,k⟩=>
 ⟨m*u,n*v,Int.mul_ne_zero hm hu,Int.mul_ne_zero hn hv,fun i=>by have h1:=h i;have h2:=k i;grind⟩
theorem Sim.zero{a b:List Int}(h:Sim a b){i:Nat}(hi:cf a i=0):cf b i=0:=by
 obtain⟨m,n,hm,hn,h⟩:=h
 have:=h i
 rw [hi,Int.mul_zero]at this
 rcases Int.mul_eq_zero.1 this.symm with h | h
 ·exact absurd h hn
 ·exact h
theorem Sim.len_le{a b:List Int}(h:Sim a b)(hb:Tr b):b.length≤a.length:=by
 rcases Nat.lt_or_ge a.length b.length with hl | hl
 ·exfalso
  have hne:b≠[]:=List.length_pos_iff.1 O
  exact hb.mem hne (h.zero (Yj O))
 ·exact hl
theorem Sim.len{a b:List Int}(h:Sim a b)(ha:Tr a)(hb:Tr b):a.length=b.length:=Nat.le_antisymm (h.symm.len_le ha) (h.len_le hb)
theorem Sim.nil{a b:List Int}(h:Sim a b)(hb:Tr b)(ha:a=[]):b=[]:=by
 have:=h.len_le hb
 rw [ha]at this
 exact List.eq_nil_of_length_eq_zero (by simpa using this)
theorem Zay(c:Int):∀(p:List Int) (g:Int),0≤g→(p.map (· * c)).foldl (fun g c=>(Int.gcd g c:Int)) (g*c.natAbs)=p.foldl (fun g c=>(Int.gcd g c:Int)) g*c.natAbs
 | [],g,_=>rfl
 | x :: p,g,hg=>by
  rw [List.map_cons,List.foldl_cons,List.foldl_cons,←Zay c p _ O]
  congr 1
  have:Int.gcd (g*(c.natAbs:Int)) (x*c)=Int.gcd g x*c.natAbs:=by
   unfold Int.gcd
   rw [Int.natAbs_mul,Int.natAbs_mul,Int.natAbs_natCast,Nat.gcd_mul_right]
  rw [this];push_cast;rfl
theorem Zgd(p:List Int)(c:Int):Ys (p.map (· * c))=Ys p*c.natAbs:=by
 have:=Zay c p 0 (Int.le_refl _)
 rw [Int.zero_mul]at this
 exact this
theorem Iw(p:List Int)(i:Nat):cf (Zu p) i*Ys p=cf p i:=by
 rw [Ai];exact Int.ediv_mul_cancel (Mh p i)
theorem Zzb:Zu []=[]:=rfl
theorem Ch{p:List Int}(h:Tr p)(h0:p≠[]):Ys p≠0:=fun e=>h.mem h0 ((Zbi p).1 e _)
theorem La{p:List Int}(h:Tr p)(h0:p≠[]):Ys (Zu p)=1:=by
 have h1:=Ch h h0
 have h2:=Zgd (Zu p) (Ys p)
 rw [show(Zu p).map (· * Ys p)=p from Lo (by rw [List.length_map,Zt]) fun i _=>by rw [Zd0 _ _ O5];exact Iw p i]at h2
 have h3:=Oe p
 have h4:Ys p*(Ys (Zu p)-1)=0:=by
  rw [Int.mul_sub,Int.mul_one,Int.mul_comm]
  have:((Ys p).natAbs:Int)=Ys p:=O
  rw [this]at h2;omega
 rcases Int.mul_eq_zero.1 h4 with h5 | h5<;>omega
theorem Zeu{p:List Int}(h:Ys p=1):Zu p=p:=Lo (Zt p) fun i _=>by rw [Ai,h,Int.ediv_one]
theorem Cg{p:List Int}(h:Tr p):Zu (Zu p)=Zu p:=by
 by_cases h0:p=[]
 ·subst h0;rfl
 ·exact Zeu (La h h0)
theorem Xz{p:List Int}(h:Tr p):Sim (Zu p) p:=by
 by_cases h0:p=[]
 ·subst h0;exact Sim.refl _
 ·exact⟨Ys p,1,Ch h h0,O3,fun i=>by rw [Int.one_mul,Int.mul_comm];exact Iw p i⟩
def Yt(p:List Int):List Int:=Il (Zu p)
theorem Ziw{x y:List Int}(hx:Tr x)(hy:Tr y)(h0:x≠[])(h1:Ys x=1)(h2:Ys y=1)(h:Sim x y):x=y∨∀i,cf x i=- cf y i:=by
 have hl:=h.len hx hy
 obtain⟨m,n,hm,hn,e⟩:=h
 have h3:=Zgd x m
 have h4:=Zgd y n
 rw [show x.map (· * m)=y.map (· * n)from Lo (by simp [hl]) fun i _=>by
  rw [Zd0 _ _ O5,Zd0 _ _ O5,Int.mul_comm,Int.mul_comm (cf y i)];exact e i,h4,h1,h2]at h3
 have h5:m=n∨m=-n:=O
 rcases h5 with rfl | rfl
 ·exact .inl (Lo hl fun i _=>Int.eq_of_mul_eq_mul_left hm (e i))
 ·exact .inr fun i=>Int.eq_of_mul_eq_mul_left hn (by have:=e i;grind)
theorem Fe(g:List Int)(i:Nat):cf (Il g) i=if g.length≠0∧cf g (g.length-1)<0 then-cf g i else cf g i:=by
 unfold Il;split
 ·rw [Yy];omega
 ·rfl
theorem Ob{g:List Int}(h:Tr g):Tr (Il g):=by
 unfold Il;split
 ·exact Xi _ _
 ·exact h
theorem Kn(g:List Int):Sim (Il g) g:=by
 by_cases h:g.length≠0∧cf g (g.length-1)<0
 ·exact⟨-1,1,O3,O3,fun i=>by rw [Fe,if_pos h];omega⟩
 ·exact⟨1,1,O3,O3,fun i=>by rw [Fe,if_neg h]⟩
theorem Zwh{a b:List Int}(ha:Tr a)(hb:Tr b)(h:Sim a b):Yt a=Yt b:=by
 by_cases h0:a=[]
 ·rw [h.nil hb h0,h0]
 ·have h0':b≠[]:=fun e=>h0 (h.symm.nil ha e)
  have hs:Sim (Zu a) (Zu b):=(Xz ha).trans (h.trans (Xz hb).symm)
  have hx:=Yq ha
  have hy:=Yq hb
  have hl:=hs.len hx hy
  have hx0:Zu a≠[]:=fun e=>h0 (List.eq_nil_of_length_eq_zero (by rw [←Zt,e];rfl))
  rcases Ziw hx hy hx0 (La ha h0) (La hb h0') hs with e | e
  ·unfold Yt;rw [e]
  ·unfold Yt
   refine(Ob hx).ext (Ob hy) fun i=>?_
   rw [Fe,Fe,←hl,e i,e ((Zu a).length-1)]
   have hne:cf (Zu b) ((Zu a).length-1)≠0:=by rw [hl];exact hy.mem (fun e2=>hx0 (List.eq_nil_of_length_eq_zero (by rw [hl,e2];rfl)))
   have hl0:(Zu a).length≠0:=fun e2=>hx0 (List.eq_nil_of_length_eq_zero e2)
   by_cases h3:cf (Zu b) ((Zu a).length-1)<0
   ·rw [if_neg O,if_pos ⟨hl0,h3⟩]
   ·rw [if_pos O,if_neg O];omega
theorem Zro:∀(f:Nat) {a b:List Int},Tr a→Tr b→Tr (eu f a b)
 | 0,_,_,h,_=>h
 | f+1,a,b,ha,hb=>by
  unfold eu
  split
  ·exact ha
  ·exact Zro f hb (Yq (Kg ha))
theorem Zxa:∀(f:Nat) {a b:List Int},Tr a→Tr b→Zu a=a→Zu b=b→Zu (eu f a b)=eu f a b
 | 0,_,_,_,_,h,_=>h
 | f+1,a,b,ha,hb,h1,h2=>by
  unfold eu
  split
  ·exact h1
  ·exact Zxa f hb (Yq (Kg ha)) h2 (Cg (Kg ha))
theorem Zim{p q:List Int}(hp:Tr p)(hq:Tr q):Tr (gA p q):=by unfold gA;split<;>exact Yq ‹_›
theorem Zil{p q:List Int}(hp:Tr p)(hq:Tr q):Tr (gB p q):=by unfold gB;split<;>exact Yq ‹_›
theorem Ycz{F:Nat}{p q:List Int}(hp:Tr p)(hq:Tr q):Nr F p q=Yt (eu F (gA p q) (gB p q)):=by
 unfold Nr Yt
 rw [Zxa F (Zim hp hq) (Zil hp hq)]
 ·unfold gA;split
  ·exact Cg hq
  ·exact Cg hp
 ·unfold gB;split
  ·exact Cg hp
  ·exact Cg hq
def chk:Nat→Nat→Nat→Nat→Nat→Bool
 | 0,_,lb,_,_=>Nat.beq lb 0
 | f+1,la,lb,A,B=>Nat.beq lb 0 || (bif Nat.blt la lb then chk f lb la B A else
   Nat.ble (A+(la-lb+1)*B) 65537 && (List.range lb).all fun l=>chk f lb l B (bif Nat.ble l 1 then 2 else A+(la-lb+1)*B))
theorem cp_nf{p:List Int}{x y z:Int}{n m:Nat}(hp:Sz n p)(hx:bl x.natAbs≤m)(hy:bl y.natAbs≤m)(hz:bl z.natAbs≤m)(hl:p.length≤25)(hF:n+24*(m+1)+8≤65536):Qh p+(p.length-1)*(Qh [x,y,z]+1)+8≤65536:=by
 have h1:=Qz hp
 have h2:Qh [x,y,z]≤m:=by simp only [Qh];omega
 have h3:(p.length-1)*(Qh [x,y,z]+1)≤24*(m+1):=Nat.mul_le_mul O O
 omega
theorem cp_not{p:List Int}{x y z:Int}(h:Qh p+(p.length-1)*(Qh [x,y,z]+1)+8≤65536):¬Zkp p x y z:=fun h2=>by have:=h2.2;omega
theorem Zdr(p:List Int)(x y z:Int):(Lm p x y z).length≤p.length:=by
 unfold Lm
 split
 ·exact Nat.zero_le _
 ·refine Nat.le_trans (Kx _) ?_
  rw [Zbp];omega
theorem Zq9(x y:Int):Nh x y∣x:=by
 unfold Nh;split
 ·exact Int.neg_dvd.2 (Int.gcd_dvd_left ..)
 ·exact Int.gcd_dvd_left ..
theorem Zj0(x y:Int):Nh x y∣y:=by
 unfold Nh;split
 ·exact Int.neg_dvd.2 (Int.gcd_dvd_right ..)
 ·exact Int.gcd_dvd_right ..
def s8(l:List Int):Prop:=∀x∈l,(Xp x.natAbs).size≤8
abbrev Z0:SL×List Int:=((none,0,0),[])
theorem vp_eu:∀(f:Nat) {a b:List Int},Vp a→Vp b→eok f a b→Vp (eu f a b)
 | 0,_,_,h,_,_=>h
 | f+1,a,b,ha,hb,h=>by
  unfold eu
  split
  ·exact ha
  ·rcases h with h | h
   ·contradiction
   ·exact vp_eu f hb (Kf (Za6 ha h.1)) h.2
theorem Yas{g:List Int}(h:Vp g):Vp (Il g):=by
 unfold Il
 split
 ·refine⟨fun i=>by rw [Yy];exact Zau h.sz i,Xi _ _,Nat.le_trans (Ib _ _) h.len⟩
 ·exact h
theorem Ygt{F:Nat}{p q:List Int}(hp:Vp p)(hq:Vp q)(h:eok F (gA p q) (gB p q)):Vp (Nr F p q):=Yas (vp_eu F (vp_gA hp hq) (vp_gB hp hq) h)
def pevn(p:List Int)(x y:Int)(n:Nat):Int:=Ye (fun i=>cf p i*(x^i*y^(n-1-i))) n
def dn(p:List Int)(y:Int):Int:=y^(p.length-1)
theorem Yc0{p q:List Int}(hp:Tr p)(hq:Tr q)(h1:p≠[])(h2:q≠[])(x y:Int):pev (Xm p q) x y=pev p x y*pev q x y:=by
 have l1:=List.length_pos_iff.2 h1
 have l2:=List.length_pos_iff.2 h2
 unfold pev
 rw [Pg hp hq h1 h2]
 obtain⟨Fk,hF⟩:∃Fk:Nat→Nat→Int,∀k j,Fk k j=cf p k*cf q j*(x^(k+j)*y^(p.length+q.length-1-1-(k+j))):=⟨_,fun _ _=>rfl⟩
 have e1:Ye (fun i=>cf (Xm p q) i*(x^i*y^(p.length+q.length-1-1-i))) (p.length+q.length-1)=Ye (fun i=>Ye (fun k=>Fk k (i-k)) (i+1)) (p.length+q.length-1):=by
  refine Yh fun i _=>?_
  rw [Kv,PS.mul_c,←Au]
  exact Yh fun k hk=>by
   rw [hF,show k+(i-k)=i by omega];rfl
 rw [e1,Zf3,Bn (m:=p.length) O fun k h1 h2=>Gp fun j _=>by rw [hF,Yj h1,Int.zero_mul,Int.zero_mul],←Au]
 refine Yh fun k hk=>?_
 rw [Bn (m:=q.length) O fun j h1 h2=>by rw [hF,Yj h1,Int.mul_zero,Int.zero_mul],←Oy]
 refine Yh fun j hj=>?_
 rw [hF,Int.pow_add,show p.length+q.length-1-1-(k+j)=(p.length-1-k)+(q.length-1-j) by omega,Int.pow_add]
 generalize x^k=a;generalize x^j=b;generalize y^(p.length-1-k)=c;generalize y^(q.length-1-j)=d
 grind
theorem Ie(q:List Int):Xm [] q=[]:=Zev (.inl rfl)
theorem Zaf(p:List Int):Xm p []=[]:=Zev (.inr rfl)
theorem Yee(N D:Int):N/Nh N D*D=N*(D/Nh N D):=by
 have h1:=Int.ediv_mul_cancel (Zq9 N D)
 have h2:=Int.ediv_mul_cancel (Zj0 N D)
 generalize N/Nh N D=n at *
 generalize D/Nh N D=d at *
 generalize Nh N D=g at *
 subst h1 h2
 grind
theorem Zzu{N D:Int}(h:0<D):0<D/Nh N D:=by
 have h1:Nh N D=(Int.gcd N D:Int):=if_neg O
 have h2:=Int.ediv_mul_cancel (Zj0 N D)
 rw [h1]at h2 ⊢
 generalize D/(Int.gcd N D:Int)=d at *
 rcases Int.lt_or_le 0 d with h3 | h3
 ·exact h3
 ·exfalso
  have:d*(Int.gcd N D:Int)≤0:=Int.mul_nonpos_of_nonpos_of_nonneg h3 O
  omega
section
variable {p q:List Int}
theorem Zdx(hp:Tr p)(hq:Tr q)(h1:p≠[])(h2:q≠[]):∀j,j≤p.length→∀t,cf (Qk (Xm p q) q j) t=(ps (p.take (p.length-j))*ps q).c t
 | 0,_,t=>by
  rw [Nat.sub_zero,List.take_length];exact Kv p q t
 | j+1,hj,t=>by
  have ih:=Zdx hp hq h1 h2 j O
  have l1:=List.length_pos_iff.2 h1
  have l2:=List.length_pos_iff.2 h2
  have hl:=Pg hp hq h1 h2
  have e0:Qk (Xm p q) q (j+1)=Zkh q (Qk (Xm p q) q j) (p.length-1-j):=by
   show Zkh q _ _=_;rw [hl];congr 1;omega
  have hq0:=hq.mem h2
  have htop:cf (Qk (Xm p q) q j) (p.length-1-j+q.length-1)=cf p (p.length-1-j)*cf q (q.length-1):=by
   rw [ih,show p.length-1-j+q.length-1=(p.length-1-j)+(q.length-1) by omega,Cm (fun i hi=>by rw [Fb,if_neg O]) (fun i hi=>Yj O),Fb,if_pos O]
  have hdq:dq q (Qk (Xm p q) q j) (p.length-1-j)=cf p (p.length-1-j):=by
   unfold dq;rw [htop];exact Int.mul_ediv_cancel _ hq0
  have e1:(ps (p.take (p.length-j))*ps q).c t=(ps (p.take (p.length-(j+1)))*ps q).c t+(ps (mono (p.length-1-j) (cf p (p.length-1-j)))*ps q).c t:=by
   rw [PS.mul_c,PS.mul_c,PS.mul_c,←Dn]
   refine Yh fun k _=>?_
   rw [Om,Om,Om,Om,Fb,Fb,Zib]
   by_cases a1:k=p.length-1-j
   ·rw [if_pos O,if_neg O,if_pos a1,←a1];omega
   ·rw [if_neg a1]
    by_cases a2:k<p.length-j
    ·rw [if_pos a2,if_pos O];omega
    ·rw [if_neg a2,if_neg O];omega
  rw [e0]
  unfold Zkh
  rw [Ol,Bk,hl,hdq,ih,e1,Zjt,Om]
  by_cases b1:t<p.length+q.length-1
  ·rw [if_pos b1]
   by_cases b2:p.length-1-j≤t
   ·rw [if_pos b2]
    by_cases b3:t<p.length-1-j+q.length
    ·rw [if_pos ⟨b2,b3⟩];omega
    ·rw [if_neg O,Yj (p:=q) O];omega
   ·rw [if_neg b2,if_neg O];omega
  ·rw [if_neg b1,PS.mul_c]
   refine(Gp fun k _=>?_).symm
   rw [Om,Om,Fb]
   split
   ·rw [Yj (p:=q) O,Int.mul_zero]
   ·rw [Int.zero_mul]
theorem Znz(hp:Tr p)(hq:Tr q)(h2:q≠[]):pdv (Xm p q) q∧Ll (Xm p q) q=p:=by
 by_cases h1:p=[]
 ·subst h1;rw [Ie];exact⟨.inl rfl,rfl⟩
 have l1:=List.length_pos_iff.2 h1
 have l2:=List.length_pos_iff.2 h2
 have hl:=Pg hp hq h1 h2
 have hq0:=hq.mem h2
 have hd:∀k,k≤p.length-1→cf (Qk (Xm p q) q (p.length-1-k)) (k+q.length-1)=cf p k*cf q (q.length-1):=fun k hk=>by
  rw [Zdx hp hq h1 h2 _ O,show k+q.length-1=k+(q.length-1) by omega,Cm (fun i hi=>by rw [Fb,if_neg O]) (fun i hi=>Yj O),Fb,if_pos O]
 have hn:(Xm p q).length-q.length=p.length-1:=O
 have hne:Xm p q≠[]:=List.length_pos_iff.1 O
 refine⟨.inr ⟨O,fun k hk=>?_,?_⟩,?_⟩
 ·unfold Ks;rw [hn]at hk ⊢;rw [hd k hk];exact Int.mul_emod_left _ _
 ·rw [hn,show p.length-1+1=p.length by omega]
  refine(Mv _).2 fun i=>?_
  rw [Zdx hp hq h1 h2 _ (Nat.le_refl _),Nat.sub_self,List.take_zero]
  exact Le (fun t=>Yj (Nat.zero_le _)) _ _
 ·rw [Zqq hne]
  unfold Ycn
  rw [hn,show p.length-1+1=p.length by omega,Ho (g:=cf p) fun k hk=>?_,Ze6,Aq hp]
  unfold Zxk dq
  rw [hn,hd k O]
  exact Int.mul_ediv_cancel _ hq0
end
def Dv(g a:List Int):Prop:=∃(k:Int) (s:List Int),k≠0∧∀t,k*cf a t=(ps s*ps g).c t
theorem Zqy(f:PS)(t:Nat):(ps [1]*f).c t=f.c t:=by
 rw [PS.mul_c,Cb (k:=0) O fun i _ hne=>by rw [Om,Yj (p:=[1]) O8,Int.zero_mul],Om,show cf [1] 0=1 from rfl,Int.one_mul,Nat.sub_zero]
theorem Dv.refl(a:List Int):Dv a a:=⟨1,[1],O3,fun t=>by rw [Zqy,Int.one_mul,Om]⟩
theorem Dv.nil(g:List Int):Dv g []:=⟨1,[],O3,fun t=>by rw [Le (fun t=>Yj (Nat.zero_le _)),Yj (Nat.zero_le _)];rfl⟩
theorem Dv.sim{g a b:List Int} : Dv g a→Sim a b→Dv g b:=fun⟨k,s,hk,h⟩ ⟨m,n,hm,hn,e⟩=>
 ⟨k*n,Yb s m,Int.mul_ne_zero hk hn,fun t=>by
  rw [PS.mul_c,show(fun i=>(ps (Yb s m)).c i*(ps g).c (t-i))=fun i=>m*((ps s).c i*(ps g).c (t-i))from funext fun i=>by rw [Om,Om,Om,Yy];grind,Oy,←PS.mul_c,←h,Int.mul_assoc,←e];grind⟩
theorem Dv.lin{g a b c:List Int}(ha:Dv g a)(hb:Dv g b)(s:List Int)(L:Int)(hL:L≠0)(h:∀t,L*cf c t=(ps s*ps a).c t+cf b t):Dv g c:=by
 obtain⟨k,u,hk,h1⟩:=ha
 obtain⟨m,v,hm,h2⟩:=hb
 refine⟨L*(k*m),Ct (Yb (Xm s u) m) (Yb v k),Int.mul_ne_zero hL (Int.mul_ne_zero hk hm),fun t=>?_⟩
 have e1:ps g=ps g:=rfl
 have e2:k*(ps s*ps a).c t=(ps (Xm s u)*ps g).c t:=by
  rw [Znr,PS.mul_assoc',PS.mul_c,PS.mul_c,←Oy]
  refine Yh fun i _=>?_
  rw [←h1,Om,Om];grind
 have e3:(ps (Ct (Yb (Xm s u) m) (Yb v k))*ps g).c t=m*(ps (Xm s u)*ps g).c t+k*(ps v*ps g).c t:=by
  rw [PS.mul_c,PS.mul_c,PS.mul_c,←Oy,←Oy,←Dn]
  refine Yh fun i _=>?_
  rw [Om,Om,Om,Om,Zcy,Yy,Yy];grind
 have h0:=h t
 have h3:=h2 t
 rw [e3,←e2,←h3]
 generalize (ps s*ps a).c t=X at *
 generalize cf c t=C at *
 generalize cf b t=B at *
 have:L*(k*m)*C=k*m*(L*C):=O4
 rw [this,h0];grind
theorem eu_dv:∀(f:Nat) {a b:List Int},Tr a→Tr b→eok f a b→Dv (eu f a b) a∧Dv (eu f a b) b
 | 0,a,b,ha,hb,h=>by rw [show b=[]from h];exact⟨Dv.refl _,Dv.nil _⟩
 | f+1,a,b,ha,hb,h=>by
  by_cases h0:b=[]
  ·subst h0;rw [Zgj];exact⟨Dv.refl _,Dv.nil _⟩
  ·rcases h with h | h
   ·exact absurd h h0
   ·have e:eu (f+1) a b=eu f b (Zu (Xy a b)):=by
     conv=>lhs;unfold eu
     rw [if_neg h0]
    rw [e]
    have t1:=Kg (q:=b) ha
    obtain⟨d1,d2⟩:=eu_dv f hb (Yq t1) h.2
    obtain⟨k,s,hs⟩:=Bv a h0
    exact⟨d1.lin (d2.sim (Xz t1)) s _ (Lf (hb.mem h0) k) hs,d1⟩
theorem Dv.of_sim{g g' a:List Int} : Dv g a→Sim g g'→Dv g' a:=fun⟨k,s,hk,h⟩ ⟨m,n,hm,hn,e⟩=>
 ⟨m*k,Yb s n,Int.mul_ne_zero hm hk,fun t=>by
  rw [Int.mul_assoc,h,PS.mul_c,PS.mul_c,←Oy]
  refine Yh fun i _=>?_
  rw [Om,Om,Om,Om,Yy]
  have:=e (t-i)
  grind⟩
theorem Dv.zero{a:List Int}(ha:Tr a)(h:Dv [] a):a=[]:=by
 obtain⟨k,s,hk,h⟩:=h
 rw [←Aq ha,Mv]
 intro i
 have h1:=h i
 rw [PS.mul_comm',Le (fun t=>Yj (Nat.zero_le _))]at h1
 rcases Int.mul_eq_zero.1 h1 with h2 | h2
 ·exact absurd h2 hk
 ·exact h2
theorem Zci{F:Nat}{p q:List Int}(hp:Tr p)(hq:Tr q)(h:eok F (gA p q) (gB p q)):Dv (Nr F p q) p∧Dv (Nr F p q) q:=by
 have hA:=Zim hp hq
 have hB:=Zil hp hq
 obtain⟨h1,h2⟩:=eu_dv F hA hB h
 have hs:Sim (eu F (gA p q) (gB p q)) (Nr F p q):=(Kn _).symm
 have h1:=h1.of_sim hs
 have h2:=h2.of_sim hs
 by_cases hl:p.length<q.length
 ·rw [show gA p q=Zu q from if_pos hl]at h1
  rw [show gB p q=Zu p from if_pos hl]at h2
  exact⟨h2.sim (Xz hp),h1.sim (Xz hq)⟩
 ·rw [show gA p q=Zu p from if_neg hl]at h1
  rw [show gB p q=Zu q from if_neg hl]at h2
  exact⟨h1.sim (Xz hp),h2.sim (Xz hq)⟩
theorem Zee{F:Nat}{p q:List Int}(hp:Tr p)(hq:Tr q):Tr (Nr F p q):=Ob (Zro F (Zim hp hq) (Zil hp hq))
theorem Zdg(p:List Int){c:Int}(h:c≠0):Sim p (Yb p c):=⟨c,1,h,O3,fun i=>by rw [Yy];grind⟩
def fin8(la A:Nat):Bool:=Nat.ble la 2 || Nat.ble (64+(9-la)*A) 65536
def chk2:Nat→Nat→Nat→Nat→Nat→Bool
 | 0,la,_,A,_=>fin8 la A
 | f+1,la,lb,A,B=>bif Nat.beq lb 0 then fin8 la A else bif Nat.blt la lb then chk2 f lb la B A else
   (List.range lb).all fun l=>chk2 f lb l B (bif Nat.ble l 1 then 2 else A+(la-lb+1)*B)
theorem Zak{g:List Int}(h:Tr g):(Il g).length=g.length:=(Kn g).len (Ob h) h
theorem Zg6(g:List Int):Ys (Il g)=Ys g:=by
 have d1:Ys (Il g)∣Ys g:=Gk fun i=>by
  have h:=Mh (Il g) i
  rw [Fe]at h
  split at h
  ·exact Int.dvd_neg.1 h
  ·exact h
 have d2:Ys g∣Ys (Il g):=Gk fun i=>by
  rw [Fe];split
  ·exact Int.dvd_neg.2 (Mh g i)
  ·exact Mh g i
 exact Int.dvd_antisymm (Oe _) (Oe _) d1 d2
theorem Zjk{F:Nat}{p q:List Int}(hp:Tr p)(hq:Tr q)(h0:Nr F p q≠[]):Ys (Nr F p q)=1:=by
 rw [Ycz hp hq]at h0 ⊢
 unfold Yt at h0 ⊢
 rw [Zg6]
 refine La (Zro F (Zim hp hq) (Zil hp hq)) fun e=>h0 ?_
 rw [e];rfl
end Go.Sky
namespace Go.Sky
def Br(xs:List Int):Prop:=xs.length=0∨(xs.length+2)*(xs.length+2)*(Qh xs+16)≤65536
instance (xs:List Int):Decidable (Br xs):=by unfold Br;infer_instance
def sqf(F:Nat)(xs:List Int):List Int:=Ll (Yt xs) (Nr F (Yt xs) (Yo (Yt xs)))
def Yhd(F:Nat)(xs:List Int):Prop:=(∀i,i<xs.length→bl (cf (Yt xs) (i+1)*((i:Int)+1)).natAbs≤65536)∧¬Zmm (Yt xs) (Yo (Yt xs))∧eok F (gA (Yt xs) (Yo (Yt xs))) (gB (Yt xs) (Yo (Yt xs)))∧
 Dk (Yt xs) (Nr F (Yt xs) (Yo (Yt xs)))=0∧pdv (Yt xs) (Nr F (Yt xs) (Yo (Yt xs)))
def Ou(x y:List Int):List Int:=if cf y (y.length-1)<0∧(x.length-y.length+1)%2=1 then Zu (Xy x y)else Yb (Zu (Xy x y)) (-1)
def cok:Nat→List Int→List Int→Prop
 | 0,_,y=>y=[]
 | f+1,x,y=>y=[]∨(Dk x y=0∧y.length≤x.length∧cok f y (Ou x y))
def Nx:Nat→List Int→List Int→List (List Int)
 | 0,x,_=>[x]
 | f+1,x,y=>if y=[]then [x]else x :: Nx f y (Ou x y)
theorem Ce(f:Nat)(x:List Int):Nx f x []=[x]:=by cases f<;>rfl
theorem Zkr{f:Nat}{a b:List Int}(h:cok f a b)(hb:b≠[]):∃g,f=g+1∧Dk a b=0∧b.length≤a.length∧cok g b (Ou a b)∧Nx f a b=a :: Nx g b (Ou a b):=by
 cases f with
 | zero=>exact absurd h hb
 | succ g=>
  rcases h with h | h
  ·exact absurd h hb
  ·exact⟨g,rfl,h.1,h.2.1,h.2.2,by show(if b=[]then [a]else _)=_;rw [if_neg hb]⟩
def chn(F:Nat)(xs:List Int):List (List Int):=Nx F (sqf F xs) (Zu (Yo (sqf F xs)))
def Cv(F:Nat)(xs:List Int):Prop:=Yhd F xs∧(∀i,i<xs.length→bl (cf (sqf F xs) (i+1)*((i:Int)+1)).natAbs≤65536)∧cok F (sqf F xs) (Zu (Yo (sqf F xs)))
theorem Yar{p:List Int}(h:Vp p):Vp (Yt p):=by
 unfold Yt
 have h1:=Kf h
 refine⟨fun i=>?_,Ob h1.tr,by rw [Zak h1.tr];exact h1.len⟩
 rw [Fe];split
 ·rw [Int.natAbs_neg];exact h1.sz i
 ·exact h1.sz i
theorem Qr{p:List Int}(h:Tr p):(Yt p).length=p.length:=by unfold Yt;rw [Zak (Yq h),Zt]
theorem Zpv{x y:List Int}(hx:Vp x)(hd:Dk x y=0):Vp (Ou x y):=by
 have h:=Kf (Za6 hx hd)
 unfold Ou
 split
 ·exact h
 ·exact⟨fun i=>by rw [Yy];exact Zau h.sz i,Xi _ _,Nat.le_trans (Ib _ _) h.len⟩
def Nu(s:Int×Int)(x:Int):Int×Int:=if x=0 then s else(if x=-s.2 then s.1+1 else s.1,x)
def chg(l:List Int):Int:=(l.foldl Nu (0,0)).1
theorem Zdt{α β:Type}(f:α→β→α)(a:α)(l:List β)(x:β):(l ++ [x]).foldl f a=f (l.foldl f a) x:=O5
theorem chg1_n(s:Int×Int)(x:Int):(Nu s x).1=s.1∨(Nu s x).1=s.1+1:=by
 unfold Nu;split
 ·exact .inl rfl
 ·dsimp only;split
  ·exact .inr rfl
  ·exact .inl rfl
def sgs(ls:List (List Int))(x y:Int):List Int:=ls.map fun p=>(pev p x y).sign
def sgr(ls:List (List Int)):List Int:=ls.map fun p=>(cf p (p.length-1)).sign
def sgl(ls:List (List Int)):List Int:=ls.map fun p=>if p.length%2=0 then-(cf p (p.length-1)).sign else(cf p (p.length-1)).sign
def Bo(xs:List Int):Nat:=(xs.take (xs.length-1)).foldl (fun m c=>max m c.natAbs) 0
def Ay(xs:List Int):Int:=((Bo xs/(cf xs (xs.length-1)).natAbs:Nat):Int)+2
def Zur(xs:List Int):Int:=if xs.length=0 then 3 else if Br xs then 0 else 7
def ef(z:Int×Int):Bool:=decide (512<bl z.1.natAbs) || decide (512<bl z.2.natAbs)
def chk2r(xs:List Int)(x y x2 y2:Int):Int:=if xs.length=0 then 3 else if 0<x*y2-x2*y then 3 else if Br xs∧ef (x,y)=false∧ef (x2,y2)=false then 0 else 7
theorem Yj0{xs:List Int}(h0:xs≠[])(h:Br xs):Zur xs=0:=by
 unfold Zur
 rw [if_neg (fun e=>h0 (List.eq_nil_of_length_eq_zero e)),if_pos h]
theorem Zn4{xs:List Int}(h:¬cf (Zu xs) ((Zu xs).length-1)<0):Yt xs=Zu xs:=by
 unfold Yt Il;rw [if_neg O]
theorem Zn5{xs:List Int}(h0:(Zu xs).length≠0)(h:cf (Zu xs) ((Zu xs).length-1)<0):Yt xs=Yb (Zu xs) (-1):=by
 unfold Yt Il;rw [if_pos ⟨h0,h⟩]
theorem Zdv{P:Nat→Prop} : ∀n,P n→∃m,P m∧∀k,k<m→¬P k:=by
 intro n
 induction n using Nat.strongRecOn with
 | _ n ih=>
  intro h
  by_cases hx:∃k,k<n∧P k
  ·obtain⟨k,hk,hf⟩:=hx;exact ih k hk hf
  ·exact⟨n,h,fun k hk hf=>hx ⟨k,hk,hf⟩⟩
theorem Zzw{n:Nat}(h:2≤n):∃p,2≤p∧p∣n∧∀d,2≤d→d∣n→p≤d:=by
 obtain⟨p,⟨h1,h2⟩,h3⟩:=Zdv (P:=fun d=>2≤d∧d∣n) n ⟨h,Nat.dvd_refl n⟩
 exact⟨p,h1,h2,fun d hd hdn=>by
  rcases Nat.lt_or_ge d p with h4 | h4
  ·exact absurd ⟨hd,hdn⟩ (h3 d h4)
  ·exact h4⟩
theorem Zre{n p:Nat}(h1:2≤p)(h2:p∣n)(h3:∀d,2≤d→d∣n→p≤d)(hn:0<n){x y:Int}(h:(p:Int)∣x*y):(p:Int)∣x∨(p:Int)∣y:=by
 by_cases hx:(p:Int)∣x
 ·exact .inl hx
 ·right
  have hg:Nat.gcd p x.natAbs=1:=by
   have hd:=Nat.gcd_dvd_left p x.natAbs
   have h0:0<Nat.gcd p x.natAbs:=Nat.gcd_pos_of_pos_left _ O
   rcases Nat.lt_or_ge (Nat.gcd p x.natAbs) 2 with h4 | h4
   ·omega
   ·have h5:=h3 _ h4 (Nat.dvd_trans hd h2)
    have h6:=Nat.le_of_dvd O hd
    exfalso
    refine hx (Int.natAbs_dvd_natAbs.1 ?_)
    rw [Int.natAbs_natCast]
    have h7:Nat.gcd p x.natAbs=p:=O
    rw [←h7];exact Nat.gcd_dvd_right _ _
  have h8:=Int.natAbs_dvd_natAbs.2 h
  rw [Int.natAbs_natCast,Int.natAbs_mul]at h8
  refine Int.natAbs_dvd_natAbs.1 ?_
  rw [Int.natAbs_natCast]
  exact(show Nat.Coprime p x.natAbs from hg).dvd_of_dvd_mul_left h8
theorem gauss{g a:List Int}(hg:Ys g=1):∀(n:Nat) (k:Int) (s:List Int),k.natAbs=n→k≠0→(∀t,k*cf a t=(ps s*ps g).c t)→∃q:List Int,∀t,cf a t=(ps q*ps g).c t:=by
 intro n
 induction n using Nat.strongRecOn with
 | _ n ih=>
  intro k s hkn hk h
  rcases Nat.lt_or_ge n 2 with h2 | h2
  ·have hkk:k*k=1:=by
    have:k=1∨k=-1:=O
    rcases this with e | e<;>subst e<;>rfl
   refine⟨Yb s k,fun t=>?_⟩
   have e:(ps (Yb s k)*ps g).c t=k*(ps s*ps g).c t:=by
    rw [PS.mul_c,PS.mul_c,←Oy]
    exact Yh fun i _=>by rw [Om,Om,Om,Yy];grind
   rw [e,←h,←Int.mul_assoc,hkk,Int.one_mul]
  ·obtain⟨p,p2,pd,pm⟩:=Zzw h2
   have hpp:∀{x y:Int},(p:Int)∣x*y→(p:Int)∣x∨(p:Int)∣y:=Zre p2 pd pm O
   have hpk:(p:Int)∣k:=Int.natAbs_dvd_natAbs.1 (by rw [Int.natAbs_natCast,hkn];exact pd)
   have hgn:∃j,¬(p:Int)∣cf g j:=Classical.byContradiction fun hx=>by
    have:(p:Int)∣Ys g:=Gk fun i=>Classical.byContradiction fun hy=>hx ⟨i,hy⟩
    rw [hg]at this
    have:=Int.le_of_dvd O3 this
    omega
   obtain⟨j0,hj0⟩:=hgn
   obtain⟨j,hj,hjm⟩:=Zdv (P:=fun j=>¬(p:Int)∣cf g j) j0 hj0
   have hs:∀i,(p:Int)∣cf s i:=fun i0=>Classical.byContradiction fun hi0=>by
    obtain⟨i,hi,him⟩:=Zdv (P:=fun i=>¬(p:Int)∣cf s i) i0 hi0
    have h3:=h (i+j)
    rw [PS.mul_c]at h3
    have key:∀m,m≤i+j+1→(p:Int)∣Ye (fun k=>if k=i then 0 else(ps s).c k*(ps g).c (i+j-k)) m:=fun m=>by
     induction m with
     | zero=>intro _;exact Int.dvd_zero _
     | succ m ihm=>
      intro hm
      rw [Yk]
      refine Int.dvd_add (ihm O) ?_
      split
      ·exact Int.dvd_zero _
      ·rename_i hne
       rw [Om,Om]
       rcases Nat.lt_or_ge m i with h4 | h4
       ·exact Int.dvd_trans (Classical.byContradiction fun hx=>him m h4 hx) (Int.dvd_mul_right _ _)
       ·exact Int.dvd_trans (Classical.byContradiction fun hx=>hjm (i+j-m) O hx) (Int.dvd_mul_left _ _)
    have e1:Ye (fun k=>(ps s).c k*(ps g).c (i+j-k)) (i+j+1)=Ye (fun k=>if k=i then 0 else(ps s).c k*(ps g).c (i+j-k)) (i+j+1)+cf s i*cf g j:=by
     have e2:Ye (fun k=>(ps s).c k*(ps g).c (i+j-k)) (i+j+1)=Ye (fun k=>(if k=i then 0 else(ps s).c k*(ps g).c (i+j-k))+(if k=i then(ps s).c k*(ps g).c (i+j-k)else 0)) (i+j+1):=
      Yh fun k _=>by split<;>omega
     rw [e2,Dn,Cb (f:=fun k=>if k=i then(ps s).c k*(ps g).c (i+j-k)else 0) (k:=i) O (fun q _ hq=>if_neg hq),if_pos rfl,Om,Om,show i+j-i=j by omega]
    rw [e1]at h3
    have h4:(p:Int)∣cf s i*cf g j:=by
     have h5:cf s i*cf g j=k*cf a (i+j)-Ye (fun k=>if k=i then 0 else(ps s).c k*(ps g).c (i+j-k)) (i+j+1):=O
     rw [h5]
     exact Int.dvd_sub (Int.dvd_trans hpk (Int.dvd_mul_right _ _)) (key _ (Nat.le_refl _))
    rcases hpp h4 with h5 | h5
    ·exact hi h5
    ·exact hj h5
   obtain⟨k',hk'⟩:=hpk
   have hp0:(p:Int)≠0:=O
   refine ih k'.natAbs ?_ k' (s.map (· / (p:Int))) rfl ?_ ?_
   ·rw [←hkn,hk',Int.natAbs_mul,Int.natAbs_natCast]
    have:0<k'.natAbs:=by
     rcases Nat.eq_zero_or_pos k'.natAbs with h6 | h6
     ·rw [show k'=0 by omega]at hk';simp at hk';exact absurd hk' hk
     ·exact h6
    have:=Nat.mul_le_mul_right k'.natAbs p2
    omega
   ·intro e;rw [e]at hk';simp at hk';exact hk hk'
   ·intro t
    refine Int.eq_of_mul_eq_mul_left hp0 ?_
    rw [←Int.mul_assoc,←hk',h,PS.mul_c,PS.mul_c,←Oy]
    refine Yh fun i _=>?_
    rw [Om,Om,Om,Zd0 _ _ O5,←Int.mul_assoc,Int.mul_ediv_cancel' (hs i)]
def Cu:List Int→Int→Int
 | [],_=>0
 | c :: r,t=>c+t*Cu r t
def sdv:List Int→Int→List Int
 | [],_=>[]
 | [_],_=>[]
 | _ :: c :: r,t=>Cu (c :: r) t :: sdv (c :: r) t
theorem Zdq:∀(u:List Int) (t:Int),(sdv u t).length=u.length-1
 | [],_=>rfl
 | [_],_=>rfl
 | _ :: c :: r,t=>by unfold sdv;rw [List.length_cons,Zdq (c :: r) t];simp
theorem Zow:∀(u:List Int) (t x:Int),Cu u x=Cu u t+(x-t)*Cu (sdv u t) x
 | [],t,x=>by simp [Cu,sdv]
 | [c],t,x=>by simp [Cu,sdv]
 | a :: c :: r,t,x=>by
  have ih:=Zow (c :: r) t x
  show a+x*Cu (c :: r) x=a+t*Cu (c :: r) t+(x-t)*(Cu (c :: r) t+x*Cu (sdv (c :: r) t) x)
  rw [ih]
  generalize Cu (c :: r) t=A
  generalize Cu (sdv (c :: r) t) x=B
  grind
theorem Ff(a:Int)(u:List Int)(i:Nat):cf (a :: u) i=if i=0 then a else cf u (i-1):=by
 cases i with
 | zero=>rfl
 | succ i=>simp [cf]
theorem Zar(i:Nat):cf [] i=0:=Yj (Nat.zero_le _)
theorem Zus:∀(u:List Int) (t:Int) (i:Nat),cf u (i+1)=cf (sdv u t) i-t*cf (sdv u t) (i+1)
 | [],t,i=>by unfold sdv;simp [Zar]
 | [c],t,i=>by unfold sdv;rw [Ff,if_neg O];simp [Zar]
 | a :: c :: r,t,i=>by
  unfold sdv
  rw [Ff,if_neg O,Nat.add_sub_cancel]
  cases i with
  | zero=>
   rw [Ff,if_pos rfl,Ff,if_pos rfl,Ff,if_neg O]
   show c=Cu (c :: r) t-t*cf (sdv (c :: r) t) 0
   match r with
   | []=>simp [Cu,sdv,cf]
   | d :: r'=>unfold sdv;rw [Ff,if_pos rfl];show c=(c+t*Cu (d :: r') t)-_;omega
  | succ i=>
   rw [Ff _ (sdv _ _) (i+1),if_neg O,Ff _ (sdv _ _),if_neg O,Nat.add_sub_cancel,Nat.add_sub_cancel]
   exact Zus (c :: r) t i
theorem Zx0:∀(u:List Int) (t:Int),cf u 0=Cu u t-t*cf (sdv u t) 0
 | [],t=>by simp [Cu,sdv,cf]
 | [c],t=>by simp [Cu,sdv,cf]
 | a :: c :: r,t=>by
  unfold sdv
  rw [Ff,if_pos rfl,Ff,if_pos rfl]
  show a=(a+t*Cu (c :: r) t)-t*Cu (c :: r) t
  omega
theorem Zi4:∀(n:Nat) (u:List Int) (R:List Int),u.length=n→(∃i,cf u i≠0)→R.Nodup→(∀t∈R,Cu u t=0)→R.length<n
 | 0,u,R,hn,hu,_,_=>by
  obtain⟨i,hi⟩:=hu
  rw [List.eq_nil_of_length_eq_zero hn,Zar]at hi
  exact absurd rfl hi
 | n+1,u,[],hn,hu,_,_=>O5
 | n+1,u,t :: R,hn,hu,hd,hR=>by
  have h0:=hR t (List.mem_cons_self ..)
  have hl:=Zdq u t
  have hw:∃i,cf (sdv u t) i≠0:=Classical.byContradiction fun hx=>by
   have hz:∀i,cf (sdv u t) i=0:=fun i=>Classical.byContradiction fun hy=>hx ⟨i,hy⟩
   obtain⟨i,hi⟩:=hu
   cases i with
   | zero=>rw [Zx0 u t,h0,hz]at hi;simp at hi
   | succ i=>rw [Zus u t,hz,hz]at hi;simp at hi
  have:=Zi4 n (sdv u t) R O hw (List.nodup_cons.1 hd).2 fun x hx=>by
   have h1:=hR x (List.mem_cons_of_mem _ hx)
   rw [Zow u t x,h0,Int.zero_add]at h1
   rcases Int.mul_eq_zero.1 h1 with h2 | h2
   ·exfalso
    have:x=t:=O
    subst this
    exact(List.nodup_cons.1 hd).1 hx
   ·exact h2
  simp;omega
def kk:Nat→Nat
 | 0=>0
 | d+1=>30*kk d+1
theorem Zw9:∀(p:List Int) (t:Int),Cu p t=Ye (fun i=>cf p i*t^i) p.length
 | [],t=>rfl
 | c :: r,t=>by
  rw [List.length_cons,Lx,Cu,Zw9 r t,←Oy,Int.pow_zero,Int.mul_one]
  congr 1
  exact Yh fun i _=>by
   rw [Ff,if_neg O,Nat.add_sub_cancel,Int.pow_succ];grind
theorem Zkg(p:List Int)(t:Int):Cu p t=pev p t 1:=by
 rw [Zw9];unfold pev
 exact Yh fun i _=>by rw [Int.one_pow,Int.mul_one]
def pts:List Int:=[0,1,2,3,4,5,6,7,8,9,10,11,12,13,14]
theorem Zke{α:Type}(f:α→Bool):∀l:List α,(l.filter f).length+(l.filter fun x=>!f x).length=l.length
 | []=>rfl
 | x :: l=>by
  have ih:=Zke f l
  cases h:f x<;>simp [h]<;>omega
end Go.Sky

