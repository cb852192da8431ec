/- Rules, arithmetic and contracts: part 4. No conditions but those that each theorem names. -/
import Derived.Test.YtljmhpopdmadkaaGreatLv02
import Derived.Test.YtljmhpopdmadkaaGreatProg
import Derived.Test.YtljmhpopdmadkaaGreatRows
import Derived.WalkKit
import Derived.ProofKit
import Derived.OpenShut
import Derived.ShutString
import Derived.ChangeOld
import Derived.Deep.Slices
import Derived.Lib.SmallJoins
set_option linter.all false
namespace Go.Sky
open Go.Proofs
theorem pU:Enc Tryz.prog 111 1 Me:=Enc.flat Tryz.sizeOf111 Tryz.isAgg111 (fun _=>rfl)
theorem pB:Enc Tryz.prog 5 1 Zhz:=Enc.flat Tryz.sizeOf5 Tryz.isAgg5 (fun _=>rfl)
theorem pN:Enc Tryz.prog 3 1 Kc:=Enc.flat Tryz.sizeOf3 Tryz.isAgg3 (fun _=>rfl)
theorem pZ:Enc Tryz.prog 3 1 Xg:=Enc.flat Tryz.sizeOf3 Tryz.isAgg3 (fun _=>rfl)
theorem Zgy(args:Array Value)(w:World):(callFunc 216 args).run Tryz.prog w=((add64Entry args).run Tryz.prog w).andThen fun v w'=> .ok (.value v) w':=
 run_callFunc_extern Tryz.func216 O7 O7 O7 O7 args w
theorem Zyn(args:Array Value)(w:World):(callFunc 217 args).run Tryz.prog w=((Zdy args).run Tryz.prog w).andThen fun v w'=> .ok (.value v) w':=
 run_callFunc_extern Tryz.func217 O7 O7 O7 O7 args w
end Go.Sky
theorem Go.Proofs.Tryz.ti111:Go.Proofs.Tryz.prog.info? 111=some Go.Proofs.Tryz.t111:=Go.Sky.O7
namespace Go.Sky
open Go.Proofs
end Go.Sky
theorem Go.Proofs.Tryz.ti5:Go.Proofs.Tryz.prog.info? 5=some Go.Proofs.Tryz.t5:=Go.Sky.O7
namespace Go.Sky
open Go.Proofs
end Go.Sky
theorem Go.Proofs.Tryz.ti3:Go.Proofs.Tryz.prog.info? 3=some Go.Proofs.Tryz.t3:=Go.Sky.O7
namespace Go.Sky
open Go.Proofs
theorem pW:Enc Tryz.prog 93 2 Zt6:=Enc.agg O3 Tryz.sizeOf93 Tryz.isAgg93 (fun x=>⟨[.bool x.1,.string x.2],rfl,rfl,by simp [Value.oneCell']⟩)
theorem pV:Enc Tryz.prog 93 2 wv:=Enc.agg O3 Tryz.sizeOf93 Tryz.isAgg93 (fun x=>⟨[.bool (decide (x<0)),.string (Qb x.natAbs)],rfl,rfl,by simp [Value.oneCell']⟩)
theorem pI:Enc Tryz.prog 77 2 Nr:=Enc.agg O3 Tryz.sizeOf77 Tryz.isAgg77 (fun x=>⟨[.bool (decide (x.1<0)),Mb x.2],rfl,rfl,by simp [Value.oneCell']⟩)
theorem pS{α:Type} : Enc Tryz.prog 39 1 (Ks (α:=α)):=Enc.flat Tryz.sizeOf39 Tryz.isAgg39 (fun _=>rfl)
theorem pY:Enc Tryz.prog 238 8 iq:=Enc.agg O3 Tryz.sizeOf238 Tryz.isAgg238 (fun x=>⟨[.bool (decide (x.1.1<0)),.string (Qb x.1.1.natAbs),.bool (decide (x.1.2<0)),.string (Qb x.1.2.natAbs),.bool (decide (x.2.1<0)),.string (Qb x.2.1.natAbs),.bool (decide (x.2.2<0)),.string (Qb x.2.2.natAbs)],rfl,rfl,by simp [Value.oneCell']⟩)
theorem pQ:Enc Tryz.prog 129 4 rq:=Enc.agg O3 Tryz.sizeOf129 Tryz.isAgg129 (fun x=>⟨[.bool (decide (x.1<0)),.string (Qb x.1.natAbs),.bool (decide (x.2<0)),.string (Qb x.2.natAbs)],rfl,rfl,by simp [Value.oneCell']⟩)
theorem pR:Enc Tryz.prog 129 4 encQ:=Enc.agg O3 Tryz.sizeOf129 Tryz.isAgg129 (fun x=>⟨[.bool x.1.1,.string x.1.2,.bool x.2.1,.string x.2.2],rfl,rfl,by simp [Value.oneCell']⟩)
theorem sh93:Tryz.prog.stoodInHeld 93=false:=O7
theorem sh129:Tryz.prog.stoodInHeld 129=false:=O7
theorem eg93:Tryz.prog.eqGuardType Tryz.prog.depth 93=false:=O7
theorem Yh7(d:Nat)(w:World)(a:Bool)(s:ByteArray)(b:Bool)(t:ByteArray):(Op.equalIn (d+2) 93 (.agg #[.bool a,.string s]) (.agg #[.bool b,.string t])).run Tryz.prog w= .ok (eqW a s b t) w:=by
 have hu:Tryz.prog.underlying 93=some (.struct (Tryz.prog.fieldsOf 93)):=by unfold Program.fieldsOf;rw [Tryz.underlying93]
 rw [run_equalIn_agg w (d+1) 93 _ _ hu sh93]
 unfold Program.fieldsOf
 rw [Tryz.underlying93]
 simp [Op.eqFields,part,Tryz.isAgg4,Tryz.isAgg9,run_equalIn_bool' _ _ _ _ _ Tryz.underlying4,run_equalIn_string _ _ _ _ _ Tryz.underlying9]
 unfold eqW
 cases hab:(a == b)
 ·simp_all
 ·by_cases h:s.toList=t.toList<;>simp_all
theorem eql93(w:World)(a:Bool)(s:ByteArray)(b:Bool)(t:ByteArray):(binOp .eql 93 (.agg #[.bool a,.string s]) (.agg #[.bool b,.string t])).run Tryz.prog w= .ok (.bool (eqW a s b t)) w:=by
 rw [run_eql_struct,Yh7];rfl
theorem neq93(w:World)(a:Bool)(s:ByteArray)(b:Bool)(t:ByteArray):(binOp .neq 93 (.agg #[.bool a,.string s]) (.agg #[.bool b,.string t])).run Tryz.prog w= .ok (.bool (!eqW a s b t)) w:=by
 rw [run_neq_struct,Yh7];rfl
theorem in129(d:Nat)(w:World)(a:Bool)(s:ByteArray)(a2:Bool)(s2:ByteArray)(b:Bool)(t:ByteArray)(b2:Bool)(t2:ByteArray):(Op.equalIn (d+3) 129 (.agg #[.bool a,.string s,.bool a2,.string s2]) (.agg #[.bool b,.string t,.bool b2,.string t2])).run Tryz.prog w= .ok (eqW a s b t && eqW a2 s2 b2 t2) w:=by
 have hu:Tryz.prog.underlying 129=some (.struct (Tryz.prog.fieldsOf 129)):=by unfold Program.fieldsOf;rw [Tryz.underlying129]
 rw [run_equalIn_agg w (d+2) 129 _ _ hu sh129]
 unfold Program.fieldsOf
 rw [Tryz.underlying129]
 simp [Op.eqFields,part,Tryz.isAgg93,Tryz.sizeOf93,Yh7]
 cases hab:eqW a s b t<;>cases hab2:eqW a2 s2 b2 t2<;>simp_all
end Go.Sky
theorem Go.Proofs.Tryz.ti22:Go.Proofs.Tryz.prog.info? 22=some Go.Proofs.Tryz.t22:=Go.Sky.O7
namespace Go.Sky
open Go.Proofs
end Go.Sky
theorem Go.Proofs.Tryz.ti24:Go.Proofs.Tryz.prog.info? 24=some Go.Proofs.Tryz.t24:=Go.Sky.O7
namespace Go.Sky
open Go.Proofs
end Go.Sky
theorem Go.Proofs.Tryz.ti39:Go.Proofs.Tryz.prog.info? 39=some Go.Proofs.Tryz.t39:=Go.Sky.O7
namespace Go.Sky
open Go.Proofs
end Go.Sky
theorem Go.Proofs.Tryz.ti46:Go.Proofs.Tryz.prog.info? 46=some Go.Proofs.Tryz.t46:=Go.Sky.O7
namespace Go.Sky
open Go.Proofs
end Go.Sky
theorem Go.Proofs.Tryz.ti77:Go.Proofs.Tryz.prog.info? 77=some Go.Proofs.Tryz.t77:=Go.Sky.O7
namespace Go.Sky
open Go.Proofs
end Go.Sky
theorem Go.Proofs.Tryz.ti93:Go.Proofs.Tryz.prog.info? 93=some Go.Proofs.Tryz.t93:=Go.Sky.O7
namespace Go.Sky
open Go.Proofs
end Go.Sky
theorem Go.Proofs.Tryz.ti129:Go.Proofs.Tryz.prog.info? 129=some Go.Proofs.Tryz.t129:=Go.Sky.O7
namespace Go.Sky
open Go.Proofs
theorem Zuq{v0 v1 v2 v3 v4 v5:Value}(h0:v0.oneCell'=true)(h1:v1.oneCell'=true)(h2:v2.oneCell'=true)(h3:v3.oneCell'=true)(h4:v4.oneCell'=true)(h5:v5.oneCell'=true):Tryz.prog.built 24 [(0,v0),(1,v1),(2,v2),(3,v3),(4,v4),(5,v5)]=some #[v0,v1,v2,v3,v4,v5]:=by
 refine Xs _ Tryz.ti24 Tryz.underlying24 rfl (pl:=[(0,1),(1,1),(2,1),(3,1),(4,1),(5,1)]) (by simp [Tryz.ti22,Tryz.ti3];try decide) ?_
 simp [Instr.fill,Yt h0,Yt h1,Yt h2,Yt h3,Yt h4,Yt h5,show(Value.agg #[.int .i64 0,.int .i64 0,.int .i64 0,.slice none 0 0,.slice none 0 0,.slice none 0 0]).cells=#[.int .i64 0,.int .i64 0,.int .i64 0,.slice none 0 0,.slice none 0 0,.slice none 0 0]from rfl]
end Go.Sky
theorem Go.Proofs.Tryz.ti26:Go.Proofs.Tryz.prog.info? 26=some Go.Proofs.Tryz.t26:=Go.Sky.O7
namespace Go.Sky
open Go.Proofs
theorem Zsd:Tryz.prog.built 26 []=some #[.int .i64 0,.int .i64 0]:=by
 refine Xs _ Tryz.ti26 Tryz.underlying26 rfl (pl:=[(0,1),(1,1)]) (by simp [Tryz.ti3];try decide) ?_
 simp [Instr.fill,show(Value.agg #[.int .i64 0,.int .i64 0]).cells=#[.int .i64 0,.int .i64 0]from rfl]
theorem b26_0{v0:Value}(h0:v0.oneCell'=true):Tryz.prog.built 26 [(0,v0)]=some #[v0,.int .i64 0]:=by
 refine Xs _ Tryz.ti26 Tryz.underlying26 rfl (pl:=[(0,1),(1,1)]) (by simp [Tryz.ti3];try decide) ?_
 simp [Instr.fill,Yt h0,show(Value.agg #[.int .i64 0,.int .i64 0]).cells=#[.int .i64 0,.int .i64 0]from rfl]
theorem Zkw{v0 v1:Value}(h0:v0.oneCell'=true)(h1:v1.oneCell'=true):Tryz.prog.built 26 [(0,v0),(1,v1)]=some #[v0,v1]:=by
 refine Xs _ Tryz.ti26 Tryz.underlying26 rfl (pl:=[(0,1),(1,1)]) (by simp [Tryz.ti3];try decide) ?_
 simp [Instr.fill,Yt h0,Yt h1,show(Value.agg #[.int .i64 0,.int .i64 0]).cells=#[.int .i64 0,.int .i64 0]from rfl]
end Go.Sky
theorem Go.Proofs.Tryz.ti52:Go.Proofs.Tryz.prog.info? 52=some Go.Proofs.Tryz.t52:=Go.Sky.O7
namespace Go.Sky
open Go.Proofs
end Go.Sky
theorem Go.Proofs.Tryz.ti50:Go.Proofs.Tryz.prog.info? 50=some Go.Proofs.Tryz.t50:=Go.Sky.O7
namespace Go.Sky
open Go.Proofs
theorem b52_:Tryz.prog.built 52 []=some #[.int .i64 0,.int .i64 0]:=by
 refine Xs _ Tryz.ti52 Tryz.underlying52 rfl (pl:=[(0,1),(1,1)]) (by simp [Tryz.ti3,Tryz.ti50];try decide) ?_
 simp [Instr.fill,show(Value.agg #[.int .i64 0,.int .i64 0]).cells=#[.int .i64 0,.int .i64 0]from rfl]
theorem Zup{v0 v1:Value}(h0:v0.oneCell'=true)(h1:v1.oneCell'=true):Tryz.prog.built 52 [(0,v0),(1,v1)]=some #[v0,v1]:=by
 refine Xs _ Tryz.ti52 Tryz.underlying52 rfl (pl:=[(0,1),(1,1)]) (by simp [Tryz.ti3,Tryz.ti50];try decide) ?_
 simp [Instr.fill,Yt h0,Yt h1,show(Value.agg #[.int .i64 0,.int .i64 0]).cells=#[.int .i64 0,.int .i64 0]from rfl]
theorem b52_1{v1:Value}(h1:v1.oneCell'=true):Tryz.prog.built 52 [(1,v1)]=some #[.int .i64 0,v1]:=by
 refine Xs _ Tryz.ti52 Tryz.underlying52 rfl (pl:=[(0,1),(1,1)]) (by simp [Tryz.ti3,Tryz.ti50];try decide) ?_
 simp [Instr.fill,Yt h1,show(Value.agg #[.int .i64 0,.int .i64 0]).cells=#[.int .i64 0,.int .i64 0]from rfl]
end Go.Sky
theorem Go.Proofs.Tryz.ti64:Go.Proofs.Tryz.prog.info? 64=some Go.Proofs.Tryz.t64:=Go.Sky.O7
namespace Go.Sky
open Go.Proofs
theorem b64_:Tryz.prog.built 64 []=some #[.int .i64 0,.int .i64 0,.int .i64 0]:=by
 refine Xs _ Tryz.ti64 Tryz.underlying64 rfl (pl:=[(0,1),(1,1),(2,1)]) (by simp [Tryz.ti3];try decide) ?_
 simp [Instr.fill,show(Value.agg #[.int .i64 0,.int .i64 0,.int .i64 0]).cells=#[.int .i64 0,.int .i64 0,.int .i64 0]from rfl]
theorem b64_01{v0 v1:Value}(h0:v0.oneCell'=true)(h1:v1.oneCell'=true):Tryz.prog.built 64 [(0,v0),(1,v1)]=some #[v0,v1,.int .i64 0]:=by
 refine Xs _ Tryz.ti64 Tryz.underlying64 rfl (pl:=[(0,1),(1,1),(2,1)]) (by simp [Tryz.ti3];try decide) ?_
 simp [Instr.fill,Yt h0,Yt h1,show(Value.agg #[.int .i64 0,.int .i64 0,.int .i64 0]).cells=#[.int .i64 0,.int .i64 0,.int .i64 0]from rfl]
end Go.Sky
theorem Go.Proofs.Tryz.ti4:Go.Proofs.Tryz.prog.info? 4=some Go.Proofs.Tryz.t4:=Go.Sky.O7
namespace Go.Sky
open Go.Proofs
theorem Zpg:Tryz.prog.built 77 []=some #[.bool false,.slice none 0 0]:=by
 refine Xs _ Tryz.ti77 Tryz.underlying77 rfl (pl:=[(0,1),(1,1)]) (by simp [Tryz.ti22,Tryz.ti4];try decide) ?_
 simp [Instr.fill,show(Value.agg #[.bool false,.slice none 0 0]).cells=#[.bool false,.slice none 0 0]from rfl]
theorem Yfr{v0 v1:Value}(h0:v0.oneCell'=true)(h1:v1.oneCell'=true):Tryz.prog.built 77 [(0,v0),(1,v1)]=some #[v0,v1]:=by
 refine Xs _ Tryz.ti77 Tryz.underlying77 rfl (pl:=[(0,1),(1,1)]) (by simp [Tryz.ti22,Tryz.ti4];try decide) ?_
 simp [Instr.fill,Yt h0,Yt h1,show(Value.agg #[.bool false,.slice none 0 0]).cells=#[.bool false,.slice none 0 0]from rfl]
end Go.Sky
theorem Go.Proofs.Tryz.ti87:Go.Proofs.Tryz.prog.info? 87=some Go.Proofs.Tryz.t87:=Go.Sky.O7
namespace Go.Sky
open Go.Proofs
theorem Zuo{c0_0 c0_1 c1_0 c1_1:Value} : Tryz.prog.built 87 [(0,.agg #[c0_0,c0_1]),(1,.agg #[c1_0,c1_1])]=some #[c0_0,c0_1,c1_0,c1_1]:=by
 refine Xs _ Tryz.ti87 Tryz.underlying87 rfl (pl:=[(0,2),(2,2)]) (by simp [Tryz.ti77];try decide) ?_
 simp [Instr.fill,show(Value.agg #[c0_0,c0_1]).cells=#[c0_0,c0_1]from rfl,show(Value.agg #[c1_0,c1_1]).cells=#[c1_0,c1_1]from rfl,show(Value.agg #[.bool false,.slice none 0 0,.bool false,.slice none 0 0]).cells=#[.bool false,.slice none 0 0,.bool false,.slice none 0 0]from rfl]
end Go.Sky
theorem Go.Proofs.Tryz.ti90:Go.Proofs.Tryz.prog.info? 90=some Go.Proofs.Tryz.t90:=Go.Sky.O7
namespace Go.Sky
open Go.Proofs
theorem Zx9{v0 v1 v2:Value}(h0:v0.oneCell'=true)(h1:v1.oneCell'=true)(h2:v2.oneCell'=true):Tryz.prog.built 90 [(0,v0),(1,v1),(2,v2)]=some #[v0,v1,v2]:=by
 refine Xs _ Tryz.ti90 Tryz.underlying90 rfl (pl:=[(0,1),(1,1),(2,1)]) (by simp [Tryz.ti3,Tryz.ti50];try decide) ?_
 simp [Instr.fill,Yt h0,Yt h1,Yt h2,show(Value.agg #[.int .i64 0,.int .i64 0,.int .i64 0]).cells=#[.int .i64 0,.int .i64 0,.int .i64 0]from rfl]
end Go.Sky
theorem Go.Proofs.Tryz.ti9:Go.Proofs.Tryz.prog.info? 9=some Go.Proofs.Tryz.t9:=Go.Sky.O7
namespace Go.Sky
open Go.Proofs
theorem b93_:Tryz.prog.built 93 []=some #[.bool false,.string ⟨#[]⟩]:=by
 refine Xs _ Tryz.ti93 Tryz.underlying93 rfl (pl:=[(0,1),(1,1)]) (by simp [Tryz.ti4,Tryz.ti9];try decide) ?_
 simp [Instr.fill,show(Value.agg #[.bool false,.string ⟨#[]⟩]).cells=#[.bool false,.string ⟨#[]⟩]from rfl]
theorem Zun{v0 v1:Value}(h0:v0.oneCell'=true)(h1:v1.oneCell'=true):Tryz.prog.built 93 [(0,v0),(1,v1)]=some #[v0,v1]:=by
 refine Xs _ Tryz.ti93 Tryz.underlying93 rfl (pl:=[(0,1),(1,1)]) (by simp [Tryz.ti4,Tryz.ti9];try decide) ?_
 simp [Instr.fill,Yt h0,Yt h1,show(Value.agg #[.bool false,.string ⟨#[]⟩]).cells=#[.bool false,.string ⟨#[]⟩]from rfl]
end Go.Sky
theorem Go.Proofs.Tryz.ti106:Go.Proofs.Tryz.prog.info? 106=some Go.Proofs.Tryz.t106:=Go.Sky.O7
namespace Go.Sky
open Go.Proofs
end Go.Sky
theorem Go.Proofs.Tryz.ti29:Go.Proofs.Tryz.prog.info? 29=some Go.Proofs.Tryz.t29:=Go.Sky.O7
namespace Go.Sky
open Go.Proofs
theorem Zya{v0 c1_0 c1_1 c1_2:Value}(h0:v0.oneCell'=true):Tryz.prog.built 106 [(0,v0),(1,.agg #[c1_0,c1_1,c1_2])]=some #[v0,c1_0,c1_1,c1_2]:=by
 refine Xs _ Tryz.ti106 Tryz.underlying106 rfl (pl:=[(0,1),(1,3)]) (by simp [Tryz.ti29,Tryz.ti90];try decide) ?_
 simp [Instr.fill,Yt h0,show(Value.agg #[c1_0,c1_1,c1_2]).cells=#[c1_0,c1_1,c1_2]from rfl,show(Value.agg #[.slice none 0 0,.int .i64 0,.int .i64 0,.int .i64 0]).cells=#[.slice none 0 0,.int .i64 0,.int .i64 0,.int .i64 0]from rfl]
theorem Zse:Tryz.prog.built 129 []=some #[.bool false,.string ⟨#[]⟩,.bool false,.string ⟨#[]⟩]:=by
 refine Xs _ Tryz.ti129 Tryz.underlying129 rfl (pl:=[(0,2),(2,2)]) (by simp [Tryz.ti93];try decide) ?_
 simp [Instr.fill,show(Value.agg #[.bool false,.string ⟨#[]⟩,.bool false,.string ⟨#[]⟩]).cells=#[.bool false,.string ⟨#[]⟩,.bool false,.string ⟨#[]⟩]from rfl]
theorem Zf2{c0_0 c0_1 c1_0 c1_1:Value} : Tryz.prog.built 129 [(0,.agg #[c0_0,c0_1]),(1,.agg #[c1_0,c1_1])]=some #[c0_0,c0_1,c1_0,c1_1]:=by
 refine Xs _ Tryz.ti129 Tryz.underlying129 rfl (pl:=[(0,2),(2,2)]) (by simp [Tryz.ti93];try decide) ?_
 simp [Instr.fill,show(Value.agg #[c0_0,c0_1]).cells=#[c0_0,c0_1]from rfl,show(Value.agg #[c1_0,c1_1]).cells=#[c1_0,c1_1]from rfl,show(Value.agg #[.bool false,.string ⟨#[]⟩,.bool false,.string ⟨#[]⟩]).cells=#[.bool false,.string ⟨#[]⟩,.bool false,.string ⟨#[]⟩]from rfl]
end Go.Sky
theorem Go.Proofs.Tryz.ti151:Go.Proofs.Tryz.prog.info? 151=some Go.Proofs.Tryz.t151:=Go.Sky.O7
namespace Go.Sky
open Go.Proofs
theorem Zmu{c0_0 c0_1 c1_0 c1_1 c2_0 c2_1 c3_0 c3_1:Value} : Tryz.prog.built 151 [(0,.agg #[c0_0,c0_1]),(1,.agg #[c1_0,c1_1]),(2,.agg #[c2_0,c2_1]),(3,.agg #[c3_0,c3_1])]=some #[c0_0,c0_1,c1_0,c1_1,c2_0,c2_1,c3_0,c3_1]:=by
 refine Xs _ Tryz.ti151 Tryz.underlying151 rfl (pl:=[(0,2),(2,2),(4,2),(6,2)]) (by simp [Tryz.ti93];try decide) ?_
 simp [Instr.fill,show(Value.agg #[c0_0,c0_1]).cells=#[c0_0,c0_1]from rfl,show(Value.agg #[c1_0,c1_1]).cells=#[c1_0,c1_1]from rfl,show(Value.agg #[c2_0,c2_1]).cells=#[c2_0,c2_1]from rfl,show(Value.agg #[c3_0,c3_1]).cells=#[c3_0,c3_1]from rfl,show(Value.agg #[.bool false,.string ⟨#[]⟩,.bool false,.string ⟨#[]⟩,.bool false,.string ⟨#[]⟩,.bool false,.string ⟨#[]⟩]).cells=#[.bool false,.string ⟨#[]⟩,.bool false,.string ⟨#[]⟩,.bool false,.string ⟨#[]⟩,.bool false,.string ⟨#[]⟩]from rfl]
end Go.Sky
theorem Go.Proofs.Tryz.ti171:Go.Proofs.Tryz.prog.info? 171=some Go.Proofs.Tryz.t171:=Go.Sky.O7
namespace Go.Sky
open Go.Proofs
end Go.Sky
theorem Go.Proofs.Tryz.ti168:Go.Proofs.Tryz.prog.info? 168=some Go.Proofs.Tryz.t168:=Go.Sky.O7
namespace Go.Sky
open Go.Proofs
theorem Ly{v0 v1:Value}(h0:v0.oneCell'=true)(h1:v1.oneCell'=true):Tryz.prog.built 171 [(0,v0),(1,v1)]=some #[v0,v1]:=by
 refine Xs _ Tryz.ti171 Tryz.underlying171 rfl (pl:=[(0,1),(1,1)]) (by simp [Tryz.ti168,Tryz.ti4];try decide) ?_
 simp [Instr.fill,Yt h0,Yt h1,show(Value.agg #[.bool false,.slice none 0 0]).cells=#[.bool false,.slice none 0 0]from rfl]
end Go.Sky
theorem Go.Proofs.Tryz.ti238:Go.Proofs.Tryz.prog.info? 238=some Go.Proofs.Tryz.t238:=Go.Sky.O7
namespace Go.Sky
open Go.Proofs
theorem Yjj{c0_0 c0_1 c0_2 c0_3 c1_0 c1_1 c1_2 c1_3:Value} : Tryz.prog.built 238 [(0,.agg #[c0_0,c0_1,c0_2,c0_3]),(1,.agg #[c1_0,c1_1,c1_2,c1_3])]=some #[c0_0,c0_1,c0_2,c0_3,c1_0,c1_1,c1_2,c1_3]:=by
 refine Xs _ Tryz.ti238 Tryz.underlying238 rfl (pl:=[(0,4),(4,4)]) (by simp [Tryz.ti129];try decide) ?_
 simp [Instr.fill,show(Value.agg #[c0_0,c0_1,c0_2,c0_3]).cells=#[c0_0,c0_1,c0_2,c0_3]from rfl,show(Value.agg #[c1_0,c1_1,c1_2,c1_3]).cells=#[c1_0,c1_1,c1_2,c1_3]from rfl,show(Value.agg #[.bool false,.string ⟨#[]⟩,.bool false,.string ⟨#[]⟩,.bool false,.string ⟨#[]⟩,.bool false,.string ⟨#[]⟩]).cells=#[.bool false,.string ⟨#[]⟩,.bool false,.string ⟨#[]⟩,.bool false,.string ⟨#[]⟩,.bool false,.string ⟨#[]⟩]from rfl]
theorem J{α:Sort _}{a:α} : a=a:=rfl
abbrev Ok (P:Program) (f:FuncId) (a:Array Value) (p:List Pc) (v:Value):Prop:=Cal P f a p false (G:=Unit) (fun _=>True) (fun _=>v) (fun _=>[])
abbrev rX (x y:Int):Value:= .agg #[.bool (decide (x<0)),.string (Qb x.natAbs),.bool (decide (y<0)),.string (Qb y.natAbs)]
theorem vB{a b:Bool}(h:a=b):Value.bool a=Value.bool b:=congrArg _ h
theorem dF{P:Program}{N:Nat}{sc:Nat→Prop}{o:Oper}{env:Py}{H:Hp}{r:Value}(h:My P N sc o env H r)(e:r= .bool false):My P N sc o env H (.bool false):=Yg h e
theorem dT{P:Program}{N:Nat}{sc:Nat→Prop}{o:Oper}{env:Py}{H:Hp}{r:Value}(h:My P N sc o env H r)(e:r= .bool true):My P N sc o env H (.bool true):=Yg h e
theorem K1{t0:Sort _}{a0:t0} : a0=a0∧True:=⟨rfl,trivial⟩
theorem K2{t0:Sort _}{a0:t0}{t1:Sort _}{a1:t1} : a0=a0∧a1=a1∧True:=⟨rfl,rfl,trivial⟩
theorem K3{t0:Sort _}{a0:t0}{t1:Sort _}{a1:t1}{t2:Sort _}{a2:t2} : a0=a0∧a1=a1∧a2=a2∧True:=⟨rfl,rfl,rfl,trivial⟩
theorem K4{t0:Sort _}{a0:t0}{t1:Sort _}{a1:t1}{t2:Sort _}{a2:t2}{t3:Sort _}{a3:t3} : a0=a0∧a1=a1∧a2=a2∧a3=a3∧True:=⟨rfl,rfl,rfl,rfl,trivial⟩
theorem K6{t0:Sort _}{a0:t0}{t1:Sort _}{a1:t1}{t2:Sort _}{a2:t2}{t3:Sort _}{a3:t3}{t4:Sort _}{a4:t4}{t5:Sort _}{a5:t5} : a0=a0∧a1=a1∧a2=a2∧a3=a3∧a4=a4∧a5=a5∧True:=⟨rfl,rfl,rfl,rfl,rfl,rfl,trivial⟩
def Hg:=@Go.Proofs.Tryz.call127
def Lo:=@Go.Proofs.Tryz.sizeOf111
def zT3:=@Go.Proofs.Tryz.sizeOf3
def Zhp:=@Go.Proofs.Tryz.sizeOf77
def Ix:=@Go.Proofs.Tryz.sizeOf93
def Zbf:=@Go.Proofs.Tryz.underlying111
def Zg1:=@Go.Proofs.Tryz.underlying142
def Pt:=@Go.Proofs.Tryz.underlying168
def Fd:=@Go.Proofs.Tryz.underlying22
def Zll:=@Go.Proofs.Tryz.underlying230
def uT3:=@Go.Proofs.Tryz.underlying3
def uT38:=@Go.Proofs.Tryz.underlying38
def Lq:=@Go.Proofs.Tryz.underlying39
def Kr:=@Go.Proofs.Tryz.underlying46
def uT5:=@Go.Proofs.Tryz.underlying5
def uT9:=@Go.Proofs.Tryz.underlying9
open Go.ChangeShapes Go.WideShapes Go.ChangeAt Go.RowKit Go.Joins Go.Deep
variable {P:Program} {W:World} {H:Type} {enc:TypeId×Value→H}
theorem Zhn{α:Type}[Inhabited α]{p:Nat→α→Prop} : ∀n,(∀i,i<n→∃x,p i x)→∃xs:List α,xs.length=n∧∀i x,xs[i]? = some x→p i x
 | 0,_=>⟨[],rfl,fun i x h=>by simp at h⟩
 | n+1,h=>by
  obtain⟨xs,hl,hp⟩:=Zhn n fun i hi=>h i O
  obtain⟨x,hx⟩:=h n O
  refine⟨xs ++ [x],by simp [hl],fun i y hy=>?_⟩
  rcases Nat.lt_or_ge i n with hi | hi
  ·rw [List.getElem?_append_left O]at hy;exact hp i y hy
  ·rw [List.getElem?_append_right O,hl]at hy
   rcases Nat.eq_zero_or_pos (i-n)with h0 | h0
   ·rw [h0]at hy;simp at hy;subst hy;rw [show i=n by omega];exact hx
   ·rw [List.getElem?_eq_none O9]at hy;cases hy
theorem Zjp{r:Reach}{b0:Nat}{t e:TypeId}{a:Addr}{len cap:Nat}(hs:P.underlying t=some (.slice e))(hv:Value.okWide P W r b0 t (.slice (some a) len cap)):a.spot=none∧a.block<W.heap.size:=by
 unfold Value.okWide at hv
 rw [hs]at hv
 simp only at hv
 unfold Cell.okWide at hv
 rw [hs]at hv
 simp only at hv
 unfold Cell.ok at hv
 rw [hs]at hv
 simp only at hv
 obtain⟨_,_,_,h1,row,cells,h2,_⟩:=hv
 refine⟨h1,?_⟩
 unfold World.shape? at h2
 rcases Nat.lt_or_ge a.block W.heap.size with h | h
 ·exact h
 ·rw [Array.getElem?_eq_none h]at h2
  simp at h2
end Go.Sky
namespace Go.Sky
theorem Cal.toS {P:Program} {f:FuncId} {args:Array Value} {pre:List Pc} {al:Bool} {φ:Value×List (Int×SL)→Prop}
  (h:Cal P f args pre al (G:=Value×List (Int×SL)) φ (fun r=>r.1) (fun r=>[pp r.1 r.2])) :
  Cal P f args pre al (G:=SL×List (Int×SL)) (fun r=>φ (Mb r.1,r.2)) (fun r=>Mb r.1) (fun r=>[pp (Mb r.1) r.2]):=fun w hw=>by
 refine(h w hw).mono fun e w' ⟨g,he,hφ,hb,hi⟩=>?_
 obtain⟨v,z⟩:=g
 have h0:=(hi _ (List.mem_cons_self ..)).1
 obtain⟨ad,c,h1,_⟩:=Zi w' h0
 have h2:v=Mb (ad,z.length,c):=h1
 subst h2
 exact⟨((ad,z.length,c),z),he,hφ,hb,hi⟩
abbrev qT (z:SL×List (Int×SL)):Pc:=pp (Mb z.1) z.2
abbrev T0:SL×List (Int×SL):=((none,0,0),[])
abbrev Db (zs:List (SL×List (Int×SL))):List (List Int):=zs.map fun z=>Zb z.2
set_option maxRecDepth 20000
theorem Zo8{K:Nat}{f:Nat→Int}{n:Nat}(h:∀i,i<n→bl (f i).natAbs≤K)(hn:n≤1023):bl (Yv f n).natAbs≤K+10:=by
 rw [Xn]
 have h1:=Zuk h
 have h2:n*(2^K-1)≤1023*(2^K-1):=Nat.mul_le_mul_right _ hn
 have h3:0<2^K:=Nat.two_pow_pos K
 rw [Nat.pow_add]
 omega
theorem Mg(zs:List (Int×SL))(z:Int×SL):Zb (zs ++ [z])=Zb zs ++ [z.1]:=by simp [Zb]
theorem Yhh(p q:List Int):tzl (mk (max p.length q.length) fun t=>cf p t+cf q t)=Bq p q:=rfl
theorem Zte(p:List Int)(c:Int):tzl (mk p.length fun t=>cf p t*c)=Zv p c:=by rw [Zn4 p (· * c)];rfl
theorem Yhc(p q:List Int):tzl (mk (p.length+q.length-1) fun t=>Yv (fun k=>cf p k*cf q (t-k)) (t+1))=Xq p q:=rfl
theorem Dg{x:Int}{m:Nat}(h:bl x.natAbs≤m)(n:Nat):bl (x^n).natAbs≤n*m+1:=by
 rcases Nat.eq_zero_or_pos n with h0 | h0
 ·rw [h0,Int.pow_zero];have:bl (1:Int).natAbs=1:=O3
  omega
 ·have:=Iw x h n h0;omega
theorem Of(p:List Int)(c:Int):(Zv p c).length≤p.length:=by
 unfold Zv;have:=La (p.map (· * c));rwa [List.length_map]at this
theorem bl_i1{i:Nat}(h:i≤1000):bl ((i:Int)+1).natAbs≤1000000000:=by
 have h1:=Od (show((i:Int)+1).natAbs≤1001 by omega)
 have h2:bl 1001≤10:=O3
 omega
theorem ev_tb{p:List Int}{x y:Int}(hs:Sz 1000000 p)(hx:∀k,bl (x^k).natAbs≤k*1000000+1)(hy:∀k,bl (y^k).natAbs≤k*1000000+1)(hl:p.length≤30)(t:Nat):bl (cf p t*(x^t*y^(p.length-1-t))).natAbs≤100000000:=by
 rcases Nat.lt_or_ge t p.length with h | h
 ·have h1:=hx t
  have h2:=hy (p.length-1-t)
  have h3:=Yd (x^t) (y^(p.length-1-t))
  have h4:=Yd (cf p t) (x^t*y^(p.length-1-t))
  have h5:=hs t
  have h6:t*1000000+(p.length-1-t)*1000000≤30*1000000:=by rw [←Nat.add_mul];exact Nat.mul_le_mul_right _ O
  omega
 ·rw [Yb h,Int.zero_mul];exact Nat.zero_le _
theorem Nh{y:Int}(h:y≠0):∀n:Nat,y^n≠0
 | 0=>by rw [Int.pow_zero];omega
 | n+1=>by rw [Int.pow_succ];exact Int.mul_ne_zero (Nh h n) h
theorem Zto(xs ys:List Int):xs.map wr=ys.map wr↔xs=ys:=by
 refine⟨fun h=>?_,fun h=>by rw [h]⟩
 exact List.map_inj_right (fun x y h=>Yam (congrArg Prod.fst h) (congrArg Prod.snd h)) |>.1 h
theorem Cal.imp2{P:Program}{f:FuncId}{args:Array Value}{p1 p q:Pc}{pre:List Pc}{al:Bool}{G:Type}{φ:G→Prop}{Yc:G→Value}{its:G→List Pc}(h:Cal P f args (p1 :: p :: pre) al φ Yc its)(hh:∀w,q.holds w→p.holds w)(hf:∀b,p.fp b→q.fp b) :
  Cal P f args (p1 :: q :: pre) al φ Yc its:=fun w hp=>by
 refine(h w fun r hr=>?_).mono ?_
 ·rcases List.mem_cons.1 hr with rfl | hr
  ·exact hp _ (List.mem_cons_self ..)
  ·rcases List.mem_cons.1 hr with rfl | hr
   ·exact hh w (hp q (List.mem_cons_of_mem _ (List.mem_cons_self ..)))
   ·exact hp r (List.mem_cons_of_mem _ (List.mem_cons_of_mem _ hr))
 ·rintro e w' ⟨g,he,hg,hb,hits⟩
  refine⟨g,he,hg,hb,fun p' hp'=>?_⟩
  obtain⟨h1,h2,h3⟩:=hits p' hp'
  refine⟨h1,h2,fun b hb=>?_⟩
  rcases h3 b hb with h | ⟨h,r,hr,hrb⟩
  ·exact .inl h
  ·refine .inr ⟨h,?_⟩
   rcases List.mem_cons.1 hr with rfl | hr
   ·exact⟨r,List.mem_cons_self ..,hrb⟩
   ·rcases List.mem_cons.1 hr with rfl | hr
    ·exact⟨q,List.mem_cons_of_mem _ (List.mem_cons_self ..),hf b hrb⟩
    ·exact⟨r,List.mem_cons_of_mem _ (List.mem_cons_of_mem _ hr),hrb⟩
def shm(q:List Int)(c:Int)(s i:Nat):List Int:=mk (s+i) fun t=>if t<s then 0 else c*cf q (t-s)
theorem Zev(q:List Int)(c:Int)(s:Nat):List.replicate s 0=shm q c s 0:=by
 rw [Zta];unfold shm
 exact Hd fun i hi=>by rw [if_pos hi]
theorem Zew(q:List Int)(c:Int)(s i:Nat):shm q c s i ++ [c*cf q i]=shm q c s (i+1):=by
 unfold shm
 rw [show s+(i+1)=s+i+1 by omega,Gr,if_neg O,show s+i-s=i by omega]
theorem Zo4(q:List Int)(c:Int)(s t:Nat):cf (shm q c s q.length) t=if s≤t∧t<s+q.length then c*cf q (t-s)else 0:=by
 unfold shm
 rw [Mn]
 by_cases h1:t<s
 ·rw [if_neg (by omega:¬(s≤t∧t<s+q.length))];split
  ·rfl
  ·rfl
 ·by_cases h2:t<s+q.length
  ·rw [if_pos h2,if_neg h1,if_pos (show s≤t∧t<s+q.length by omega)]
  ·rw [if_neg h2,if_neg (show ¬(s≤t∧t<s+q.length) by omega)]
section
variable {p q:List Int}
theorem Zd0(hq:0<q.length)(hl:q.length≤p.length):∀j,j≤p.length-q.length+1→∀t,p.length-j≤t→cf (Xz p q j) t=0
 | 0,_,t,ht=>Yb (by unfold Xz;omega)
 | j+1,hj,t,ht=>by
  rcases Nat.lt_or_ge t p.length with h | h
  ·unfold Xz
   rw [Zfz (by rw [Qv];exact h)]
   by_cases he:t=p.length-1-j
   ·subst he
    rw [if_pos O,show p.length-1-j-(p.length-1-j-(q.length-1))=q.length-1 by omega]
    omega
   ·rw [Zd0 hq hl j O t O,Int.zero_mul,if_neg O];rfl
  ·exact Yb (by rw [Qv];omega)
theorem Zbm(hq:0<q.length)(hl:q.length≤p.length){j:Nat} : ∀k,j+k≤p.length-q.length+1→(∀t,p.length-(j+k)≤t→cf (Xz p q j) t=0)→∀t,cf (Xz p q (j+k)) t=cf (Xz p q j) t*cf q (q.length-1)^k
 | 0,_,_,t=>by rw [Int.pow_zero,Int.mul_one];rfl
 | k+1,hk,hz,t=>by
  have ih:=Zbm hq hl k O (fun t ht=>hz t O)
  rcases Nat.lt_or_ge t p.length with h | h
  ·show cf (Zdi q (Xz p q (j+k)) (p.length-1-(j+k))) t=_
   rw [Zfz (by rw [Qv];exact h),ih t,ih (p.length-1-(j+k)),hz (p.length-1-(j+k)) O,Int.zero_mul,Int.zero_mul]
   split<;>rw [Int.sub_zero,Int.pow_succ,Int.mul_assoc]
  ·rw [Yb (by rw [Qv];omega),Yb (by rw [Qv];omega),Int.zero_mul]
def Eb(p q R:List Int)(j:Nat):Prop:=Tr R∧∀t,cf R t=cf (Xz p q j) t*cf q (q.length-1)^(p.length-q.length+1-j)
theorem Zne:Eb p q (Zv p (cf q (q.length-1)^(p.length-q.length+1))) 0:=⟨Xp _ _,fun t=>by rw [Yj];rfl⟩
theorem Zs8{R:List Int}{j:Nat}(hq:0<q.length)(hl:q.length≤p.length)(hlead:cf q (q.length-1)≠0)(hj:j≤p.length-q.length+1)(h:Eb p q R j)(hR:q.length≤R.length):j≤p.length-R.length∧p.length-R.length≤p.length-q.length∧R.length≤p.length∧Eb p q R (p.length-R.length):=by
 have hpow:∀n,cf q (q.length-1)^n≠0:=fun n=>Nh hlead n
 have htop:cf R (R.length-1)≠0:=h.1.mem (fun e=>by rw [e,List.length_nil]at hR;omega)
 have h1:R.length-1<p.length-j:=by
  rcases Nat.lt_or_ge (R.length-1) (p.length-j)with h1 | h1
  ·exact h1
  ·rw [h.2,Zd0 hq hl j hj _ h1,Int.zero_mul]at htop;exact absurd rfl htop
 have hjl:j≤p.length-R.length:=O
 refine⟨hjl,O,O,h.1,fun t=>?_⟩
 have hz:∀t,p.length-(j+(p.length-R.length-j))≤t→cf (Xz p q j) t=0:=fun t ht=>by
  have h2:=h.2 t
  rw [Yb O]at h2
  rcases Int.mul_eq_zero.1 h2.symm with h3 | h3
  ·exact h3
  ·exact absurd h3 (hpow _)
 have h2:=Zbm hq hl (j:=j) (p.length-R.length-j) O hz t
 rw [show j+(p.length-R.length-j)=p.length-R.length by omega]at h2
 rw [h2,h.2,Int.mul_assoc,←Int.pow_add]
 congr 2;omega
theorem Zhc{R:List Int}(hlead:cf q (q.length-1)≠0)(h:Eb p q R (p.length-R.length))(hq:0<q.length)(hR:q.length≤R.length)(hp:R.length≤p.length):cf R (R.length-1)/cf q (q.length-1)=cf (Xz p q (p.length-R.length)) (R.length-1)*cf q (q.length-1)^(p.length-q.length-(p.length-R.length)):=by
 rw [h.2,show p.length-q.length+1-(p.length-R.length)=p.length-q.length-(p.length-R.length)+1 by omega,Int.pow_succ,←Int.mul_assoc]
 exact Int.mul_ediv_cancel _ hlead
theorem Znf{R:List Int}(hlead:cf q (q.length-1)≠0)(h:Eb p q R (p.length-R.length))(hq:0<q.length)(hR:q.length≤R.length)(hp:R.length≤p.length) :
  Eb p q (Gj R (shm q (cf R (R.length-1)/cf q (q.length-1)) (R.length-q.length) q.length)) (p.length-R.length+1):=by
 refine⟨Zcg _ _,fun t=>?_⟩
 rw [Lu,Zo4,Zhc hlead h hq hR hp,h.2]
 rcases Nat.lt_or_ge t p.length with ht | ht
 ·show _=cf (Zdi q (Xz p q (p.length-R.length)) (p.length-1-(p.length-R.length))) t*_
  rw [Zfz (by rw [Qv];exact ht),show p.length-1-(p.length-R.length)=R.length-1 by omega,show R.length-1-(q.length-1)=R.length-q.length by omega]
  rw [show p.length-q.length+1-(p.length-R.length)=p.length-q.length-(p.length-R.length)+1 by omega,show p.length-q.length+1-(p.length-R.length+1)=p.length-q.length-(p.length-R.length) by omega,Int.pow_succ]
  split<;>grind
 ·rw [Yb (p:=Xz p q (p.length-R.length)) (by rw [Qv];exact ht),Yb (p:=Xz p q (p.length-R.length+1)) (by rw [Qv];exact ht),if_neg O]
  simp
theorem Zqj{R:List Int}{j:Nat}(hq:0<q.length)(hl:q.length≤p.length)(hlead:cf q (q.length-1)≠0)(hj:j≤p.length-q.length+1)(h:Eb p q R j)(hR:R.length<q.length):R=Xm p q:=by
 unfold Xm
 rw [if_neg O]
 refine h.1.ext (Pk _) fun t=>?_
 have hz:∀t,p.length-(j+(p.length-q.length+1-j))≤t→cf (Xz p q j) t=0:=fun t ht=>by
  have h2:=h.2 t
  rw [Yb O]at h2
  rcases Int.mul_eq_zero.1 h2.symm with h3 | h3
  ·exact h3
  ·exact absurd h3 (Nh hlead _)
 have h2:=Zbm hq hl (j:=j) (p.length-q.length+1-j) O hz t
 rw [show j+(p.length-q.length+1-j)=p.length-q.length+1 by omega]at h2
 rw [Lb,h2,h.2]
theorem Zs9{R:List Int}{j:Nat}(hj:j≤p.length-q.length+1)(h:Eb p q R j):Sz (Xw p+(p.length-q.length+1)*(Xw q+1)+1) R:=fun t=>by
 rw [h.2]
 have h1:=Dw p q j t
 have h2:=Dg (Pf q (q.length-1)) (p.length-q.length+1-j)
 have h3:=Yd (cf (Xz p q j) t) (cf q (q.length-1)^(p.length-q.length+1-j))
 have h4:(p.length-q.length+1-j)*Xw q≤(p.length-q.length+1-j)*(Xw q+1):=Nat.mul_le_mul_left _ O
 have h5:j*(Xw q+1)+(p.length-q.length+1-j)*(Xw q+1)=(p.length-q.length+1)*(Xw q+1):=by rw [←Nat.add_mul];congr 1;omega
 omega
theorem Zqi{R:List Int}{j:Nat}(h:Eb p q R j):R.length≤p.length:=by
 rcases Nat.lt_or_ge p.length R.length with h1 | h1
 ·have h2:=h.1.mem (fun e=>by rw [e]at h1;simp at h1)
  rw [h.2,Yb (by rw [Qv];omega),Int.zero_mul]at h2
  exact absurd rfl h2
 ·exact h1
end
end Go.Sky
namespace Go.Sky
section
variable {P:Program} {N:Nat} {sc:Nat→Prop} {env env':Py} {H H':Hp}
theorem Ch(n k:Nat):∀a w,Sat N sc env H a w→Sat N sc env ((n,Hy qI (List.replicate k I0)) :: H) a w:=fun a w hs=>by
 have hz:∀z,z∈List.replicate k I0→z=I0:=fun z hz=>(List.mem_replicate.1 hz).2
 refine hs.add n _ (fun z h=>by rw [hz z h];exact Ak 1 Kc w) (fun j' jt _ _ Km b hb hb'=>?_) (fun b hb=>?_)
 ·obtain⟨z,h1,h2⟩:=hb;rw [hz z h1]at h2;cases h2.2
 ·obtain⟨z,h1,h2⟩:=hb;rw [hz z h1]at h2;cases h2.2
end
theorem Zx7{c r l:Int}{n A B:Nat}(h:c=r*l^n)(hr:bl r.natAbs≤A)(hl:bl l.natAbs≤B):bl c.natAbs≤A+(n*B+1):=by
 rw [h]
 have h1:=Yd r (l^n)
 rcases Nat.eq_zero_or_pos n with h0 | h0
 ·rw [h0,Int.pow_zero];rw [Int.mul_one];omega
 ·have:=Iw l hl n h0;omega
theorem Yg4{p q R:List Int}(hq:q.length≤R.length)(hl:q.length≤p.length)(hp:R.length≤p.length) :
  Xw p+(p.length-R.length)*(Xw q+1)+((p.length-q.length-(p.length-R.length))*Xw q+1)≤Xw p+(p.length-q.length+1)*(Xw q+1):=by
 have h1:(p.length-q.length-(p.length-R.length))*Xw q≤(p.length-q.length-(p.length-R.length))*(Xw q+1):=Nat.mul_le_mul_left _ O
 have h2:(p.length-R.length)*(Xw q+1)+(p.length-q.length-(p.length-R.length))*(Xw q+1)=(p.length-q.length)*(Xw q+1):=by rw [←Nat.add_mul];congr 1;omega
 rw [Nat.succ_mul];omega
theorem Yb7{p q R:List Int}{c r:Int}(h:c=r*cf q (q.length-1)^(p.length-q.length-(p.length-R.length)))(hr:bl r.natAbs≤Xw p+(p.length-R.length)*(Xw q+1))(hs:Sz (Xw q) q)(hq:q.length≤R.length)(hl:q.length≤p.length)(hp:R.length≤p.length)(t:Nat) :
  bl (c*cf q t).natAbs≤Xw p+(p.length-q.length+1)*(Xw q+1)+1:=by
 have h1:=Zx7 h hr (hs _)
 have h2:=Yd c (cf q t)
 have h3:=hs t
 have h4:(p.length-q.length-(p.length-R.length))*Xw q≤(p.length-q.length-(p.length-R.length))*(Xw q+1):=Nat.mul_le_mul_left _ O
 have h5:(p.length-R.length)*(Xw q+1)+(p.length-q.length-(p.length-R.length))*(Xw q+1)=(p.length-q.length)*(Xw q+1):=by rw [←Nat.add_mul];congr 1;omega
 rw [Nat.succ_mul];omega
theorem Zm6{q:List Int}{c:Int}{s i n:Nat}(h:∀t,bl (c*cf q t).natAbs≤n):Sz n (shm q c s i):=by
 unfold shm
 refine Cp fun t _=>?_
 split
 ·exact Nat.zero_le _
 ·exact h _
end Go.Sky
namespace Go.Sky
theorem Yee(zs:List (Int×SL))(k:Nat)(z:Int×SL):Zb (zs.set k z)=(Zb zs).set k z.1:=by simp [Zb,List.map_set]
theorem Yio{q D:List Int}{k:Nat}(h:k+q.length≤D.length):Gj (tzl D) (tzl (shm q (cf D (k+q.length-1)/cf q (q.length-1)) k q.length))=tzl (Zdp q D k):=by
 refine(Zcg _ _).ext (Pk _) fun t=>?_
 rw [Lu,Lb,Lb,Lb,Zo4]
 unfold Zdp
 rw [Mn]
 by_cases h1:t<D.length
 ·rw [if_pos h1];rfl
 ·rw [if_neg h1,if_neg O,Yb O];rfl
theorem div_c{q:List Int}{x:Int}{A:Nat}(h0:cf q (q.length-1)≠0)(hx:x%cf q (q.length-1)=0)(ha:bl x.natAbs≤A)(t:Nat):bl (x/cf q (q.length-1)*cf q t).natAbs≤A+(Xw q+1):=by
 have h1:=Gc (Int.dvd_of_emod_eq_zero hx) ha
 have h2:=Yd (x/cf q (q.length-1)) (cf q t)
 have h3:=Pf q t
 omega
theorem Zrp(p q:List Int)(j:Nat):Xb p q (j+1)=Zdp q (Xb p q j) (p.length-q.length-j):=rfl
theorem Ye0{p q:List Int}{j:Nat}(h:q.length≤p.length)(hj:j≤p.length-q.length):Gj (tzl (Xb p q j)) (tzl (shm q (cf (Xb p q j) (p.length-q.length-j+q.length-1)/cf q (q.length-1)) (p.length-q.length-j) q.length))=tzl (Xb p q (j+1)):=by
 rw [Zrp];exact Yio (by rw [He];omega)
theorem Yab{p q:List Int}{j:Nat}(hj:j<p.length-q.length+1):(Zb2 p q j).set (p.length-q.length-j) (cf (Xb p q j) (p.length-q.length-j+q.length-1)/cf q (q.length-1))=Zb2 p q (j+1):=Zrq hj
theorem div_sz{p q:List Int}{j:Nat}(hj:j≤p.length-q.length+1)(hx:∀k,p.length-q.length<k+j→k≤p.length-q.length→Nu p q k){M:Nat}(hF:Xw p+(p.length-q.length+1)*(Xw q+1)≤M)(t:Nat):bl (cf (Xb p q j) t).natAbs≤M:=by
 have h1:=Bx p q j hj hx t
 have h2:j*(Xw q+1)≤(p.length-q.length+1)*(Xw q+1):=Nat.mul_le_mul_right _ hj
 omega
theorem Yin{p q:List Int}{j:Nat}(hj:j≤p.length-q.length)(hx:∀k,p.length-q.length<k+j→k≤p.length-q.length→Nu p q k){M:Nat}(hF:Xw p+(p.length-q.length+1)*(Xw q+1)≤M)(t:Nat):bl (cf (Xb p q j) t).natAbs+(Xw q+1)≤M:=by
 have h1:=Bx p q j O hx t
 have h2:(j+1)*(Xw q+1)≤(p.length-q.length+1)*(Xw q+1):=Nat.mul_le_mul_right _ O
 rw [Nat.succ_mul]at h2
 omega
theorem Yil{p q:List Int}{M:Nat}(hF:Xw p+(p.length-q.length+1)*(Xw q+1)≤M)(hx:∀k,k≤p.length-q.length→Nu p q k)(j:Nat):Sz M (Zb2 p q j):=by
 refine Cp fun t ht=>?_
 split
 ·unfold Zrz dq
  have h1:=div_sz (p:=p) (q:=q) (j:=p.length-q.length-t) O (fun k _ hk=>hx k hk) hF (t+q.length-1)
  exact Gc (Int.dvd_of_emod_eq_zero (hx t O)) h1
 ·simp [Lx]
theorem Yhf{p q:List Int}(hp:p≠[])(hl:q.length≤p.length)(hx:∀k,k≤p.length-q.length→Nu p q k){n:Nat}(hn:n=(tzl (Xb p q (p.length-q.length+1))).length):decide (n=0)=decide (pdv p q):=by
 subst hn
 refine decide_eq_decide.2 ⟨fun h=> .inr ⟨hl,hx,List.eq_nil_of_length_eq_zero h⟩,fun h=>?_⟩
 rcases h with h | ⟨_,_,h⟩
 ·exact absurd h hp
 ·rw [h];rfl
theorem pdv_no{p q:List Int}(hp:p≠[]){k:Nat}(hk:k≤p.length-q.length)(h:¬Nu p q k):decide (pdv p q)=false:=decide_eq_false fun hd=>by
 rcases hd with h1 | ⟨_,h2,_⟩
 ·exact hp h1
 ·exact h (h2 k hk)
theorem Yhe{p q:List Int}(hp:p≠[])(h:p.length<q.length):decide (pdv p q)=false:=decide_eq_false fun hd=>by
 rcases hd with h1 | ⟨h2,_,_⟩
 ·exact hp h1
 ·omega
theorem Yhd{p q:List Int}(hp:p=[]):decide (pdv p q)=true:=decide_eq_true (.inl hp)
def rterm(a b:Int):Nat→List Int
 | 0=>[1]
 | i+1=>Xq (rterm a b i) (tzl [a,b])
def rsum(p:List Int)(a b d:Int):Nat→List Int
 | 0=>[]
 | i+1=>Bq (rsum p a b d i) (Zv (rterm a b i) (cf p i*d^(p.length-1-i)))
def hs(f:Nat→PS):Nat→PS
 | 0=>0
 | n+1=>hs f n+f n
theorem Yco(p:List Int):ps (tzl p)=ps p:=PS.ext' fun i=>Lb p i
theorem C_c(n:Int)(i:Nat):(PS.C n).c i=if i=0 then n else 0:=by
 have h:=PS.C_mul_c n 1 i
 rw [show PS.C n*1=PS.C n from PS.mul_one' _,PS.one_c]at h
 rw [h];split<;>simp
abbrev RW:=List (Bool×ByteArray)
abbrev qR (z:SL×RW):Pc:=Xc 2 Zt6 (Mb z.1) z.2
abbrev qZ (z:SL×List Int):Pc:=Xc 2 wv (Mb z.1) z.2
abbrev R0:SL×RW:=((none,0,0),[])
def short1(r:RW):Bool:=(decide (r.length≤14) || decide (r.length=26)) && r.all fun c=>decide (c.2.size≤16)
def shortb(ls:List RW):Bool:=ls.all short1
theorem Zht {P:Program} {N:Nat} {sc:Nat→Prop} {M:Nat→Prop} {env:Py} {H:Hp} {ops:Array Oper} {F:Py→Hp→Prop} {rest:List (Nat×Nat)} {i:Nat} {o:Oper} {G:Type} {φ:G→Prop} {genv:G→Py} {gH:G→Hp} {j e:Nat} {b:Bool} (ho:ops[i]? = some o) (hg:o.guard=some (j,b)) (hj:(ops[j]?).bind (·.dst)=some e) (he:lk env e=some (.bool b)) (heN:Nat.blt e N=true) (ht:T P N sc M o env H φ genv gH)
  (h:∀g,φ g→LD P N sc M ops F rest (genv g) (gH g)) :
  LD P N sc M ops F ((i,1) :: rest) env H:=r1g ht ho hg hj he heN h
theorem Cf{f:Nat→Int}{k:Nat} : ∀{n:Nat},k<n→(∀i,i<n→i≠k→f i=0)→Yv f n=f k
 | 0,hk,_=>absurd hk (Nat.not_lt_zero _)
 | n+1,hk,h=>by
  rw [Yy]
  by_cases e:k=n
  ·subst e
   rw [Gk fun i hi=>h i O O,Int.zero_add]
  ·rw [h n O (fun x=>e x.symm),Cf O (fun i hi=>h i O),Int.add_zero]
theorem Cr{p q:List Int}{a b:Nat}(ha:∀i,a<i→cf p i=0)(hb:∀i,b<i→cf q i=0):(ps p*ps q).c (a+b)=cf p a*cf q b:=by
 rw [PS.mul_c,Cf (k:=a) O fun i hi hne=>?_]
 ·rw [Nd,Nd,show a+b-a=b by omega]
 ·rw [Nd,Nd]
  rcases Nat.lt_or_ge a i with h | h
  ·rw [ha i h,Int.zero_mul]
  ·rw [hb (a+b-i) O,Int.mul_zero]
theorem Zfe(s s':List Int)(c c':Int)(f:PS)(t:Nat):(ps (Gj (Zv s c) (Zv s' c'))*f).c t=c*(ps s*f).c t-c'*(ps s'*f).c t:=by
 rw [PS.mul_c,PS.mul_c,PS.mul_c,←Oo,Int.sub_eq_add_neg,←Int.neg_mul,←Oo,←Dx]
 refine Yo fun k _=>?_
 rw [Nd,Nd,Nd,Lu,Yj,Yj]
 grind
theorem Zq2(f:PS)(q q':List Int)(u v:Int)(h:∀i,u*cf q i=v*cf q' i)(t:Nat):u*(f*ps q).c t=v*(f*ps q').c t:=by
 rw [PS.mul_c,PS.mul_c,←Oo,←Oo]
 refine Yo fun k _=>?_
 rw [Nd,Nd]
 have:=h (t-k)
 grind
theorem Zwf{q s r:List Int}(hq:Tr q)(hq0:q≠[])(h:∀t,(ps s*ps q).c t=cf r t)(hr:∀t,q.length-1≤t→cf r t=0):∀t,cf s t=0:=by
 have hlead:=hq.mem hq0
 have hlen:0<q.length:=List.length_pos_iff.2 hq0
 have hs:tzl s=[]:=by
  rcases Zh5 (tzl s)with h1 | ⟨ys,y,h1⟩
  ·exact h1
  ·exfalso
   have ht:=Pk s
   have hne:tzl s≠[]:=by rw [h1];simp
   have h2:=ht.mem hne
   have h3:=Cr (p:=tzl s) (q:=q) (a:=(tzl s).length-1) (b:=q.length-1) (fun i hi=>Yb O) (fun i hi=>Yb O)
   have h4:ps (tzl s)=ps s:=PS.ext' fun i=>Lb s i
   rw [h4,h,hr _ O]at h3
   rcases Int.mul_eq_zero.1 h3.symm with h5 | h5
   ·exact h2 h5
   ·exact hlead h5
 exact(Ld s).1 hs
theorem Mu{s:List Int}(h:∀t,cf s t=0)(f:PS)(t:Nat):(ps s*f).c t=0:=by
 rw [PS.mul_c]
 exact Gk fun k _=>by rw [Nd,h,Int.zero_mul]
theorem Po{p q:List Int}(hp:Tr p)(hq:Tr q)(h1:p≠[])(h2:q≠[]):(Xq p q).length=p.length+q.length-1:=by
 have l1:=List.length_pos_iff.2 h1
 have l2:=List.length_pos_iff.2 h2
 unfold Xq
 rw [Zac,Yu]
 right
 rw [Yu,Mn,if_pos O,show p.length+q.length-1-1=(p.length-1)+(q.length-1) by omega,Cr (fun i hi=>Yb O) (fun i hi=>Yb O)]
 exact Int.mul_ne_zero (hp.mem h1) (hq.mem h2)
def mono(s:Nat)(c:Int):List Int:=List.replicate s 0 ++ [c]
theorem Zil(s:Nat)(c:Int)(i:Nat):cf (mono s c) i=if i=s then c else 0:=by
 unfold mono
 rw [Zdb,List.length_replicate]
 split
 ·rw [if_neg O]
  unfold cf
  simp [List.getD_eq_getElem?_getD,List.getElem?_replicate]
  split<;>rfl
 ·rename_i h
  split
  ·rename_i h2;subst h2;simp [cf]
  ·exact Yb O9
theorem Zju(s:Nat)(c:Int)(f:PS)(t:Nat):(ps (mono s c)*f).c t=if s≤t then c*f.c (t-s)else 0:=by
 rw [PS.mul_c]
 split
 ·rw [Cf (k:=s) O fun i _ hne=>by rw [Nd,Zil,if_neg hne,Int.zero_mul],Nd,Zil,if_pos rfl]
 ·exact Gk fun k hk=>by rw [Nd,Zil,if_neg O,Int.zero_mul]
theorem Zgg{p q:List Int}(hq:0<q.length)(hl:q.length≤p.length):∀j,j≤p.length-q.length+1→∃s:List Int,∀t,cf q (q.length-1)^j*cf p t=(ps s*ps q).c t+cf (Xz p q j) t
 | 0,_=>⟨[],fun t=>by rw [Mu (fun t=>Yb (Nat.zero_le _)),Int.pow_zero];unfold Xz;omega⟩
 | j+1,hj=>by
  obtain⟨s,ih⟩:=Zgg hq hl j O
  refine⟨Gj (Zv s (cf q (q.length-1))) (Zv (mono (p.length-1-j-(q.length-1)) (cf (Xz p q j) (p.length-1-j))) (-1)),fun t=>?_⟩
  rw [Zfe,Zju]
  have h0:=ih t
  show _=_+cf (Zdi q (Xz p q j) (p.length-1-j)) t
  rw [Int.pow_succ]
  rcases Nat.lt_or_ge t p.length with h | h
  ·rw [Zfz (by rw [Qv];exact h)]
   generalize p.length-1-j-(q.length-1)=sh
   generalize cf (Xz p q j) (p.length-1-j)=R
   generalize cf (Xz p q j) t=R' at h0 ⊢
   generalize (ps s*ps q).c t=X at h0 ⊢
   generalize cf q (q.length-1)^j=L at h0 ⊢
   generalize cf q (q.length-1)=l at h0 ⊢
   have e:L*l*cf p t=l*X+R'*l:=by rw [Int.mul_assoc,Int.mul_comm l,←Int.mul_assoc,h0];grind
   rw [e]
   by_cases h1:sh≤t
   ·rw [if_pos h1,Nd]
    by_cases h2:t<sh+q.length
    ·rw [if_pos ⟨h1,h2⟩];omega
    ·rw [if_neg O,Yb (p:=q) (i:=t-_) O];omega
   ·rw [if_neg h1,if_neg O];omega
  ·have z1:cf p t=0:=Yb h
   have z2:cf (Xz p q j) t=0:=Yb (by rw [Qv];exact h)
   have z3:cf (Zdi q (Xz p q j) (p.length-1-j)) t=0:=Yb (by rw [Zfk,Qv];exact h)
   have z4:cf q (t-(p.length-1-j-(q.length-1)))=0:=Yb O
   rw [z1,z2,Int.mul_zero,Int.add_zero]at h0
   rw [z1,z3,if_pos O,Nd,z4,←h0];simp
theorem Ei(p:List Int){q:List Int}(hq:q≠[]):∃(k:Nat) (s:List Int),∀t,cf q (q.length-1)^k*cf p t=(ps s*ps q).c t+cf (Xm p q) t:=by
 have hq':0<q.length:=List.length_pos_iff.2 hq
 rcases Nat.lt_or_ge p.length q.length with h | h
 ·refine⟨0,[],fun t=>?_⟩
  rw [Mu (fun t=>Yb (Nat.zero_le _)),Int.pow_zero]
  unfold Xm;rw [if_pos h];omega
 ·obtain⟨s,hs⟩:=Zgg hq' h _ (Nat.le_refl _)
  refine⟨p.length-q.length+1,s,fun t=>?_⟩
  rw [hs t]
  unfold Xm
  rw [if_neg O,Lb]
theorem Qr(p:List Int){q:List Int}(hq:q≠[]):(Xm p q).length<q.length:=by
 have hq':0<q.length:=List.length_pos_iff.2 hq
 unfold Xm
 split
 ·assumption
 ·have:=Zad (p:=Xz p q (p.length-q.length+1)) (n:=q.length-1) fun i hi=>Zd0 hq' O _ (Nat.le_refl _) i O
  omega
theorem Lf{p q:List Int}(hp:Tr p):Tr (Xm p q):=by
 unfold Xm;split
 ·exact hp
 ·exact Pk _
def Sim(a b:List Int):Prop:=∃m n:Int,m≠0∧n≠0∧∀i,m*cf a i=n*cf b i
theorem Sim.refl(a:List Int):Sim a a:=⟨1,1,O3,O3,fun _=>rfl⟩
theorem Sim.symm{a b:List Int} : Sim a b→Sim b a:=fun⟨m,n,hm,hn,h⟩=>⟨n,m,hn,hm,fun i=>(h i).symm⟩
theorem Sim.trans{a b c:List Int} : Sim a b→Sim b c→Sim a c:=fun⟨m,n,hm,hn,h⟩ ⟨u,v,hu,hv,k⟩=>
 ⟨m*u,n*v,Int.mul_ne_zero hm hu,Int.mul_ne_zero hn hv,fun i=>by have h1:=h i;have h2:=k i;grind⟩
theorem Sim.zero{a b:List Int}(h:Sim a b){i:Nat}(hi:cf a i=0):cf b i=0:=by
 obtain⟨m,n,hm,hn,h⟩:=h
 have:=h i
 rw [hi,Int.mul_zero]at this
 rcases Int.mul_eq_zero.1 this.symm with h | h
 ·exact absurd h hn
 ·exact h
theorem Sim.len_le{a b:List Int}(h:Sim a b)(hb:Tr b):b.length≤a.length:=by
 rcases Nat.lt_or_ge a.length b.length with hl | hl
 ·exfalso
  have hne:b≠[]:=List.length_pos_iff.1 O
  exact hb.mem hne (h.zero (Yb O))
 ·exact hl
theorem Sim.len{a b:List Int}(h:Sim a b)(ha:Tr a)(hb:Tr b):a.length=b.length:=Nat.le_antisymm (h.symm.len_le ha) (h.len_le hb)
theorem Sim.nil{a b:List Int}(h:Sim a b)(hb:Tr b)(ha:a=[]):b=[]:=by
 have:=h.len_le hb
 rw [ha]at this
 exact List.eq_nil_of_length_eq_zero (by simpa using this)
theorem Zy9{a b a' b':List Int}(ha:Tr a)(ha':Tr a')(hb:Tr b)(hb':Tr b')(h0:b≠[])(h1:Sim a a')(h2:Sim b b'):Sim (Xm a b) (Xm a' b'):=by
 have h0':b'≠[]:=fun e=>h0 (h2.symm.nil hb e)
 have hlen:=h2.len hb hb'
 obtain⟨k,s,hs⟩:=Ei a h0
 obtain⟨k',s',hs'⟩:=Ei a' h0'
 have hL:cf b (b.length-1)^k≠0:=Nh (hb.mem h0) k
 have hL':cf b' (b'.length-1)^k'≠0:=Nh (hb'.mem h0') k'
 generalize cf b (b.length-1)^k=L at hs hL
 generalize cf b' (b'.length-1)^k'=L' at hs' hL'
 obtain⟨m,n,hm,hn,e1⟩:=h1
 obtain⟨u,v,hu,hv,e2⟩:=h2
 have l1:=Qr a h0
 have l2:=Qr a' h0'
 have key:∀t,(ps (Gj (Zv s (L'*m*v)) (Zv s' (L*n*u)))*ps b').c t=cf (Gj (Zv (Xm a' b') (L*n*u)) (Zv (Xm a b) (L'*m*u))) t:=fun t=>by
  rw [Zfe,Lu,Yj,Yj]
  have a1:=hs t
  have a2:=hs' t
  have a3:=e1 t
  have a4:=Zq2 (ps s) b b' u v e2 t
  generalize (ps s*ps b).c t=X at a1 a4
  generalize (ps s*ps b').c t=Y at a4
  generalize (ps s'*ps b').c t=Z at a2
  generalize cf a t=A at a1 a3
  generalize cf a' t=A' at a2 a3
  generalize cf (Xm a b) t=R at a1
  generalize cf (Xm a' b') t=R' at a2
  have:L'*m*v*Y=L'*m*u*X:=O4
  grind
 have z:=Zwf hb' h0' key fun t ht=>by
  rw [Lu,Yj,Yj,Yb (p:=Xm a' b') O,Yb (p:=Xm a b) O];omega
 refine⟨L'*m*u,L*n*u,by simp [*],by simp [*],fun t=>?_⟩
 have:=key t
 rw [Mu z,Lu,Yj,Yj]at this
 grind
theorem Za9(c:Int):∀(p:List Int) (g:Int),0≤g→(p.map (· * c)).foldl (fun g c=>(Int.gcd g c:Int)) (g*c.natAbs)=p.foldl (fun g c=>(Int.gcd g c:Int)) g*c.natAbs
 | [],g,_=>rfl
 | x :: p,g,hg=>by
  rw [List.map_cons,List.foldl_cons,List.foldl_cons,←Za9 c p _ O]
  congr 1
  have:Int.gcd (g*(c.natAbs:Int)) (x*c)=Int.gcd g x*c.natAbs:=by
   unfold Int.gcd
   rw [Int.natAbs_mul,Int.natAbs_mul,Int.natAbs_natCast,Nat.gcd_mul_right]
  rw [this];push_cast;rfl
theorem Zgl(p:List Int)(c:Int):Yk (p.map (· * c))=Yk p*c.natAbs:=by
 have:=Za9 c p 0 (Int.le_refl _)
 rw [Int.zero_mul]at this
 exact this
theorem Ir(p:List Int)(i:Nat):cf (Zr p) i*Yk p=cf p i:=by
 rw [Au];exact Int.ediv_mul_cancel (Mo p i)
theorem Zza:Zr []=[]:=rfl
theorem El{p:List Int}(h:Tr p)(h0:p≠[]):Yk p≠0:=fun e=>h.mem h0 ((Zbs p).1 e _)
theorem Li{p:List Int}(h:Tr p)(h0:p≠[]):Yk (Zr p)=1:=by
 have h1:=El h h0
 have h2:=Zgl (Zr p) (Yk p)
 rw [show(Zr p).map (· * Yk p)=p from Ih (by rw [List.length_map,Zq]) fun i _=>by rw [Zgu _ _ O5];exact Ir p i]at h2
 have h3:=Nf p
 have h4:Yk p*(Yk (Zr p)-1)=0:=by
  rw [Int.mul_sub,Int.mul_one,Int.mul_comm]
  have:((Yk p).natAbs:Int)=Yk p:=O
  rw [this]at h2;omega
 rcases Int.mul_eq_zero.1 h4 with h5 | h5<;>omega
theorem Ze5{p:List Int}(h:Yk p=1):Zr p=p:=Ih (Zq p) fun i _=>by rw [Au,h,Int.ediv_one]
theorem Cn{p:List Int}(h:Tr p):Zr (Zr p)=Zr p:=by
 by_cases h0:p=[]
 ·subst h0;rfl
 ·exact Ze5 (Li h h0)
theorem Xt{p:List Int}(h:Tr p):Sim (Zr p) p:=by
 by_cases h0:p=[]
 ·subst h0;exact Sim.refl _
 ·exact⟨Yk p,1,El h h0,O3,fun i=>by rw [Int.one_mul,Int.mul_comm];exact Ir p i⟩
def Yn(p:List Int):List Int:=Mm (Zr p)
theorem Zi2{x y:List Int}(hx:Tr x)(hy:Tr y)(h0:x≠[])(h1:Yk x=1)(h2:Yk y=1)(h:Sim x y):x=y∨∀i,cf x i=- cf y i:=by
 have hl:=h.len hx hy
 obtain⟨m,n,hm,hn,e⟩:=h
 have h3:=Zgl x m
 have h4:=Zgl y n
 rw [show x.map (· * m)=y.map (· * n)from Ih (by simp [hl]) fun i _=>by
  rw [Zgu _ _ O5,Zgu _ _ O5,Int.mul_comm,Int.mul_comm (cf y i)];exact e i,h4,h1,h2]at h3
 have h5:m=n∨m=-n:=O
 rcases h5 with rfl | rfl
 ·exact .inl (Ih hl fun i _=>Int.eq_of_mul_eq_mul_left hm (e i))
 ·exact .inr fun i=>Int.eq_of_mul_eq_mul_left hn (by have:=e i;grind)
theorem Gx(g:List Int)(i:Nat):cf (Mm g) i=if g.length≠0∧cf g (g.length-1)<0 then-cf g i else cf g i:=by
 unfold Mm;split
 ·rw [Yj];omega
 ·rfl
theorem On{g:List Int}(h:Tr g):Tr (Mm g):=by
 unfold Mm;split
 ·exact Xp _ _
 ·exact h
theorem Kp(g:List Int):Sim (Mm g) g:=by
 by_cases h:g.length≠0∧cf g (g.length-1)<0
 ·exact⟨-1,1,O3,O3,fun i=>by rw [Gx,if_pos h];omega⟩
 ·exact⟨1,1,O3,O3,fun i=>by rw [Gx,if_neg h]⟩
theorem Zn0{a b:List Int}(ha:Tr a)(hb:Tr b)(h:Sim a b):Yn a=Yn b:=by
 by_cases h0:a=[]
 ·rw [h.nil hb h0,h0]
 ·have h0':b≠[]:=fun e=>h0 (h.symm.nil ha e)
  have hs:Sim (Zr a) (Zr b):=(Xt ha).trans (h.trans (Xt hb).symm)
  have hx:=Yf ha
  have hy:=Yf hb
  have hl:=hs.len hx hy
  have hx0:Zr a≠[]:=fun e=>h0 (List.eq_nil_of_length_eq_zero (by rw [←Zq,e];rfl))
  rcases Zi2 hx hy hx0 (Li ha h0) (Li hb h0') hs with e | e
  ·unfold Yn;rw [e]
  ·unfold Yn
   refine(On hx).ext (On hy) fun i=>?_
   rw [Gx,Gx,←hl,e i,e ((Zr a).length-1)]
   have hne:cf (Zr b) ((Zr a).length-1)≠0:=by rw [hl];exact hy.mem (fun e2=>hx0 (List.eq_nil_of_length_eq_zero (by rw [hl,e2];rfl)))
   have hl0:(Zr a).length≠0:=fun e2=>hx0 (List.eq_nil_of_length_eq_zero e2)
   by_cases h3:cf (Zr b) ((Zr a).length-1)<0
   ·rw [if_neg O,if_pos ⟨hl0,h3⟩]
   ·rw [if_pos O,if_neg O];omega
theorem Zt3:∀(f:Nat) {a b a' b':List Int},Tr a→Tr a'→Tr b→Tr b'→Sim a a'→Sim b b'→Sim (eu f a b) (eu f a' b')
 | 0,_,_,_,_,_,_,_,_,h,_=>h
 | f+1,a,b,a',b',ha,ha',hb,hb',h1,h2=>by
  unfold eu
  by_cases h0:b=[]
  ·rw [if_pos h0,if_pos (h2.nil hb' h0)];exact h1
  ·rw [if_neg h0,if_neg (fun e=>h0 (h2.symm.nil hb e))]
   have t1:=Lf (q:=b) ha
   have t2:=Lf (q:=b') ha'
   exact Zt3 f hb hb' (Yf t1) (Yf t2) h2 ((Xt t1).trans ((Zy9 ha ha' hb hb' h0 h1 h2).trans (Xt t2).symm))
theorem Zkf:∀(f:Nat) {a b:List Int},Tr a→Tr b→Tr (eu f a b)
 | 0,_,_,h,_=>h
 | f+1,a,b,ha,hb=>by
  unfold eu
  split
  ·exact ha
  ·exact Zkf f hb (Yf (Lf ha))
theorem Zfo:∀(f k:Nat) {a b:List Int},eok f a b→eu (f+k) a b=eu f a b
 | 0,k,a,b,h=>by rw [show b=[]from h,Fm,Fm]
 | f+1,k,a,b,h=>by
  rcases h with h | h
  ·rw [h,Fm,Fm]
  ·by_cases h0:b=[]
   ·rw [h0,Fm,Fm]
   ·rw [show f+1+k=f+k+1 by omega]
    unfold eu
    rw [if_neg h0,if_neg h0]
    exact Zfo f k h.2
theorem Zw4:∀(f:Nat) {a b:List Int},Tr a→Tr b→Zr a=a→Zr b=b→Zr (eu f a b)=eu f a b
 | 0,_,_,_,_,h,_=>h
 | f+1,a,b,ha,hb,h1,h2=>by
  unfold eu
  split
  ·exact h1
  ·exact Zw4 f hb (Yf (Lf ha)) h2 (Cn (Lf ha))
theorem Zg3{p q:List Int}(hp:Tr p)(hq:Tr q):Tr (gA p q):=by unfold gA;split<;>exact Yf ‹_›
theorem Zg2{p q:List Int}(hp:Tr p)(hq:Tr q):Tr (gB p q):=by unfold gB;split<;>exact Yf ‹_›
theorem Zqw{F:Nat}{p q:List Int}(hp:Tr p)(hq:Tr q):Ou F p q=Yn (eu F (gA p q) (gB p q)):=by
 unfold Ou Yn
 rw [Zw4 F (Zg3 hp hq) (Zg2 hp hq)]
 ·unfold gA;split
  ·exact Cn hq
  ·exact Cn hp
 ·unfold gB;split
  ·exact Cn hp
  ·exact Cn hq
theorem Yib{F G:Nat}{p q:List Int}(hp:Tr p)(hq:Tr q)(h1:eok F p q)(h2:eok G (gA p q) (gB p q)):Mm (Zr (eu F p q))=Ou G p q:=by
 rw [Zqw hp hq]
 show Yn (eu F p q)=_
 rw [←Zfo F (G+1) h1,←Zfo G F h2]
 refine Zn0 (Zkf _ hp hq) (Zkf _ (Zg3 hp hq) (Zg2 hp hq)) ?_
 rcases Nat.lt_or_ge p.length q.length with h | h
 ·rw [show gA p q=Zr q from if_pos h,show gB p q=Zr p from if_pos h]
  rw [show F+(G+1)=F+G+1 by omega,show G+F=F+G by omega]
  have h0:q≠[]:=List.length_pos_iff.1 O
  have:eu (F+G+1) p q=eu (F+G) q (Zr p):=by
   conv=>lhs;unfold eu
   rw [if_neg h0,show Xm p q=p from if_pos h]
  rw [this]
  exact Zt3 _ hq (Yf hq) (Yf hp) (Yf hp) (Xt hq).symm (Sim.refl _)
 ·rw [show gA p q=Zr p from if_neg O,show gB p q=Zr q from if_neg O]
  have h3:eu (F+(G+1)) p q=eu (F+G) p q:=by rw [Zfo F (G+1) h1,Zfo F G h1]
  rw [h3,show G+F=F+G by omega]
  exact Zt3 _ hp (Yf hp) hq (Yf hq) (Xt hp).symm (Xt hq).symm
def chk:Nat→Nat→Nat→Nat→Nat→Bool
 | 0,_,lb,_,_=>Nat.beq lb 0
 | f+1,la,lb,A,B=>Nat.beq lb 0 || (bif Nat.blt la lb then chk f lb la B A else
   Nat.ble (A+(la-lb+1)*B) 65537 && (List.range lb).all fun l=>chk f lb l B (bif Nat.ble l 1 then 2 else A+(la-lb+1)*B))
theorem Zq9(x y:Int):Pa x y∣x:=by
 unfold Pa;split
 ·exact Int.neg_dvd.2 (Int.gcd_dvd_left ..)
 ·exact Int.gcd_dvd_left ..
theorem Zj0(x y:Int):Pa x y∣y:=by
 unfold Pa;split
 ·exact Int.neg_dvd.2 (Int.gcd_dvd_right ..)
 ·exact Int.gcd_dvd_right ..
def s8(l:List Int):Prop:=∀x∈l,(Qb x.natAbs).size≤8
abbrev Z0:SL×List Int:=((none,0,0),[])
theorem vp_eu:∀(f:Nat) {a b:List Int},Vp a→Vp b→eok f a b→Vp (eu f a b)
 | 0,_,_,h,_,_=>h
 | f+1,a,b,ha,hb,h=>by
  unfold eu
  split
  ·exact ha
  ·rcases h with h | h
   ·contradiction
   ·exact vp_eu f hb (Mr (Bu ha h.1)) h.2
theorem Yaq{g:List Int}(h:Vp g):Vp (Mm g):=by
 unfold Mm
 split
 ·refine⟨fun i=>by rw [Yj];exact Za6 h.sz i,Xp _ _,Nat.le_trans (Of _ _) h.len⟩
 ·exact h
theorem Zuw{F:Nat}{p q:List Int}(hp:Vp p)(hq:Vp q)(h:eok F (gA p q) (gB p q)):Vp (Ou F p q):=Yaq (vp_eu F (vp_gA hp hq) (vp_gB hp hq) h)
def pevn(p:List Int)(x y:Int)(n:Nat):Int:=Yv (fun i=>cf p i*(x^i*y^(n-1-i))) n
def dn(p:List Int)(y:Int):Int:=y^(p.length-1)
theorem Yc2{p q:List Int}(hp:Tr p)(hq:Tr q)(h1:p≠[])(h2:q≠[])(x y:Int):pev (Xq p q) x y=pev p x y*pev q x y:=by
 have l1:=List.length_pos_iff.2 h1
 have l2:=List.length_pos_iff.2 h2
 unfold pev
 rw [Po hp hq h1 h2]
 obtain⟨Fk,hF⟩:∃Fk:Nat→Nat→Int,∀k j,Fk k j=cf p k*cf q j*(x^(k+j)*y^(p.length+q.length-1-1-(k+j))):=⟨_,fun _ _=>rfl⟩
 have e1:Yv (fun i=>cf (Xq p q) i*(x^i*y^(p.length+q.length-1-1-i))) (p.length+q.length-1)=Yv (fun i=>Yv (fun k=>Fk k (i-k)) (i+1)) (p.length+q.length-1):=by
  refine Yo fun i _=>?_
  rw [Ku,PS.mul_c,←Zag]
  exact Yo fun k hk=>by
   rw [hF,show k+(i-k)=i by omega];rfl
 rw [e1,Zgb,Zcj (m:=p.length) O fun k h1 h2=>Gk fun j _=>by rw [hF,Yb h1,Int.zero_mul,Int.zero_mul],←Zag]
 refine Yo fun k hk=>?_
 rw [Zcj (m:=q.length) O fun j h1 h2=>by rw [hF,Yb h1,Int.mul_zero,Int.zero_mul],←Oo]
 refine Yo fun j hj=>?_
 rw [hF,Int.pow_add,show p.length+q.length-1-1-(k+j)=(p.length-1-k)+(q.length-1-j) by omega,Int.pow_add]
 generalize x^k=a;generalize x^j=b;generalize y^(p.length-1-k)=c;generalize y^(q.length-1-j)=d
 grind
theorem Ic(q:List Int):Xq [] q=[]:=Ai (.inl rfl)
theorem Zas(p:List Int):Xq p []=[]:=Ai (.inr rfl)
theorem Yd8(N D:Int):N/Pa N D*D=N*(D/Pa N D):=by
 have h1:=Int.ediv_mul_cancel (Zq9 N D)
 have h2:=Int.ediv_mul_cancel (Zj0 N D)
 generalize N/Pa N D=n at *
 generalize D/Pa N D=d at *
 generalize Pa N D=g at *
 subst h1 h2
 grind
theorem Zzx{N D:Int}(h:0<D):0<D/Pa N D:=by
 have h1:Pa N D=(Int.gcd N D:Int):=if_neg O
 have h2:=Int.ediv_mul_cancel (Zj0 N D)
 rw [h1]at h2 ⊢
 generalize D/(Int.gcd N D:Int)=d at *
 rcases Int.lt_or_le 0 d with h3 | h3
 ·exact h3
 ·exfalso
  have:d*(Int.gcd N D:Int)≤0:=Int.mul_nonpos_of_nonpos_of_nonneg h3 O
  omega
section
variable {p q:List Int}
theorem Zec(hp:Tr p)(hq:Tr q)(h1:p≠[])(h2:q≠[]):∀j,j≤p.length→∀t,cf (Xb (Xq p q) q j) t=(ps (p.take (p.length-j))*ps q).c t
 | 0,_,t=>by
  rw [Nat.sub_zero,List.take_length];exact Ku p q t
 | j+1,hj,t=>by
  have ih:=Zec hp hq h1 h2 j O
  have l1:=List.length_pos_iff.2 h1
  have l2:=List.length_pos_iff.2 h2
  have hl:=Po hp hq h1 h2
  have e0:Xb (Xq p q) q (j+1)=Zdp q (Xb (Xq p q) q j) (p.length-1-j):=by
   show Zdp q _ _=_;rw [hl];congr 1;omega
  have hq0:=hq.mem h2
  have htop:cf (Xb (Xq p q) q j) (p.length-1-j+q.length-1)=cf p (p.length-1-j)*cf q (q.length-1):=by
   rw [ih,show p.length-1-j+q.length-1=(p.length-1-j)+(q.length-1) by omega,Cr (fun i hi=>by rw [Gv,if_neg O]) (fun i hi=>Yb O),Gv,if_pos O]
  have hdq:dq q (Xb (Xq p q) q j) (p.length-1-j)=cf p (p.length-1-j):=by
   unfold dq;rw [htop];exact Int.mul_ediv_cancel _ hq0
  have e1:(ps (p.take (p.length-j))*ps q).c t=(ps (p.take (p.length-(j+1)))*ps q).c t+(ps (mono (p.length-1-j) (cf p (p.length-1-j)))*ps q).c t:=by
   rw [PS.mul_c,PS.mul_c,PS.mul_c,←Dx]
   refine Yo fun k _=>?_
   rw [Nd,Nd,Nd,Nd,Gv,Gv,Zil]
   by_cases a1:k=p.length-1-j
   ·rw [if_pos O,if_neg O,if_pos a1,←a1];omega
   ·rw [if_neg a1]
    by_cases a2:k<p.length-j
    ·rw [if_pos a2,if_pos O];omega
    ·rw [if_neg a2,if_neg O];omega
  rw [e0]
  unfold Zdp
  rw [Mn,He,hl,hdq,ih,e1,Zju,Nd]
  by_cases b1:t<p.length+q.length-1
  ·rw [if_pos b1]
   by_cases b2:p.length-1-j≤t
   ·rw [if_pos b2]
    by_cases b3:t<p.length-1-j+q.length
    ·rw [if_pos ⟨b2,b3⟩];omega
    ·rw [if_neg O,Yb (p:=q) O];omega
   ·rw [if_neg b2,if_neg O];omega
  ·rw [if_neg b1,PS.mul_c]
   refine(Gk fun k _=>?_).symm
   rw [Nd,Nd,Gv]
   split
   ·rw [Yb (p:=q) O,Int.mul_zero]
   ·rw [Int.zero_mul]
theorem Znt(hp:Tr p)(hq:Tr q)(h2:q≠[]):pdv (Xq p q) q∧Ms (Xq p q) q=p:=by
 by_cases h1:p=[]
 ·subst h1;rw [Ic];exact⟨.inl rfl,rfl⟩
 have l1:=List.length_pos_iff.2 h1
 have l2:=List.length_pos_iff.2 h2
 have hl:=Po hp hq h1 h2
 have hq0:=hq.mem h2
 have hd:∀k,k≤p.length-1→cf (Xb (Xq p q) q (p.length-1-k)) (k+q.length-1)=cf p k*cf q (q.length-1):=fun k hk=>by
  rw [Zec hp hq h1 h2 _ O,show k+q.length-1=k+(q.length-1) by omega,Cr (fun i hi=>by rw [Gv,if_neg O]) (fun i hi=>Yb O),Gv,if_pos O]
 have hn:(Xq p q).length-q.length=p.length-1:=O
 have hne:Xq p q≠[]:=List.length_pos_iff.1 O
 refine⟨.inr ⟨O,fun k hk=>?_,?_⟩,?_⟩
 ·unfold Nu;rw [hn]at hk ⊢;rw [hd k hk];exact Int.mul_emod_left _ _
 ·rw [hn,show p.length-1+1=p.length by omega]
  refine(Ld _).2 fun i=>?_
  rw [Zec hp hq h1 h2 _ (Nat.le_refl _),Nat.sub_self,List.take_zero]
  exact Mu (fun t=>Yb (Nat.zero_le _)) _ _
 ·rw [Zji hne]
  unfold Ycr
  rw [hn,show p.length-1+1=p.length by omega,Hd (g:=cf p) fun k hk=>?_,Zfg,Zac hp]
  unfold Zrz dq
  rw [hn,hd k O]
  exact Int.mul_ediv_cancel _ hq0
end
def Dv(g a:List Int):Prop:=∃(k:Int) (s:List Int),k≠0∧∀t,k*cf a t=(ps s*ps g).c t
theorem Zqx(f:PS)(t:Nat):(ps [1]*f).c t=f.c t:=by
 rw [PS.mul_c,Cf (k:=0) O fun i _ hne=>by rw [Nd,Yb (p:=[1]) O9,Int.zero_mul],Nd,show cf [1] 0=1 from rfl,Int.one_mul,Nat.sub_zero]
theorem Dv.refl(a:List Int):Dv a a:=⟨1,[1],O3,fun t=>by rw [Zqx,Int.one_mul,Nd]⟩
theorem Dv.nil(g:List Int):Dv g []:=⟨1,[],O3,fun t=>by rw [Mu (fun t=>Yb (Nat.zero_le _)),Yb (Nat.zero_le _)];rfl⟩
theorem Dv.sim{g a b:List Int} : Dv g a→Sim a b→Dv g b:=fun⟨k,s,hk,h⟩ ⟨m,n,hm,hn,e⟩=>
 ⟨k*n,Zv s m,Int.mul_ne_zero hk hn,fun t=>by
  rw [PS.mul_c,show(fun i=>(ps (Zv s m)).c i*(ps g).c (t-i))=fun i=>m*((ps s).c i*(ps g).c (t-i))from funext fun i=>by rw [Nd,Nd,Nd,Yj];grind,Oo,←PS.mul_c,←h,Int.mul_assoc,←e];grind⟩
theorem Dv.lin{g a b c:List Int}(ha:Dv g a)(hb:Dv g b)(s:List Int)(L:Int)(hL:L≠0)(h:∀t,L*cf c t=(ps s*ps a).c t+cf b t):Dv g c:=by
 obtain⟨k,u,hk,h1⟩:=ha
 obtain⟨m,v,hm,h2⟩:=hb
 refine⟨L*(k*m),Bq (Zv (Xq s u) m) (Zv v k),Int.mul_ne_zero hL (Int.mul_ne_zero hk hm),fun t=>?_⟩
 have e1:ps g=ps g:=rfl
 have e2:k*(ps s*ps a).c t=(ps (Xq s u)*ps g).c t:=by
  rw [Znn,PS.mul_assoc',PS.mul_c,PS.mul_c,←Oo]
  refine Yo fun i _=>?_
  rw [←h1,Nd,Nd];grind
 have e3:(ps (Bq (Zv (Xq s u) m) (Zv v k))*ps g).c t=m*(ps (Xq s u)*ps g).c t+k*(ps v*ps g).c t:=by
  rw [PS.mul_c,PS.mul_c,PS.mul_c,←Oo,←Oo,←Dx]
  refine Yo fun i _=>?_
  rw [Nd,Nd,Nd,Nd,Zda,Yj,Yj];grind
 have h0:=h t
 have h3:=h2 t
 rw [e3,←e2,←h3]
 generalize (ps s*ps a).c t=X at *
 generalize cf c t=C at *
 generalize cf b t=B at *
 have:L*(k*m)*C=k*m*(L*C):=O4
 rw [this,h0];grind
theorem eu_dv:∀(f:Nat) {a b:List Int},Tr a→Tr b→eok f a b→Dv (eu f a b) a∧Dv (eu f a b) b
 | 0,a,b,ha,hb,h=>by rw [show b=[]from h];exact⟨Dv.refl _,Dv.nil _⟩
 | f+1,a,b,ha,hb,h=>by
  by_cases h0:b=[]
  ·subst h0;rw [Fm];exact⟨Dv.refl _,Dv.nil _⟩
  ·rcases h with h | h
   ·exact absurd h h0
   ·have e:eu (f+1) a b=eu f b (Zr (Xm a b)):=by
     conv=>lhs;unfold eu
     rw [if_neg h0]
    rw [e]
    have t1:=Lf (q:=b) ha
    obtain⟨d1,d2⟩:=eu_dv f hb (Yf t1) h.2
    obtain⟨k,s,hs⟩:=Ei a h0
    exact⟨d1.lin (d2.sim (Xt t1)) s _ (Nh (hb.mem h0) k) hs,d1⟩
theorem Dv.of_sim{g g' a:List Int} : Dv g a→Sim g g'→Dv g' a:=fun⟨k,s,hk,h⟩ ⟨m,n,hm,hn,e⟩=>
 ⟨m*k,Zv s n,Int.mul_ne_zero hm hk,fun t=>by
  rw [Int.mul_assoc,h,PS.mul_c,PS.mul_c,←Oo]
  refine Yo fun i _=>?_
  rw [Nd,Nd,Nd,Nd,Yj]
  have:=e (t-i)
  grind⟩
theorem Dv.zero{a:List Int}(ha:Tr a)(h:Dv [] a):a=[]:=by
 obtain⟨k,s,hk,h⟩:=h
 rw [←Zac ha,Ld]
 intro i
 have h1:=h i
 rw [PS.mul_comm',Mu (fun t=>Yb (Nat.zero_le _))]at h1
 rcases Int.mul_eq_zero.1 h1 with h2 | h2
 ·exact absurd h2 hk
 ·exact h2
theorem Zcw{F:Nat}{p q:List Int}(hp:Tr p)(hq:Tr q)(h:eok F (gA p q) (gB p q)):Dv (Ou F p q) p∧Dv (Ou F p q) q:=by
 have hA:=Zg3 hp hq
 have hB:=Zg2 hp hq
 obtain⟨h1,h2⟩:=eu_dv F hA hB h
 have hs:Sim (eu F (gA p q) (gB p q)) (Ou F p q):=(Kp _).symm
 have h1:=h1.of_sim hs
 have h2:=h2.of_sim hs
 by_cases hl:p.length<q.length
 ·rw [show gA p q=Zr q from if_pos hl]at h1
  rw [show gB p q=Zr p from if_pos hl]at h2
  exact⟨h2.sim (Xt hp),h1.sim (Xt hq)⟩
 ·rw [show gA p q=Zr p from if_neg hl]at h1
  rw [show gB p q=Zr q from if_neg hl]at h2
  exact⟨h1.sim (Xt hp),h2.sim (Xt hq)⟩
theorem Zch{F:Nat}{p q:List Int}(hp:Tr p)(hq:Tr q):Tr (Ou F p q):=On (Zkf F (Zg3 hp hq) (Zg2 hp hq))
theorem Zdz(p:List Int){c:Int}(h:c≠0):Sim p (Zv p c):=⟨c,1,h,O3,fun i=>by rw [Yj];grind⟩
def fin8(la A:Nat):Bool:=Nat.ble la 2 || Nat.ble (64+(9-la)*A) 65536
def chk2:Nat→Nat→Nat→Nat→Nat→Bool
 | 0,la,_,A,_=>fin8 la A
 | f+1,la,lb,A,B=>bif Nat.beq lb 0 then fin8 la A else bif Nat.blt la lb then chk2 f lb la B A else
   (List.range lb).all fun l=>chk2 f lb l B (bif Nat.ble l 1 then 2 else A+(la-lb+1)*B)
theorem Zaw{g:List Int}(h:Tr g):(Mm g).length=g.length:=(Kp g).len (On h) h
theorem Zhg(g:List Int):Yk (Mm g)=Yk g:=by
 have d1:Yk (Mm g)∣Yk g:=Gh fun i=>by
  have h:=Mo (Mm g) i
  rw [Gx]at h
  split at h
  ·exact Int.dvd_neg.1 h
  ·exact h
 have d2:Yk g∣Yk (Mm g):=Gh fun i=>by
  rw [Gx];split
  ·exact Int.dvd_neg.2 (Mo g i)
  ·exact Mo g i
 exact Int.dvd_antisymm (Nf _) (Nf _) d1 d2
theorem Zjo{F:Nat}{p q:List Int}(hp:Tr p)(hq:Tr q)(h0:Ou F p q≠[]):Yk (Ou F p q)=1:=by
 rw [Zqw hp hq]at h0 ⊢
 unfold Yn at h0 ⊢
 rw [Zhg]
 refine Li (Zkf F (Zg3 hp hq) (Zg2 hp hq)) fun e=>h0 ?_
 rw [e];rfl
end Go.Sky
namespace Go.Sky
def Ad(xs:List Int):Prop:=xs.length=0∨(xs.length+2)*(xs.length+2)*(Xw xs+16)≤65536
instance (xs:List Int):Decidable (Ad xs):=by unfold Ad;infer_instance
def sqf(F:Nat)(xs:List Int):List Int:=Ms (Yn xs) (Ou F (Yn xs) (Yi (Yn xs)))
def Ygp(F:Nat)(xs:List Int):Prop:=(∀i,i<xs.length→bl (cf (Yn xs) (i+1)*((i:Int)+1)).natAbs≤65536)∧¬Zmi (Yn xs) (Yi (Yn xs))∧eok F (gA (Yn xs) (Yi (Yn xs))) (gB (Yn xs) (Yi (Yn xs)))∧
 Ds (Yn xs) (Ou F (Yn xs) (Yi (Yn xs)))=0∧pdv (Yn xs) (Ou F (Yn xs) (Yi (Yn xs)))
def Nl(x y:List Int):List Int:=if cf y (y.length-1)<0∧(x.length-y.length+1)%2=1 then Zr (Xm x y)else Zv (Zr (Xm x y)) (-1)
def cok:Nat→List Int→List Int→Prop
 | 0,_,y=>y=[]
 | f+1,x,y=>y=[]∨(Ds x y=0∧y.length≤x.length∧cok f y (Nl x y))
def Np:Nat→List Int→List Int→List (List Int)
 | 0,x,_=>[x]
 | f+1,x,y=>if y=[]then [x]else x :: Np f y (Nl x y)
theorem Fg(f:Nat)(x:List Int):Np f x []=[x]:=by cases f<;>rfl
theorem Zfx{f:Nat}{a b:List Int}(h:cok f a b)(hb:b≠[]):∃g,f=g+1∧Ds a b=0∧b.length≤a.length∧cok g b (Nl a b)∧Np f a b=a :: Np g b (Nl a b):=by
 cases f with
 | zero=>exact absurd h hb
 | succ g=>
  rcases h with h | h
  ·exact absurd h hb
  ·exact⟨g,rfl,h.1,h.2.1,h.2.2,by show(if b=[]then [a]else _)=_;rw [if_neg hb]⟩
def Bt(F:Nat)(xs:List Int):List (List Int):=Np F (sqf F xs) (Zr (Yi (sqf F xs)))
def Ct(F:Nat)(xs:List Int):Prop:=Ygp F xs∧(∀i,i<xs.length→bl (cf (sqf F xs) (i+1)*((i:Int)+1)).natAbs≤65536)∧cok F (sqf F xs) (Zr (Yi (sqf F xs)))
theorem Zsp{p:List Int}(h:Vp p):Vp (Yn p):=by
 unfold Yn
 have h1:=Mr h
 refine⟨fun i=>?_,On h1.tr,by rw [Zaw h1.tr];exact h1.len⟩
 rw [Gx];split
 ·rw [Int.natAbs_neg];exact h1.sz i
 ·exact h1.sz i
theorem Pe{p:List Int}(h:Tr p):(Yn p).length=p.length:=by unfold Yn;rw [Zaw (Yf h),Zq]
theorem Zis{x y:List Int}(hx:Vp x)(hd:Ds x y=0):Vp (Nl x y):=by
 have h:=Mr (Bu hx hd)
 unfold Nl
 split
 ·exact h
 ·exact⟨fun i=>by rw [Yj];exact Za6 h.sz i,Xp _ _,Nat.le_trans (Of _ _) h.len⟩
def Ow(s:Int×Int)(x:Int):Int×Int:=if x=0 then s else(if x=-s.2 then s.1+1 else s.1,x)
def chg(l:List Int):Int:=(l.foldl Ow (0,0)).1
theorem Za0{α β:Type}(f:α→β→α)(a:α)(l:List β)(x:β):(l ++ [x]).foldl f a=f (l.foldl f a) x:=O5
theorem chg1_n(s:Int×Int)(x:Int):(Ow s x).1=s.1∨(Ow s x).1=s.1+1:=by
 unfold Ow;split
 ·exact .inl rfl
 ·dsimp only;split
  ·exact .inr rfl
  ·exact .inl rfl
def sgs(ls:List (List Int))(x y:Int):List Int:=ls.map fun p=>(pev p x y).sign
def sgr(ls:List (List Int)):List Int:=ls.map fun p=>(cf p (p.length-1)).sign
def sgl(ls:List (List Int)):List Int:=ls.map fun p=>if p.length%2=0 then-(cf p (p.length-1)).sign else(cf p (p.length-1)).sign
def Bz(xs:List Int):Nat:=(xs.take (xs.length-1)).foldl (fun m c=>max m c.natAbs) 0
def Zal(xs:List Int):Int:=((Bz xs/(cf xs (xs.length-1)).natAbs:Nat):Int)+2
def Zug(xs:List Int):Int:=if xs.length=0 then 3 else if Ad xs then 0 else 7
def ef(z:Int×Int):Bool:=decide (512<bl z.1.natAbs) || decide (512<bl z.2.natAbs)
def chk2r(xs:List Int)(x y x2 y2:Int):Int:=if xs.length=0 then 3 else if 0<x*y2-x2*y then 3 else if Ad xs∧ef (x,y)=false∧ef (x2,y2)=false then 0 else 7
theorem Yi7{xs:List Int}(h0:xs≠[])(h:Ad xs):Zug xs=0:=by
 unfold Zug
 rw [if_neg (fun e=>h0 (List.eq_nil_of_length_eq_zero e)),if_pos h]
theorem Zid{xs:List Int}(h:¬cf (Zr xs) ((Zr xs).length-1)<0):Yn xs=Zr xs:=by
 unfold Yn Mm;rw [if_neg O]
theorem Zie{xs:List Int}(h0:(Zr xs).length≠0)(h:cf (Zr xs) ((Zr xs).length-1)<0):Yn xs=Zv (Zr xs) (-1):=by
 unfold Yn Mm;rw [if_pos ⟨h0,h⟩]
theorem Zea{P:Nat→Prop} : ∀n,P n→∃m,P m∧∀k,k<m→¬P k:=by
 intro n
 induction n using Nat.strongRecOn with
 | _ n ih=>
  intro h
  by_cases hx:∃k,k<n∧P k
  ·obtain⟨k,hk,hf⟩:=hx;exact ih k hk hf
  ·exact⟨n,h,fun k hk hf=>hx ⟨k,hk,hf⟩⟩
theorem Zzz{n:Nat}(h:2≤n):∃p,2≤p∧p∣n∧∀d,2≤d→d∣n→p≤d:=by
 obtain⟨p,⟨h1,h2⟩,h3⟩:=Zea (P:=fun d=>2≤d∧d∣n) n ⟨h,Nat.dvd_refl n⟩
 exact⟨p,h1,h2,fun d hd hdn=>by
  rcases Nat.lt_or_ge d p with h4 | h4
  ·exact absurd ⟨hd,hdn⟩ (h3 d h4)
  ·exact h4⟩
theorem Zre{n p:Nat}(h1:2≤p)(h2:p∣n)(h3:∀d,2≤d→d∣n→p≤d)(hn:0<n){x y:Int}(h:(p:Int)∣x*y):(p:Int)∣x∨(p:Int)∣y:=by
 by_cases hx:(p:Int)∣x
 ·exact .inl hx
 ·right
  have hg:Nat.gcd p x.natAbs=1:=by
   have hd:=Nat.gcd_dvd_left p x.natAbs
   have h0:0<Nat.gcd p x.natAbs:=Nat.gcd_pos_of_pos_left _ O
   rcases Nat.lt_or_ge (Nat.gcd p x.natAbs) 2 with h4 | h4
   ·omega
   ·have h5:=h3 _ h4 (Nat.dvd_trans hd h2)
    have h6:=Nat.le_of_dvd O hd
    exfalso
    refine hx (Int.natAbs_dvd_natAbs.1 ?_)
    rw [Int.natAbs_natCast]
    have h7:Nat.gcd p x.natAbs=p:=O
    rw [←h7];exact Nat.gcd_dvd_right _ _
  have h8:=Int.natAbs_dvd_natAbs.2 h
  rw [Int.natAbs_natCast,Int.natAbs_mul]at h8
  refine Int.natAbs_dvd_natAbs.1 ?_
  rw [Int.natAbs_natCast]
  exact(show Nat.Coprime p x.natAbs from hg).dvd_of_dvd_mul_left h8
theorem gauss{g a:List Int}(hg:Yk g=1):∀(n:Nat) (k:Int) (s:List Int),k.natAbs=n→k≠0→(∀t,k*cf a t=(ps s*ps g).c t)→∃q:List Int,∀t,cf a t=(ps q*ps g).c t:=by
 intro n
 induction n using Nat.strongRecOn with
 | _ n ih=>
  intro k s hkn hk h
  rcases Nat.lt_or_ge n 2 with h2 | h2
  ·have hkk:k*k=1:=by
    have:k=1∨k=-1:=O
    rcases this with e | e<;>subst e<;>rfl
   refine⟨Zv s k,fun t=>?_⟩
   have e:(ps (Zv s k)*ps g).c t=k*(ps s*ps g).c t:=by
    rw [PS.mul_c,PS.mul_c,←Oo]
    exact Yo fun i _=>by rw [Nd,Nd,Nd,Yj];grind
   rw [e,←h,←Int.mul_assoc,hkk,Int.one_mul]
  ·obtain⟨p,p2,pd,pm⟩:=Zzz h2
   have hpp:∀{x y:Int},(p:Int)∣x*y→(p:Int)∣x∨(p:Int)∣y:=Zre p2 pd pm O
   have hpk:(p:Int)∣k:=Int.natAbs_dvd_natAbs.1 (by rw [Int.natAbs_natCast,hkn];exact pd)
   have hgn:∃j,¬(p:Int)∣cf g j:=Classical.byContradiction fun hx=>by
    have:(p:Int)∣Yk g:=Gh fun i=>Classical.byContradiction fun hy=>hx ⟨i,hy⟩
    rw [hg]at this
    have:=Int.le_of_dvd O3 this
    omega
   obtain⟨j0,hj0⟩:=hgn
   obtain⟨j,hj,hjm⟩:=Zea (P:=fun j=>¬(p:Int)∣cf g j) j0 hj0
   have hs:∀i,(p:Int)∣cf s i:=fun i0=>Classical.byContradiction fun hi0=>by
    obtain⟨i,hi,him⟩:=Zea (P:=fun i=>¬(p:Int)∣cf s i) i0 hi0
    have h3:=h (i+j)
    rw [PS.mul_c]at h3
    have key:∀m,m≤i+j+1→(p:Int)∣Yv (fun k=>if k=i then 0 else(ps s).c k*(ps g).c (i+j-k)) m:=fun m=>by
     induction m with
     | zero=>intro _;exact Int.dvd_zero _
     | succ m ihm=>
      intro hm
      rw [Yy]
      refine Int.dvd_add (ihm O) ?_
      split
      ·exact Int.dvd_zero _
      ·rename_i hne
       rw [Nd,Nd]
       rcases Nat.lt_or_ge m i with h4 | h4
       ·exact Int.dvd_trans (Classical.byContradiction fun hx=>him m h4 hx) (Int.dvd_mul_right _ _)
       ·exact Int.dvd_trans (Classical.byContradiction fun hx=>hjm (i+j-m) O hx) (Int.dvd_mul_left _ _)
    have e1:Yv (fun k=>(ps s).c k*(ps g).c (i+j-k)) (i+j+1)=Yv (fun k=>if k=i then 0 else(ps s).c k*(ps g).c (i+j-k)) (i+j+1)+cf s i*cf g j:=by
     have e2:Yv (fun k=>(ps s).c k*(ps g).c (i+j-k)) (i+j+1)=Yv (fun k=>(if k=i then 0 else(ps s).c k*(ps g).c (i+j-k))+(if k=i then(ps s).c k*(ps g).c (i+j-k)else 0)) (i+j+1):=
      Yo fun k _=>by split<;>omega
     rw [e2,Dx,Cf (f:=fun k=>if k=i then(ps s).c k*(ps g).c (i+j-k)else 0) (k:=i) O (fun q _ hq=>if_neg hq),if_pos rfl,Nd,Nd,show i+j-i=j by omega]
    rw [e1]at h3
    have h4:(p:Int)∣cf s i*cf g j:=by
     have h5:cf s i*cf g j=k*cf a (i+j)-Yv (fun k=>if k=i then 0 else(ps s).c k*(ps g).c (i+j-k)) (i+j+1):=O
     rw [h5]
     exact Int.dvd_sub (Int.dvd_trans hpk (Int.dvd_mul_right _ _)) (key _ (Nat.le_refl _))
    rcases hpp h4 with h5 | h5
    ·exact hi h5
    ·exact hj h5
   obtain⟨k',hk'⟩:=hpk
   have hp0:(p:Int)≠0:=O
   refine ih k'.natAbs ?_ k' (s.map (· / (p:Int))) rfl ?_ ?_
   ·rw [←hkn,hk',Int.natAbs_mul,Int.natAbs_natCast]
    have:0<k'.natAbs:=by
     rcases Nat.eq_zero_or_pos k'.natAbs with h6 | h6
     ·rw [show k'=0 by omega]at hk';simp at hk';exact absurd hk' hk
     ·exact h6
    have:=Nat.mul_le_mul_right k'.natAbs p2
    omega
   ·intro e;rw [e]at hk';simp at hk';exact hk hk'
   ·intro t
    refine Int.eq_of_mul_eq_mul_left hp0 ?_
    rw [←Int.mul_assoc,←hk',h,PS.mul_c,PS.mul_c,←Oo]
    refine Yo fun i _=>?_
    rw [Nd,Nd,Nd,Zgu _ _ O5,←Int.mul_assoc,Int.mul_ediv_cancel' (hs i)]
def Cx:List Int→Int→Int
 | [],_=>0
 | c :: r,t=>c+t*Cx r t
def sdv:List Int→Int→List Int
 | [],_=>[]
 | [_],_=>[]
 | _ :: c :: r,t=>Cx (c :: r) t :: sdv (c :: r) t
theorem Zd7:∀(u:List Int) (t:Int),(sdv u t).length=u.length-1
 | [],_=>rfl
 | [_],_=>rfl
 | _ :: c :: r,t=>by unfold sdv;rw [List.length_cons,Zd7 (c :: r) t];simp
theorem Zon:∀(u:List Int) (t x:Int),Cx u x=Cx u t+(x-t)*Cx (sdv u t) x
 | [],t,x=>by simp [Cx,sdv]
 | [c],t,x=>by simp [Cx,sdv]
 | a :: c :: r,t,x=>by
  have ih:=Zon (c :: r) t x
  show a+x*Cx (c :: r) x=a+t*Cx (c :: r) t+(x-t)*(Cx (c :: r) t+x*Cx (sdv (c :: r) t) x)
  rw [ih]
  generalize Cx (c :: r) t=A
  generalize Cx (sdv (c :: r) t) x=B
  grind
theorem Gy(a:Int)(u:List Int)(i:Nat):cf (a :: u) i=if i=0 then a else cf u (i-1):=by
 cases i with
 | zero=>rfl
 | succ i=>simp [cf]
theorem Za4(i:Nat):cf [] i=0:=Yb (Nat.zero_le _)
theorem Zuh:∀(u:List Int) (t:Int) (i:Nat),cf u (i+1)=cf (sdv u t) i-t*cf (sdv u t) (i+1)
 | [],t,i=>by unfold sdv;simp [Za4]
 | [c],t,i=>by unfold sdv;rw [Gy,if_neg O];simp [Za4]
 | a :: c :: r,t,i=>by
  unfold sdv
  rw [Gy,if_neg O,Nat.add_sub_cancel]
  cases i with
  | zero=>
   rw [Gy,if_pos rfl,Gy,if_pos rfl,Gy,if_neg O]
   show c=Cx (c :: r) t-t*cf (sdv (c :: r) t) 0
   match r with
   | []=>simp [Cx,sdv,cf]
   | d :: r'=>unfold sdv;rw [Gy,if_pos rfl];show c=(c+t*Cx (d :: r') t)-_;omega
  | succ i=>
   rw [Gy _ (sdv _ _) (i+1),if_neg O,Gy _ (sdv _ _),if_neg O,Nat.add_sub_cancel,Nat.add_sub_cancel]
   exact Zuh (c :: r) t i
theorem Zx0:∀(u:List Int) (t:Int),cf u 0=Cx u t-t*cf (sdv u t) 0
 | [],t=>by simp [Cx,sdv,cf]
 | [c],t=>by simp [Cx,sdv,cf]
 | a :: c :: r,t=>by
  unfold sdv
  rw [Gy,if_pos rfl,Gy,if_pos rfl]
  show a=(a+t*Cx (c :: r) t)-t*Cx (c :: r) t
  omega
theorem Zi9:∀(n:Nat) (u:List Int) (R:List Int),u.length=n→(∃i,cf u i≠0)→R.Nodup→(∀t∈R,Cx u t=0)→R.length<n
 | 0,u,R,hn,hu,_,_=>by
  obtain⟨i,hi⟩:=hu
  rw [List.eq_nil_of_length_eq_zero hn,Za4]at hi
  exact absurd rfl hi
 | n+1,u,[],hn,hu,_,_=>O5
 | n+1,u,t :: R,hn,hu,hd,hR=>by
  have h0:=hR t (List.mem_cons_self ..)
  have hl:=Zd7 u t
  have hw:∃i,cf (sdv u t) i≠0:=Classical.byContradiction fun hx=>by
   have hz:∀i,cf (sdv u t) i=0:=fun i=>Classical.byContradiction fun hy=>hx ⟨i,hy⟩
   obtain⟨i,hi⟩:=hu
   cases i with
   | zero=>rw [Zx0 u t,h0,hz]at hi;simp at hi
   | succ i=>rw [Zuh u t,hz,hz]at hi;simp at hi
  have:=Zi9 n (sdv u t) R O hw (List.nodup_cons.1 hd).2 fun x hx=>by
   have h1:=hR x (List.mem_cons_of_mem _ hx)
   rw [Zon u t x,h0,Int.zero_add]at h1
   rcases Int.mul_eq_zero.1 h1 with h2 | h2
   ·exfalso
    have:x=t:=O
    subst this
    exact(List.nodup_cons.1 hd).1 hx
   ·exact h2
  simp;omega
def kk:Nat→Nat
 | 0=>0
 | d+1=>30*kk d+1
theorem Zw3:∀(p:List Int) (t:Int),Cx p t=Yv (fun i=>cf p i*t^i) p.length
 | [],t=>rfl
 | c :: r,t=>by
  rw [List.length_cons,Kz,Cx,Zw3 r t,←Oo,Int.pow_zero,Int.mul_one]
  congr 1
  exact Yo fun i _=>by
   rw [Gy,if_neg O,Nat.add_sub_cancel,Int.pow_succ];grind
theorem Zke(p:List Int)(t:Int):Cx p t=pev p t 1:=by
 rw [Zw3];unfold pev
 exact Yo fun i _=>by rw [Int.one_pow,Int.mul_one]
def pts:List Int:=[0,1,2,3,4,5,6,7,8,9,10,11,12,13,14]
theorem Zkc{α:Type}(f:α→Bool):∀l:List α,(l.filter f).length+(l.filter fun x=>!f x).length=l.length
 | []=>rfl
 | x :: l=>by
  have ih:=Zkc f l
  cases h:f x<;>simp [h]<;>omega
end Go.Sky

