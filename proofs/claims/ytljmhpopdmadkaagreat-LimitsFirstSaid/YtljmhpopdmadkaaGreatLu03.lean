/- Rules, arithmetic and contracts: part 4. No conditions but those that each theorem names. -/
import Derived.Test.YtljmhpopdmadkaaGreatLu02
import Derived.Test.YtljmhpopdmadkaaGreatProg
import Derived.Test.YtljmhpopdmadkaaGreatRows
import Derived.WalkKit
import Derived.ProofKit
import Derived.OpenShut
import Derived.ShutString
import Derived.ChangeOld
import Derived.Deep.Slices
import Derived.Lib.SmallJoins
set_option linter.all false
namespace Go.Sky
open Go.Proofs
theorem pU:Enc Tryz.prog 111 1 Mc:=Enc.flat Tryz.sizeOf111 Tryz.isAgg111 (fun _=>rfl)
theorem pB:Enc Tryz.prog 5 1 Zhw:=Enc.flat Tryz.sizeOf5 Tryz.isAgg5 (fun _=>rfl)
theorem pN:Enc Tryz.prog 3 1 Lz:=Enc.flat Tryz.sizeOf3 Tryz.isAgg3 (fun _=>rfl)
theorem pZ:Enc Tryz.prog 3 1 Xd:=Enc.flat Tryz.sizeOf3 Tryz.isAgg3 (fun _=>rfl)
theorem Zgw(args:Array Value)(w:World):(callFunc 216 args).run Tryz.prog w=((add64Entry args).run Tryz.prog w).andThen fun v w'=> .ok (.value v) w':=
 run_callFunc_extern Tryz.func216 O6 O6 O6 O6 args w
theorem Zyh(args:Array Value)(w:World):(callFunc 217 args).run Tryz.prog w=((Zdx args).run Tryz.prog w).andThen fun v w'=> .ok (.value v) w':=
 run_callFunc_extern Tryz.func217 O6 O6 O6 O6 args w
end Go.Sky
theorem Go.Proofs.Tryz.ti111:Go.Proofs.Tryz.prog.info? 111=some Go.Proofs.Tryz.t111:=Go.Sky.O6
namespace Go.Sky
open Go.Proofs
end Go.Sky
theorem Go.Proofs.Tryz.ti5:Go.Proofs.Tryz.prog.info? 5=some Go.Proofs.Tryz.t5:=Go.Sky.O6
namespace Go.Sky
open Go.Proofs
end Go.Sky
theorem Go.Proofs.Tryz.ti3:Go.Proofs.Tryz.prog.info? 3=some Go.Proofs.Tryz.t3:=Go.Sky.O6
namespace Go.Sky
open Go.Proofs
theorem pW:Enc Tryz.prog 93 2 Zt4:=Enc.agg O3 Tryz.sizeOf93 Tryz.isAgg93 (fun x=>⟨[.bool x.1,.string x.2],rfl,rfl,by simp [Value.oneCell']⟩)
theorem pV:Enc Tryz.prog 93 2 wv:=Enc.agg O3 Tryz.sizeOf93 Tryz.isAgg93 (fun x=>⟨[.bool (decide (x<0)),.string (Qc x.natAbs)],rfl,rfl,by simp [Value.oneCell']⟩)
theorem pI:Enc Tryz.prog 77 2 Nr:=Enc.agg O3 Tryz.sizeOf77 Tryz.isAgg77 (fun x=>⟨[.bool (decide (x.1<0)),Na x.2],rfl,rfl,by simp [Value.oneCell']⟩)
theorem pS{α:Type} : Enc Tryz.prog 39 1 (Kr (α:=α)):=Enc.flat Tryz.sizeOf39 Tryz.isAgg39 (fun _=>rfl)
theorem pY:Enc Tryz.prog 238 8 iq:=Enc.agg O3 Tryz.sizeOf238 Tryz.isAgg238 (fun x=>⟨[.bool (decide (x.1.1<0)),.string (Qc x.1.1.natAbs),.bool (decide (x.1.2<0)),.string (Qc x.1.2.natAbs),.bool (decide (x.2.1<0)),.string (Qc x.2.1.natAbs),.bool (decide (x.2.2<0)),.string (Qc x.2.2.natAbs)],rfl,rfl,by simp [Value.oneCell']⟩)
theorem pQ:Enc Tryz.prog 129 4 rq:=Enc.agg O3 Tryz.sizeOf129 Tryz.isAgg129 (fun x=>⟨[.bool (decide (x.1<0)),.string (Qc x.1.natAbs),.bool (decide (x.2<0)),.string (Qc x.2.natAbs)],rfl,rfl,by simp [Value.oneCell']⟩)
theorem pR:Enc Tryz.prog 129 4 encQ:=Enc.agg O3 Tryz.sizeOf129 Tryz.isAgg129 (fun x=>⟨[.bool x.1.1,.string x.1.2,.bool x.2.1,.string x.2.2],rfl,rfl,by simp [Value.oneCell']⟩)
theorem sh93:Tryz.prog.stoodInHeld 93=false:=O6
theorem sh129:Tryz.prog.stoodInHeld 129=false:=O6
theorem eg93:Tryz.prog.eqGuardType Tryz.prog.depth 93=false:=O6
theorem Yhv(d:Nat)(w:World)(a:Bool)(s:ByteArray)(b:Bool)(t:ByteArray):(Op.equalIn (d+2) 93 (.agg #[.bool a,.string s]) (.agg #[.bool b,.string t])).run Tryz.prog w= .ok (eqW a s b t) w:=by
 have hu:Tryz.prog.underlying 93=some (.struct (Tryz.prog.fieldsOf 93)):=by unfold Program.fieldsOf;rw [Tryz.underlying93]
 rw [run_equalIn_agg w (d+1) 93 _ _ hu sh93]
 unfold Program.fieldsOf
 rw [Tryz.underlying93]
 simp [Op.eqFields,part,Tryz.isAgg4,Tryz.isAgg9,run_equalIn_bool' _ _ _ _ _ Tryz.underlying4,run_equalIn_string _ _ _ _ _ Tryz.underlying9]
 unfold eqW
 cases hab:(a == b)
 ·simp_all
 ·by_cases h:s.toList=t.toList<;>simp_all
theorem eql93(w:World)(a:Bool)(s:ByteArray)(b:Bool)(t:ByteArray):(binOp .eql 93 (.agg #[.bool a,.string s]) (.agg #[.bool b,.string t])).run Tryz.prog w= .ok (.bool (eqW a s b t)) w:=by
 rw [run_eql_struct,Yhv];rfl
theorem neq93(w:World)(a:Bool)(s:ByteArray)(b:Bool)(t:ByteArray):(binOp .neq 93 (.agg #[.bool a,.string s]) (.agg #[.bool b,.string t])).run Tryz.prog w= .ok (.bool (!eqW a s b t)) w:=by
 rw [run_neq_struct,Yhv];rfl
theorem in129(d:Nat)(w:World)(a:Bool)(s:ByteArray)(a2:Bool)(s2:ByteArray)(b:Bool)(t:ByteArray)(b2:Bool)(t2:ByteArray):(Op.equalIn (d+3) 129 (.agg #[.bool a,.string s,.bool a2,.string s2]) (.agg #[.bool b,.string t,.bool b2,.string t2])).run Tryz.prog w= .ok (eqW a s b t && eqW a2 s2 b2 t2) w:=by
 have hu:Tryz.prog.underlying 129=some (.struct (Tryz.prog.fieldsOf 129)):=by unfold Program.fieldsOf;rw [Tryz.underlying129]
 rw [run_equalIn_agg w (d+2) 129 _ _ hu sh129]
 unfold Program.fieldsOf
 rw [Tryz.underlying129]
 simp [Op.eqFields,part,Tryz.isAgg93,Tryz.sizeOf93,Yhv]
 cases hab:eqW a s b t<;>cases hab2:eqW a2 s2 b2 t2<;>simp_all
end Go.Sky
theorem Go.Proofs.Tryz.ti22:Go.Proofs.Tryz.prog.info? 22=some Go.Proofs.Tryz.t22:=Go.Sky.O6
namespace Go.Sky
open Go.Proofs
end Go.Sky
theorem Go.Proofs.Tryz.ti24:Go.Proofs.Tryz.prog.info? 24=some Go.Proofs.Tryz.t24:=Go.Sky.O6
namespace Go.Sky
open Go.Proofs
end Go.Sky
theorem Go.Proofs.Tryz.ti39:Go.Proofs.Tryz.prog.info? 39=some Go.Proofs.Tryz.t39:=Go.Sky.O6
namespace Go.Sky
open Go.Proofs
end Go.Sky
theorem Go.Proofs.Tryz.ti46:Go.Proofs.Tryz.prog.info? 46=some Go.Proofs.Tryz.t46:=Go.Sky.O6
namespace Go.Sky
open Go.Proofs
end Go.Sky
theorem Go.Proofs.Tryz.ti77:Go.Proofs.Tryz.prog.info? 77=some Go.Proofs.Tryz.t77:=Go.Sky.O6
namespace Go.Sky
open Go.Proofs
end Go.Sky
theorem Go.Proofs.Tryz.ti93:Go.Proofs.Tryz.prog.info? 93=some Go.Proofs.Tryz.t93:=Go.Sky.O6
namespace Go.Sky
open Go.Proofs
end Go.Sky
theorem Go.Proofs.Tryz.ti129:Go.Proofs.Tryz.prog.info? 129=some Go.Proofs.Tryz.t129:=Go.Sky.O6
namespace Go.Sky
open Go.Proofs
theorem Zup{v0 v1 v2 v3 v4 v5:Value}(h0:v0.oneCell'=true)(h1:v1.oneCell'=true)(h2:v2.oneCell'=true)(h3:v3.oneCell'=true)(h4:v4.oneCell'=true)(h5:v5.oneCell'=true):Tryz.prog.built 24 [(0,v0),(1,v1),(2,v2),(3,v3),(4,v4),(5,v5)]=some #[v0,v1,v2,v3,v4,v5]:=by
 refine Xu _ Tryz.ti24 Tryz.underlying24 rfl (pl:=[(0,1),(1,1),(2,1),(3,1),(4,1),(5,1)]) (by simp [Tryz.ti22,Tryz.ti3];try decide) ?_
 simp [Instr.fill,Yt h0,Yt h1,Yt h2,Yt h3,Yt h4,Yt h5,show(Value.agg #[.int .i64 0,.int .i64 0,.int .i64 0,.slice none 0 0,.slice none 0 0,.slice none 0 0]).cells=#[.int .i64 0,.int .i64 0,.int .i64 0,.slice none 0 0,.slice none 0 0,.slice none 0 0]from rfl]
end Go.Sky
theorem Go.Proofs.Tryz.ti26:Go.Proofs.Tryz.prog.info? 26=some Go.Proofs.Tryz.t26:=Go.Sky.O6
namespace Go.Sky
open Go.Proofs
theorem b26_:Tryz.prog.built 26 []=some #[.int .i64 0,.int .i64 0]:=by
 refine Xu _ Tryz.ti26 Tryz.underlying26 rfl (pl:=[(0,1),(1,1)]) (by simp [Tryz.ti3];try decide) ?_
 simp [Instr.fill,show(Value.agg #[.int .i64 0,.int .i64 0]).cells=#[.int .i64 0,.int .i64 0]from rfl]
theorem b26_0{v0:Value}(h0:v0.oneCell'=true):Tryz.prog.built 26 [(0,v0)]=some #[v0,.int .i64 0]:=by
 refine Xu _ Tryz.ti26 Tryz.underlying26 rfl (pl:=[(0,1),(1,1)]) (by simp [Tryz.ti3];try decide) ?_
 simp [Instr.fill,Yt h0,show(Value.agg #[.int .i64 0,.int .i64 0]).cells=#[.int .i64 0,.int .i64 0]from rfl]
theorem Zpl{v0 v1:Value}(h0:v0.oneCell'=true)(h1:v1.oneCell'=true):Tryz.prog.built 26 [(0,v0),(1,v1)]=some #[v0,v1]:=by
 refine Xu _ Tryz.ti26 Tryz.underlying26 rfl (pl:=[(0,1),(1,1)]) (by simp [Tryz.ti3];try decide) ?_
 simp [Instr.fill,Yt h0,Yt h1,show(Value.agg #[.int .i64 0,.int .i64 0]).cells=#[.int .i64 0,.int .i64 0]from rfl]
end Go.Sky
theorem Go.Proofs.Tryz.ti52:Go.Proofs.Tryz.prog.info? 52=some Go.Proofs.Tryz.t52:=Go.Sky.O6
namespace Go.Sky
open Go.Proofs
end Go.Sky
theorem Go.Proofs.Tryz.ti50:Go.Proofs.Tryz.prog.info? 50=some Go.Proofs.Tryz.t50:=Go.Sky.O6
namespace Go.Sky
open Go.Proofs
theorem Yaa:Tryz.prog.built 52 []=some #[.int .i64 0,.int .i64 0]:=by
 refine Xu _ Tryz.ti52 Tryz.underlying52 rfl (pl:=[(0,1),(1,1)]) (by simp [Tryz.ti3,Tryz.ti50];try decide) ?_
 simp [Instr.fill,show(Value.agg #[.int .i64 0,.int .i64 0]).cells=#[.int .i64 0,.int .i64 0]from rfl]
theorem Zgv{v0 v1:Value}(h0:v0.oneCell'=true)(h1:v1.oneCell'=true):Tryz.prog.built 52 [(0,v0),(1,v1)]=some #[v0,v1]:=by
 refine Xu _ Tryz.ti52 Tryz.underlying52 rfl (pl:=[(0,1),(1,1)]) (by simp [Tryz.ti3,Tryz.ti50];try decide) ?_
 simp [Instr.fill,Yt h0,Yt h1,show(Value.agg #[.int .i64 0,.int .i64 0]).cells=#[.int .i64 0,.int .i64 0]from rfl]
theorem b52_1{v1:Value}(h1:v1.oneCell'=true):Tryz.prog.built 52 [(1,v1)]=some #[.int .i64 0,v1]:=by
 refine Xu _ Tryz.ti52 Tryz.underlying52 rfl (pl:=[(0,1),(1,1)]) (by simp [Tryz.ti3,Tryz.ti50];try decide) ?_
 simp [Instr.fill,Yt h1,show(Value.agg #[.int .i64 0,.int .i64 0]).cells=#[.int .i64 0,.int .i64 0]from rfl]
end Go.Sky
theorem Go.Proofs.Tryz.ti64:Go.Proofs.Tryz.prog.info? 64=some Go.Proofs.Tryz.t64:=Go.Sky.O6
namespace Go.Sky
open Go.Proofs
theorem b64_:Tryz.prog.built 64 []=some #[.int .i64 0,.int .i64 0,.int .i64 0]:=by
 refine Xu _ Tryz.ti64 Tryz.underlying64 rfl (pl:=[(0,1),(1,1),(2,1)]) (by simp [Tryz.ti3];try decide) ?_
 simp [Instr.fill,show(Value.agg #[.int .i64 0,.int .i64 0,.int .i64 0]).cells=#[.int .i64 0,.int .i64 0,.int .i64 0]from rfl]
theorem b64_01{v0 v1:Value}(h0:v0.oneCell'=true)(h1:v1.oneCell'=true):Tryz.prog.built 64 [(0,v0),(1,v1)]=some #[v0,v1,.int .i64 0]:=by
 refine Xu _ Tryz.ti64 Tryz.underlying64 rfl (pl:=[(0,1),(1,1),(2,1)]) (by simp [Tryz.ti3];try decide) ?_
 simp [Instr.fill,Yt h0,Yt h1,show(Value.agg #[.int .i64 0,.int .i64 0,.int .i64 0]).cells=#[.int .i64 0,.int .i64 0,.int .i64 0]from rfl]
end Go.Sky
theorem Go.Proofs.Tryz.ti4:Go.Proofs.Tryz.prog.info? 4=some Go.Proofs.Tryz.t4:=Go.Sky.O6
namespace Go.Sky
open Go.Proofs
theorem Zpk:Tryz.prog.built 77 []=some #[.bool false,.slice none 0 0]:=by
 refine Xu _ Tryz.ti77 Tryz.underlying77 rfl (pl:=[(0,1),(1,1)]) (by simp [Tryz.ti22,Tryz.ti4];try decide) ?_
 simp [Instr.fill,show(Value.agg #[.bool false,.slice none 0 0]).cells=#[.bool false,.slice none 0 0]from rfl]
theorem Yfc{v0 v1:Value}(h0:v0.oneCell'=true)(h1:v1.oneCell'=true):Tryz.prog.built 77 [(0,v0),(1,v1)]=some #[v0,v1]:=by
 refine Xu _ Tryz.ti77 Tryz.underlying77 rfl (pl:=[(0,1),(1,1)]) (by simp [Tryz.ti22,Tryz.ti4];try decide) ?_
 simp [Instr.fill,Yt h0,Yt h1,show(Value.agg #[.bool false,.slice none 0 0]).cells=#[.bool false,.slice none 0 0]from rfl]
end Go.Sky
theorem Go.Proofs.Tryz.ti87:Go.Proofs.Tryz.prog.info? 87=some Go.Proofs.Tryz.t87:=Go.Sky.O6
namespace Go.Sky
open Go.Proofs
theorem Zuo{c0_0 c0_1 c1_0 c1_1:Value} : Tryz.prog.built 87 [(0,.agg #[c0_0,c0_1]),(1,.agg #[c1_0,c1_1])]=some #[c0_0,c0_1,c1_0,c1_1]:=by
 refine Xu _ Tryz.ti87 Tryz.underlying87 rfl (pl:=[(0,2),(2,2)]) (by simp [Tryz.ti77];try decide) ?_
 simp [Instr.fill,show(Value.agg #[c0_0,c0_1]).cells=#[c0_0,c0_1]from rfl,show(Value.agg #[c1_0,c1_1]).cells=#[c1_0,c1_1]from rfl,show(Value.agg #[.bool false,.slice none 0 0,.bool false,.slice none 0 0]).cells=#[.bool false,.slice none 0 0,.bool false,.slice none 0 0]from rfl]
end Go.Sky
theorem Go.Proofs.Tryz.ti90:Go.Proofs.Tryz.prog.info? 90=some Go.Proofs.Tryz.t90:=Go.Sky.O6
namespace Go.Sky
open Go.Proofs
theorem Zx4{v0 v1 v2:Value}(h0:v0.oneCell'=true)(h1:v1.oneCell'=true)(h2:v2.oneCell'=true):Tryz.prog.built 90 [(0,v0),(1,v1),(2,v2)]=some #[v0,v1,v2]:=by
 refine Xu _ Tryz.ti90 Tryz.underlying90 rfl (pl:=[(0,1),(1,1),(2,1)]) (by simp [Tryz.ti3,Tryz.ti50];try decide) ?_
 simp [Instr.fill,Yt h0,Yt h1,Yt h2,show(Value.agg #[.int .i64 0,.int .i64 0,.int .i64 0]).cells=#[.int .i64 0,.int .i64 0,.int .i64 0]from rfl]
end Go.Sky
theorem Go.Proofs.Tryz.ti9:Go.Proofs.Tryz.prog.info? 9=some Go.Proofs.Tryz.t9:=Go.Sky.O6
namespace Go.Sky
open Go.Proofs
theorem b93_:Tryz.prog.built 93 []=some #[.bool false,.string ⟨#[]⟩]:=by
 refine Xu _ Tryz.ti93 Tryz.underlying93 rfl (pl:=[(0,1),(1,1)]) (by simp [Tryz.ti4,Tryz.ti9];try decide) ?_
 simp [Instr.fill,show(Value.agg #[.bool false,.string ⟨#[]⟩]).cells=#[.bool false,.string ⟨#[]⟩]from rfl]
theorem Zun{v0 v1:Value}(h0:v0.oneCell'=true)(h1:v1.oneCell'=true):Tryz.prog.built 93 [(0,v0),(1,v1)]=some #[v0,v1]:=by
 refine Xu _ Tryz.ti93 Tryz.underlying93 rfl (pl:=[(0,1),(1,1)]) (by simp [Tryz.ti4,Tryz.ti9];try decide) ?_
 simp [Instr.fill,Yt h0,Yt h1,show(Value.agg #[.bool false,.string ⟨#[]⟩]).cells=#[.bool false,.string ⟨#[]⟩]from rfl]
end Go.Sky
theorem Go.Proofs.Tryz.ti106:Go.Proofs.Tryz.prog.info? 106=some Go.Proofs.Tryz.t106:=Go.Sky.O6
namespace Go.Sky
open Go.Proofs
end Go.Sky
theorem Go.Proofs.Tryz.ti29:Go.Proofs.Tryz.prog.info? 29=some Go.Proofs.Tryz.t29:=Go.Sky.O6
namespace Go.Sky
open Go.Proofs
theorem Zx5{v0 c1_0 c1_1 c1_2:Value}(h0:v0.oneCell'=true):Tryz.prog.built 106 [(0,v0),(1,.agg #[c1_0,c1_1,c1_2])]=some #[v0,c1_0,c1_1,c1_2]:=by
 refine Xu _ Tryz.ti106 Tryz.underlying106 rfl (pl:=[(0,1),(1,3)]) (by simp [Tryz.ti29,Tryz.ti90];try decide) ?_
 simp [Instr.fill,Yt h0,show(Value.agg #[c1_0,c1_1,c1_2]).cells=#[c1_0,c1_1,c1_2]from rfl,show(Value.agg #[.slice none 0 0,.int .i64 0,.int .i64 0,.int .i64 0]).cells=#[.slice none 0 0,.int .i64 0,.int .i64 0,.int .i64 0]from rfl]
theorem Zsk:Tryz.prog.built 129 []=some #[.bool false,.string ⟨#[]⟩,.bool false,.string ⟨#[]⟩]:=by
 refine Xu _ Tryz.ti129 Tryz.underlying129 rfl (pl:=[(0,2),(2,2)]) (by simp [Tryz.ti93];try decide) ?_
 simp [Instr.fill,show(Value.agg #[.bool false,.string ⟨#[]⟩,.bool false,.string ⟨#[]⟩]).cells=#[.bool false,.string ⟨#[]⟩,.bool false,.string ⟨#[]⟩]from rfl]
theorem Zfz{c0_0 c0_1 c1_0 c1_1:Value} : Tryz.prog.built 129 [(0,.agg #[c0_0,c0_1]),(1,.agg #[c1_0,c1_1])]=some #[c0_0,c0_1,c1_0,c1_1]:=by
 refine Xu _ Tryz.ti129 Tryz.underlying129 rfl (pl:=[(0,2),(2,2)]) (by simp [Tryz.ti93];try decide) ?_
 simp [Instr.fill,show(Value.agg #[c0_0,c0_1]).cells=#[c0_0,c0_1]from rfl,show(Value.agg #[c1_0,c1_1]).cells=#[c1_0,c1_1]from rfl,show(Value.agg #[.bool false,.string ⟨#[]⟩,.bool false,.string ⟨#[]⟩]).cells=#[.bool false,.string ⟨#[]⟩,.bool false,.string ⟨#[]⟩]from rfl]
end Go.Sky
theorem Go.Proofs.Tryz.ti151:Go.Proofs.Tryz.prog.info? 151=some Go.Proofs.Tryz.t151:=Go.Sky.O6
namespace Go.Sky
open Go.Proofs
theorem Zmz{c0_0 c0_1 c1_0 c1_1 c2_0 c2_1 c3_0 c3_1:Value} : Tryz.prog.built 151 [(0,.agg #[c0_0,c0_1]),(1,.agg #[c1_0,c1_1]),(2,.agg #[c2_0,c2_1]),(3,.agg #[c3_0,c3_1])]=some #[c0_0,c0_1,c1_0,c1_1,c2_0,c2_1,c3_0,c3_1]:=by
 refine Xu _ Tryz.ti151 Tryz.underlying151 rfl (pl:=[(0,2),(2,2),(4,2),(6,2)]) (by simp [Tryz.ti93];try decide) ?_
 simp [Instr.fill,show(Value.agg #[c0_0,c0_1]).cells=#[c0_0,c0_1]from rfl,show(Value.agg #[c1_0,c1_1]).cells=#[c1_0,c1_1]from rfl,show(Value.agg #[c2_0,c2_1]).cells=#[c2_0,c2_1]from rfl,show(Value.agg #[c3_0,c3_1]).cells=#[c3_0,c3_1]from rfl,show(Value.agg #[.bool false,.string ⟨#[]⟩,.bool false,.string ⟨#[]⟩,.bool false,.string ⟨#[]⟩,.bool false,.string ⟨#[]⟩]).cells=#[.bool false,.string ⟨#[]⟩,.bool false,.string ⟨#[]⟩,.bool false,.string ⟨#[]⟩,.bool false,.string ⟨#[]⟩]from rfl]
end Go.Sky
theorem Go.Proofs.Tryz.ti171:Go.Proofs.Tryz.prog.info? 171=some Go.Proofs.Tryz.t171:=Go.Sky.O6
namespace Go.Sky
open Go.Proofs
end Go.Sky
theorem Go.Proofs.Tryz.ti168:Go.Proofs.Tryz.prog.info? 168=some Go.Proofs.Tryz.t168:=Go.Sky.O6
namespace Go.Sky
open Go.Proofs
theorem Lt{v0 v1:Value}(h0:v0.oneCell'=true)(h1:v1.oneCell'=true):Tryz.prog.built 171 [(0,v0),(1,v1)]=some #[v0,v1]:=by
 refine Xu _ Tryz.ti171 Tryz.underlying171 rfl (pl:=[(0,1),(1,1)]) (by simp [Tryz.ti168,Tryz.ti4];try decide) ?_
 simp [Instr.fill,Yt h0,Yt h1,show(Value.agg #[.bool false,.slice none 0 0]).cells=#[.bool false,.slice none 0 0]from rfl]
end Go.Sky
theorem Go.Proofs.Tryz.ti238:Go.Proofs.Tryz.prog.info? 238=some Go.Proofs.Tryz.t238:=Go.Sky.O6
namespace Go.Sky
open Go.Proofs
theorem Yi7{c0_0 c0_1 c0_2 c0_3 c1_0 c1_1 c1_2 c1_3:Value} : Tryz.prog.built 238 [(0,.agg #[c0_0,c0_1,c0_2,c0_3]),(1,.agg #[c1_0,c1_1,c1_2,c1_3])]=some #[c0_0,c0_1,c0_2,c0_3,c1_0,c1_1,c1_2,c1_3]:=by
 refine Xu _ Tryz.ti238 Tryz.underlying238 rfl (pl:=[(0,4),(4,4)]) (by simp [Tryz.ti129];try decide) ?_
 simp [Instr.fill,show(Value.agg #[c0_0,c0_1,c0_2,c0_3]).cells=#[c0_0,c0_1,c0_2,c0_3]from rfl,show(Value.agg #[c1_0,c1_1,c1_2,c1_3]).cells=#[c1_0,c1_1,c1_2,c1_3]from rfl,show(Value.agg #[.bool false,.string ⟨#[]⟩,.bool false,.string ⟨#[]⟩,.bool false,.string ⟨#[]⟩,.bool false,.string ⟨#[]⟩]).cells=#[.bool false,.string ⟨#[]⟩,.bool false,.string ⟨#[]⟩,.bool false,.string ⟨#[]⟩,.bool false,.string ⟨#[]⟩]from rfl]
theorem J{α:Sort _}{a:α} : a=a:=rfl
abbrev Ok (P:Program) (f:FuncId) (a:Array Value) (p:List Pc) (v:Value):Prop:=Cal P f a p false (G:=Unit) (fun _=>True) (fun _=>v) (fun _=>[])
abbrev rX (x y:Int):Value:= .agg #[.bool (decide (x<0)),.string (Qc x.natAbs),.bool (decide (y<0)),.string (Qc y.natAbs)]
theorem vB{a b:Bool}(h:a=b):Value.bool a=Value.bool b:=congrArg _ h
theorem dF{P:Program}{N:Nat}{sc:Nat→Prop}{o:Oper}{env:Py}{H:Hp}{r:Value}(h:Mx P N sc o env H r)(e:r= .bool false):Mx P N sc o env H (.bool false):=Zz h e
theorem dT{P:Program}{N:Nat}{sc:Nat→Prop}{o:Oper}{env:Py}{H:Hp}{r:Value}(h:Mx P N sc o env H r)(e:r= .bool true):Mx P N sc o env H (.bool true):=Zz h e
theorem K1{t0:Sort _}{a0:t0} : a0=a0∧True:=⟨rfl,trivial⟩
theorem K2{t0:Sort _}{a0:t0}{t1:Sort _}{a1:t1} : a0=a0∧a1=a1∧True:=⟨rfl,rfl,trivial⟩
theorem K3{t0:Sort _}{a0:t0}{t1:Sort _}{a1:t1}{t2:Sort _}{a2:t2} : a0=a0∧a1=a1∧a2=a2∧True:=⟨rfl,rfl,rfl,trivial⟩
theorem K4{t0:Sort _}{a0:t0}{t1:Sort _}{a1:t1}{t2:Sort _}{a2:t2}{t3:Sort _}{a3:t3} : a0=a0∧a1=a1∧a2=a2∧a3=a3∧True:=⟨rfl,rfl,rfl,rfl,trivial⟩
theorem K6{t0:Sort _}{a0:t0}{t1:Sort _}{a1:t1}{t2:Sort _}{a2:t2}{t3:Sort _}{a3:t3}{t4:Sort _}{a4:t4}{t5:Sort _}{a5:t5} : a0=a0∧a1=a1∧a2=a2∧a3=a3∧a4=a4∧a5=a5∧True:=⟨rfl,rfl,rfl,rfl,rfl,rfl,trivial⟩
def Hf:=@Go.Proofs.Tryz.call127
def Ln:=@Go.Proofs.Tryz.sizeOf111
def zT3:=@Go.Proofs.Tryz.sizeOf3
def Zhm:=@Go.Proofs.Tryz.sizeOf77
def Iw:=@Go.Proofs.Tryz.sizeOf93
def Zbe:=@Go.Proofs.Tryz.underlying111
def Zgz:=@Go.Proofs.Tryz.underlying142
def Pu:=@Go.Proofs.Tryz.underlying168
def Fc:=@Go.Proofs.Tryz.underlying22
def Zln:=@Go.Proofs.Tryz.underlying230
def uT3:=@Go.Proofs.Tryz.underlying3
def uT38:=@Go.Proofs.Tryz.underlying38
def Lo:=@Go.Proofs.Tryz.underlying39
def Kq:=@Go.Proofs.Tryz.underlying46
def uT5:=@Go.Proofs.Tryz.underlying5
def uT9:=@Go.Proofs.Tryz.underlying9
open Go.ChangeShapes Go.WideShapes Go.ChangeAt Go.RowKit Go.Joins Go.Deep
variable {P:Program} {W:World} {H:Type} {enc:TypeId×Value→H}
theorem Zhk{α:Type}[Inhabited α]{p:Nat→α→Prop} : ∀n,(∀i,i<n→∃x,p i x)→∃xs:List α,xs.length=n∧∀i x,xs[i]? = some x→p i x
 | 0,_=>⟨[],rfl,fun i x h=>by simp at h⟩
 | n+1,h=>by
  obtain⟨xs,hl,hp⟩:=Zhk n fun i hi=>h i O
  obtain⟨x,hx⟩:=h n O
  refine⟨xs ++ [x],by simp [hl],fun i y hy=>?_⟩
  rcases Nat.lt_or_ge i n with hi | hi
  ·rw [List.getElem?_append_left O]at hy;exact hp i y hy
  ·rw [List.getElem?_append_right O,hl]at hy
   rcases Nat.eq_zero_or_pos (i-n)with h0 | h0
   ·rw [h0]at hy;simp at hy;subst hy;rw [show i=n by omega];exact hx
   ·rw [List.getElem?_eq_none O8]at hy;cases hy
theorem Zjo{r:Reach}{b0:Nat}{t e:TypeId}{a:Addr}{len cap:Nat}(hs:P.underlying t=some (.slice e))(hv:Value.okWide P W r b0 t (.slice (some a) len cap)):a.spot=none∧a.block<W.heap.size:=by
 unfold Value.okWide at hv
 rw [hs]at hv
 simp only at hv
 unfold Cell.okWide at hv
 rw [hs]at hv
 simp only at hv
 unfold Cell.ok at hv
 rw [hs]at hv
 simp only at hv
 obtain⟨_,_,_,h1,row,cells,h2,_⟩:=hv
 refine⟨h1,?_⟩
 unfold World.shape? at h2
 rcases Nat.lt_or_ge a.block W.heap.size with h | h
 ·exact h
 ·rw [Array.getElem?_eq_none h]at h2
  simp at h2
end Go.Sky
namespace Go.Sky
theorem Cal.toS {P:Program} {f:FuncId} {args:Array Value} {pre:List Pc} {al:Bool} {φ:Value×List (Int×SL)→Prop}
  (h:Cal P f args pre al (G:=Value×List (Int×SL)) φ (fun r=>r.1) (fun r=>[pp r.1 r.2])) :
  Cal P f args pre al (G:=SL×List (Int×SL)) (fun r=>φ (Na r.1,r.2)) (fun r=>Na r.1) (fun r=>[pp (Na r.1) r.2]):=fun w hw=>by
 refine(h w hw).mono fun e w' ⟨g,he,hφ,hb,hi⟩=>?_
 obtain⟨v,z⟩:=g
 have h0:=(hi _ (List.mem_cons_self ..)).1
 obtain⟨ad,c,h1,_⟩:=Zi w' h0
 have h2:v=Na (ad,z.length,c):=h1
 subst h2
 exact⟨((ad,z.length,c),z),he,hφ,hb,hi⟩
abbrev qT (z:SL×List (Int×SL)):Pc:=pp (Na z.1) z.2
abbrev T0:SL×List (Int×SL):=((none,0,0),[])
abbrev Ey (zs:List (SL×List (Int×SL))):List (List Int):=zs.map fun z=>Zb z.2
set_option maxRecDepth 20000
theorem Zpc{K:Nat}{f:Nat→Int}{n:Nat}(h:∀i,i<n→bl (f i).natAbs≤K)(hn:n≤1023):bl (Yv f n).natAbs≤K+10:=by
 rw [Xo]
 have h1:=Zuk h
 have h2:n*(2^K-1)≤1023*(2^K-1):=Nat.mul_le_mul_right _ hn
 have h3:0<2^K:=Nat.two_pow_pos K
 rw [Nat.pow_add]
 omega
theorem Md(zs:List (Int×SL))(z:Int×SL):Zb (zs ++ [z])=Zb zs ++ [z.1]:=by simp [Zb]
theorem Yg2(p q:List Int):tzl (mk (max p.length q.length) fun t=>cf p t+cf q t)=Bq p q:=rfl
theorem Ztg(p:List Int)(c:Int):tzl (mk p.length fun t=>cf p t*c)=Zv p c:=by rw [Zn8 p (· * c)];rfl
theorem Ygx(p q:List Int):tzl (mk (p.length+q.length-1) fun t=>Yv (fun k=>cf p k*cf q (t-k)) (t+1))=Xr p q:=rfl
theorem Dc{x:Int}{m:Nat}(h:bl x.natAbs≤m)(n:Nat):bl (x^n).natAbs≤n*m+1:=by
 rcases Nat.eq_zero_or_pos n with h0 | h0
 ·rw [h0,Int.pow_zero];have:bl (1:Int).natAbs=1:=O3
  omega
 ·have:=Iv x h n h0;omega
theorem Oe(p:List Int)(c:Int):(Zv p c).length≤p.length:=by
 unfold Zv;have:=Mz (p.map (· * c));rwa [List.length_map]at this
theorem bl_i1{i:Nat}(h:i≤1000):bl ((i:Int)+1).natAbs≤1000000000:=by
 have h1:=Od (show((i:Int)+1).natAbs≤1001 by omega)
 have h2:bl 1001≤10:=O3
 omega
theorem ev_tb{p:List Int}{x y:Int}(hs:Sz 1000000 p)(hx:∀k,bl (x^k).natAbs≤k*1000000+1)(hy:∀k,bl (y^k).natAbs≤k*1000000+1)(hl:p.length≤30)(t:Nat):bl (cf p t*(x^t*y^(p.length-1-t))).natAbs≤100000000:=by
 rcases Nat.lt_or_ge t p.length with h | h
 ·have h1:=hx t
  have h2:=hy (p.length-1-t)
  have h3:=Yg (x^t) (y^(p.length-1-t))
  have h4:=Yg (cf p t) (x^t*y^(p.length-1-t))
  have h5:=hs t
  have h6:t*1000000+(p.length-1-t)*1000000≤30*1000000:=by rw [←Nat.add_mul];exact Nat.mul_le_mul_right _ O
  omega
 ·rw [Yd h,Int.zero_mul];exact Nat.zero_le _
theorem Nf{y:Int}(h:y≠0):∀n:Nat,y^n≠0
 | 0=>by rw [Int.pow_zero];omega
 | n+1=>by rw [Int.pow_succ];exact Int.mul_ne_zero (Nf h n) h
theorem Ztq(xs ys:List Int):xs.map wr=ys.map wr↔xs=ys:=by
 refine⟨fun h=>?_,fun h=>by rw [h]⟩
 exact List.map_inj_right (fun x y h=>Yah (congrArg Prod.fst h) (congrArg Prod.snd h)) |>.1 h
theorem Cal.imp2{P:Program}{f:FuncId}{args:Array Value}{p1 p q:Pc}{pre:List Pc}{al:Bool}{G:Type}{φ:G→Prop}{Ye:G→Value}{its:G→List Pc}(h:Cal P f args (p1 :: p :: pre) al φ Ye its)(hh:∀w,q.holds w→p.holds w)(hf:∀b,p.fp b→q.fp b) :
  Cal P f args (p1 :: q :: pre) al φ Ye its:=fun w hp=>by
 refine(h w fun r hr=>?_).mono ?_
 ·rcases List.mem_cons.1 hr with rfl | hr
  ·exact hp _ (List.mem_cons_self ..)
  ·rcases List.mem_cons.1 hr with rfl | hr
   ·exact hh w (hp q (List.mem_cons_of_mem _ (List.mem_cons_self ..)))
   ·exact hp r (List.mem_cons_of_mem _ (List.mem_cons_of_mem _ hr))
 ·rintro e w' ⟨g,he,hg,hb,hits⟩
  refine⟨g,he,hg,hb,fun p' hp'=>?_⟩
  obtain⟨h1,h2,h3⟩:=hits p' hp'
  refine⟨h1,h2,fun b hb=>?_⟩
  rcases h3 b hb with h | ⟨h,r,hr,hrb⟩
  ·exact .inl h
  ·refine .inr ⟨h,?_⟩
   rcases List.mem_cons.1 hr with rfl | hr
   ·exact⟨r,List.mem_cons_self ..,hrb⟩
   ·rcases List.mem_cons.1 hr with rfl | hr
    ·exact⟨q,List.mem_cons_of_mem _ (List.mem_cons_self ..),hf b hrb⟩
    ·exact⟨r,List.mem_cons_of_mem _ (List.mem_cons_of_mem _ hr),hrb⟩
def shm(q:List Int)(c:Int)(s i:Nat):List Int:=mk (s+i) fun t=>if t<s then 0 else c*cf q (t-s)
theorem Zev(q:List Int)(c:Int)(s:Nat):List.replicate s 0=shm q c s 0:=by
 rw [Ztc];unfold shm
 exact Hc fun i hi=>by rw [if_pos hi]
theorem Zew(q:List Int)(c:Int)(s i:Nat):shm q c s i ++ [c*cf q i]=shm q c s (i+1):=by
 unfold shm
 rw [show s+(i+1)=s+i+1 by omega,Gn,if_neg O,show s+i-s=i by omega]
theorem Zo8(q:List Int)(c:Int)(s t:Nat):cf (shm q c s q.length) t=if s≤t∧t<s+q.length then c*cf q (t-s)else 0:=by
 unfold shm
 rw [Mm]
 by_cases h1:t<s
 ·rw [if_neg (by omega:¬(s≤t∧t<s+q.length))];split
  ·rfl
  ·rfl
 ·by_cases h2:t<s+q.length
  ·rw [if_pos h2,if_neg h1,if_pos (show s≤t∧t<s+q.length by omega)]
  ·rw [if_neg h2,if_neg (show ¬(s≤t∧t<s+q.length) by omega)]
section
variable {p q:List Int}
theorem Zdz(hq:0<q.length)(hl:q.length≤p.length):∀j,j≤p.length-q.length+1→∀t,p.length-j≤t→cf (Qa p q j) t=0
 | 0,_,t,ht=>Yd (by unfold Qa;omega)
 | j+1,hj,t,ht=>by
  rcases Nat.lt_or_ge t p.length with h | h
  ·unfold Qa
   rw [Zfw (by rw [Qu];exact h)]
   by_cases he:t=p.length-1-j
   ·subst he
    rw [if_pos O,show p.length-1-j-(p.length-1-j-(q.length-1))=q.length-1 by omega]
    omega
   ·rw [Zdz hq hl j O t O,Int.zero_mul,if_neg O];rfl
  ·exact Yd (by rw [Qu];omega)
theorem Zbl(hq:0<q.length)(hl:q.length≤p.length){j:Nat} : ∀k,j+k≤p.length-q.length+1→(∀t,p.length-(j+k)≤t→cf (Qa p q j) t=0)→∀t,cf (Qa p q (j+k)) t=cf (Qa p q j) t*cf q (q.length-1)^k
 | 0,_,_,t=>by rw [Int.pow_zero,Int.mul_one];rfl
 | k+1,hk,hz,t=>by
  have ih:=Zbl hq hl k O (fun t ht=>hz t O)
  rcases Nat.lt_or_ge t p.length with h | h
  ·show cf (Zdi q (Qa p q (j+k)) (p.length-1-(j+k))) t=_
   rw [Zfw (by rw [Qu];exact h),ih t,ih (p.length-1-(j+k)),hz (p.length-1-(j+k)) O,Int.zero_mul,Int.zero_mul]
   split<;>rw [Int.sub_zero,Int.pow_succ,Int.mul_assoc]
  ·rw [Yd (by rw [Qu];omega),Yd (by rw [Qu];omega),Int.zero_mul]
def Ea(p q R:List Int)(j:Nat):Prop:=Tr R∧∀t,cf R t=cf (Qa p q j) t*cf q (q.length-1)^(p.length-q.length+1-j)
theorem Znj:Ea p q (Zv p (cf q (q.length-1)^(p.length-q.length+1))) 0:=⟨Xq _ _,fun t=>by rw [Yk];rfl⟩
theorem Zta{R:List Int}{j:Nat}(hq:0<q.length)(hl:q.length≤p.length)(hlead:cf q (q.length-1)≠0)(hj:j≤p.length-q.length+1)(h:Ea p q R j)(hR:q.length≤R.length):j≤p.length-R.length∧p.length-R.length≤p.length-q.length∧R.length≤p.length∧Ea p q R (p.length-R.length):=by
 have hpow:∀n,cf q (q.length-1)^n≠0:=fun n=>Nf hlead n
 have htop:cf R (R.length-1)≠0:=h.1.mem (fun e=>by rw [e,List.length_nil]at hR;omega)
 have h1:R.length-1<p.length-j:=by
  rcases Nat.lt_or_ge (R.length-1) (p.length-j)with h1 | h1
  ·exact h1
  ·rw [h.2,Zdz hq hl j hj _ h1,Int.zero_mul]at htop;exact absurd rfl htop
 have hjl:j≤p.length-R.length:=O
 refine⟨hjl,O,O,h.1,fun t=>?_⟩
 have hz:∀t,p.length-(j+(p.length-R.length-j))≤t→cf (Qa p q j) t=0:=fun t ht=>by
  have h2:=h.2 t
  rw [Yd O]at h2
  rcases Int.mul_eq_zero.1 h2.symm with h3 | h3
  ·exact h3
  ·exact absurd h3 (hpow _)
 have h2:=Zbl hq hl (j:=j) (p.length-R.length-j) O hz t
 rw [show j+(p.length-R.length-j)=p.length-R.length by omega]at h2
 rw [h2,h.2,Int.mul_assoc,←Int.pow_add]
 congr 2;omega
theorem Zha{R:List Int}(hlead:cf q (q.length-1)≠0)(h:Ea p q R (p.length-R.length))(hq:0<q.length)(hR:q.length≤R.length)(hp:R.length≤p.length):cf R (R.length-1)/cf q (q.length-1)=cf (Qa p q (p.length-R.length)) (R.length-1)*cf q (q.length-1)^(p.length-q.length-(p.length-R.length)):=by
 rw [h.2,show p.length-q.length+1-(p.length-R.length)=p.length-q.length-(p.length-R.length)+1 by omega,Int.pow_succ,←Int.mul_assoc]
 exact Int.mul_ediv_cancel _ hlead
theorem Znk{R:List Int}(hlead:cf q (q.length-1)≠0)(h:Ea p q R (p.length-R.length))(hq:0<q.length)(hR:q.length≤R.length)(hp:R.length≤p.length) :
  Ea p q (Gz R (shm q (cf R (R.length-1)/cf q (q.length-1)) (R.length-q.length) q.length)) (p.length-R.length+1):=by
 refine⟨Zcg _ _,fun t=>?_⟩
 rw [Kj,Zo8,Zha hlead h hq hR hp,h.2]
 rcases Nat.lt_or_ge t p.length with ht | ht
 ·show _=cf (Zdi q (Qa p q (p.length-R.length)) (p.length-1-(p.length-R.length))) t*_
  rw [Zfw (by rw [Qu];exact ht),show p.length-1-(p.length-R.length)=R.length-1 by omega,show R.length-1-(q.length-1)=R.length-q.length by omega]
  rw [show p.length-q.length+1-(p.length-R.length)=p.length-q.length-(p.length-R.length)+1 by omega,show p.length-q.length+1-(p.length-R.length+1)=p.length-q.length-(p.length-R.length) by omega,Int.pow_succ]
  split<;>grind
 ·rw [Yd (p:=Qa p q (p.length-R.length)) (by rw [Qu];exact ht),Yd (p:=Qa p q (p.length-R.length+1)) (by rw [Qu];exact ht),if_neg O]
  simp
theorem Zqn{R:List Int}{j:Nat}(hq:0<q.length)(hl:q.length≤p.length)(hlead:cf q (q.length-1)≠0)(hj:j≤p.length-q.length+1)(h:Ea p q R j)(hR:R.length<q.length):R=Xn p q:=by
 unfold Xn
 rw [if_neg O]
 refine h.1.ext (Po _) fun t=>?_
 have hz:∀t,p.length-(j+(p.length-q.length+1-j))≤t→cf (Qa p q j) t=0:=fun t ht=>by
  have h2:=h.2 t
  rw [Yd O]at h2
  rcases Int.mul_eq_zero.1 h2.symm with h3 | h3
  ·exact h3
  ·exact absurd h3 (Nf hlead _)
 have h2:=Zbl hq hl (j:=j) (p.length-q.length+1-j) O hz t
 rw [show j+(p.length-q.length+1-j)=p.length-q.length+1 by omega]at h2
 rw [La,h2,h.2]
theorem Ztb{R:List Int}{j:Nat}(hj:j≤p.length-q.length+1)(h:Ea p q R j):Sz (Xz p+(p.length-q.length+1)*(Xz q+1)+1) R:=fun t=>by
 rw [h.2]
 have h1:=Dt p q j t
 have h2:=Dc (Pe q (q.length-1)) (p.length-q.length+1-j)
 have h3:=Yg (cf (Qa p q j) t) (cf q (q.length-1)^(p.length-q.length+1-j))
 have h4:(p.length-q.length+1-j)*Xz q≤(p.length-q.length+1-j)*(Xz q+1):=Nat.mul_le_mul_left _ O
 have h5:j*(Xz q+1)+(p.length-q.length+1-j)*(Xz q+1)=(p.length-q.length+1)*(Xz q+1):=by rw [←Nat.add_mul];congr 1;omega
 omega
theorem Zqm{R:List Int}{j:Nat}(h:Ea p q R j):R.length≤p.length:=by
 rcases Nat.lt_or_ge p.length R.length with h1 | h1
 ·have h2:=h.1.mem (fun e=>by rw [e]at h1;simp at h1)
  rw [h.2,Yd (by rw [Qu];omega),Int.zero_mul]at h2
  exact absurd rfl h2
 ·exact h1
end
end Go.Sky
namespace Go.Sky
section
variable {P:Program} {N:Nat} {sc:Nat→Prop} {env env':Py} {H H':Hp}
theorem Cf(n k:Nat):∀a w,Sat N sc env H a w→Sat N sc env ((n,Hu qI (List.replicate k I0)) :: H) a w:=fun a w hs=>by
 have hz:∀z,z∈List.replicate k I0→z=I0:=fun z hz=>(List.mem_replicate.1 hz).2
 refine hs.add n _ (fun z h=>by rw [hz z h];exact Ai 1 Lz w) (fun j' jt _ _ Kl b hb hb'=>?_) (fun b hb=>?_)
 ·obtain⟨z,h1,h2⟩:=hb;rw [hz z h1]at h2;cases h2.2
 ·obtain⟨z,h1,h2⟩:=hb;rw [hz z h1]at h2;cases h2.2
end
theorem Zx2{c r l:Int}{n A B:Nat}(h:c=r*l^n)(hr:bl r.natAbs≤A)(hl:bl l.natAbs≤B):bl c.natAbs≤A+(n*B+1):=by
 rw [h]
 have h1:=Yg r (l^n)
 rcases Nat.eq_zero_or_pos n with h0 | h0
 ·rw [h0,Int.pow_zero];rw [Int.mul_one];omega
 ·have:=Iv l hl n h0;omega
theorem Ygq{p q R:List Int}(hq:q.length≤R.length)(hl:q.length≤p.length)(hp:R.length≤p.length) :
  Xz p+(p.length-R.length)*(Xz q+1)+((p.length-q.length-(p.length-R.length))*Xz q+1)≤Xz p+(p.length-q.length+1)*(Xz q+1):=by
 have h1:(p.length-q.length-(p.length-R.length))*Xz q≤(p.length-q.length-(p.length-R.length))*(Xz q+1):=Nat.mul_le_mul_left _ O
 have h2:(p.length-R.length)*(Xz q+1)+(p.length-q.length-(p.length-R.length))*(Xz q+1)=(p.length-q.length)*(Xz q+1):=by rw [←Nat.add_mul];congr 1;omega
 rw [Nat.succ_mul];omega
theorem Yby{p q R:List Int}{c r:Int}(h:c=r*cf q (q.length-1)^(p.length-q.length-(p.length-R.length)))(hr:bl r.natAbs≤Xz p+(p.length-R.length)*(Xz q+1))(hs:Sz (Xz q) q)(hq:q.length≤R.length)(hl:q.length≤p.length)(hp:R.length≤p.length)(t:Nat) :
  bl (c*cf q t).natAbs≤Xz p+(p.length-q.length+1)*(Xz q+1)+1:=by
 have h1:=Zx2 h hr (hs _)
 have h2:=Yg c (cf q t)
 have h3:=hs t
 have h4:(p.length-q.length-(p.length-R.length))*Xz q≤(p.length-q.length-(p.length-R.length))*(Xz q+1):=Nat.mul_le_mul_left _ O
 have h5:(p.length-R.length)*(Xz q+1)+(p.length-q.length-(p.length-R.length))*(Xz q+1)=(p.length-q.length)*(Xz q+1):=by rw [←Nat.add_mul];congr 1;omega
 rw [Nat.succ_mul];omega
theorem Znb{q:List Int}{c:Int}{s i n:Nat}(h:∀t,bl (c*cf q t).natAbs≤n):Sz n (shm q c s i):=by
 unfold shm
 refine Cp fun t _=>?_
 split
 ·exact Nat.zero_le _
 ·exact h _
end Go.Sky
namespace Go.Sky
theorem Yd1(zs:List (Int×SL))(k:Nat)(z:Int×SL):Zb (zs.set k z)=(Zb zs).set k z.1:=by simp [Zb,List.map_set]
theorem Yic{q D:List Int}{k:Nat}(h:k+q.length≤D.length):Gz (tzl D) (tzl (shm q (cf D (k+q.length-1)/cf q (q.length-1)) k q.length))=tzl (Zdp q D k):=by
 refine(Zcg _ _).ext (Po _) fun t=>?_
 rw [Kj,La,La,La,Zo8]
 unfold Zdp
 rw [Mm]
 by_cases h1:t<D.length
 ·rw [if_pos h1];rfl
 ·rw [if_neg h1,if_neg O,Yd O];rfl
theorem div_c{q:List Int}{x:Int}{A:Nat}(h0:cf q (q.length-1)≠0)(hx:x%cf q (q.length-1)=0)(ha:bl x.natAbs≤A)(t:Nat):bl (x/cf q (q.length-1)*cf q t).natAbs≤A+(Xz q+1):=by
 have h1:=Gb (Int.dvd_of_emod_eq_zero hx) ha
 have h2:=Yg (x/cf q (q.length-1)) (cf q t)
 have h3:=Pe q t
 omega
theorem Zrw(p q:List Int)(j:Nat):Xb p q (j+1)=Zdp q (Xb p q j) (p.length-q.length-j):=rfl
theorem Yem{p q:List Int}{j:Nat}(h:q.length≤p.length)(hj:j≤p.length-q.length):Gz (tzl (Xb p q j)) (tzl (shm q (cf (Xb p q j) (p.length-q.length-j+q.length-1)/cf q (q.length-1)) (p.length-q.length-j) q.length))=tzl (Xb p q (j+1)):=by
 rw [Zrw];exact Yic (by rw [Hd];omega)
theorem Zz4{p q:List Int}{j:Nat}(hj:j<p.length-q.length+1):(Zb1 p q j).set (p.length-q.length-j) (cf (Xb p q j) (p.length-q.length-j+q.length-1)/cf q (q.length-1))=Zb1 p q (j+1):=Zrx hj
theorem div_sz{p q:List Int}{j:Nat}(hj:j≤p.length-q.length+1)(hx:∀k,p.length-q.length<k+j→k≤p.length-q.length→Nu p q k){M:Nat}(hF:Xz p+(p.length-q.length+1)*(Xz q+1)≤M)(t:Nat):bl (cf (Xb p q j) t).natAbs≤M:=by
 have h1:=Bw p q j hj hx t
 have h2:j*(Xz q+1)≤(p.length-q.length+1)*(Xz q+1):=Nat.mul_le_mul_right _ hj
 omega
theorem Yib{p q:List Int}{j:Nat}(hj:j≤p.length-q.length)(hx:∀k,p.length-q.length<k+j→k≤p.length-q.length→Nu p q k){M:Nat}(hF:Xz p+(p.length-q.length+1)*(Xz q+1)≤M)(t:Nat):bl (cf (Xb p q j) t).natAbs+(Xz q+1)≤M:=by
 have h1:=Bw p q j O hx t
 have h2:(j+1)*(Xz q+1)≤(p.length-q.length+1)*(Xz q+1):=Nat.mul_le_mul_right _ O
 rw [Nat.succ_mul]at h2
 omega
theorem Yh9{p q:List Int}{M:Nat}(hF:Xz p+(p.length-q.length+1)*(Xz q+1)≤M)(hx:∀k,k≤p.length-q.length→Nu p q k)(j:Nat):Sz M (Zb1 p q j):=by
 refine Cp fun t ht=>?_
 split
 ·unfold Zr6 dq
  have h1:=div_sz (p:=p) (q:=q) (j:=p.length-q.length-t) O (fun k _ hk=>hx k hk) hF (t+q.length-1)
  exact Gb (Int.dvd_of_emod_eq_zero (hx t O)) h1
 ·simp [Lr]
theorem Yg0{p q:List Int}(hp:p≠[])(hl:q.length≤p.length)(hx:∀k,k≤p.length-q.length→Nu p q k){n:Nat}(hn:n=(tzl (Xb p q (p.length-q.length+1))).length):decide (n=0)=decide (pdv p q):=by
 subst hn
 refine decide_eq_decide.2 ⟨fun h=> .inr ⟨hl,hx,List.eq_nil_of_length_eq_zero h⟩,fun h=>?_⟩
 rcases h with h | ⟨_,_,h⟩
 ·exact absurd h hp
 ·rw [h];rfl
theorem pdv_no{p q:List Int}(hp:p≠[]){k:Nat}(hk:k≤p.length-q.length)(h:¬Nu p q k):decide (pdv p q)=false:=decide_eq_false fun hd=>by
 rcases hd with h1 | ⟨_,h2,_⟩
 ·exact hp h1
 ·exact h (h2 k hk)
theorem Ygz{p q:List Int}(hp:p≠[])(h:p.length<q.length):decide (pdv p q)=false:=decide_eq_false fun hd=>by
 rcases hd with h1 | ⟨h2,_,_⟩
 ·exact hp h1
 ·omega
theorem Ygy{p q:List Int}(hp:p=[]):decide (pdv p q)=true:=decide_eq_true (.inl hp)
def rterm(a b:Int):Nat→List Int
 | 0=>[1]
 | i+1=>Xr (rterm a b i) (tzl [a,b])
def rsum(p:List Int)(a b d:Int):Nat→List Int
 | 0=>[]
 | i+1=>Bq (rsum p a b d i) (Zv (rterm a b i) (cf p i*d^(p.length-1-i)))
def hs(f:Nat→PS):Nat→PS
 | 0=>0
 | n+1=>hs f n+f n
theorem Yce(p:List Int):ps (tzl p)=ps p:=PS.ext' fun i=>La p i
theorem C_c(n:Int)(i:Nat):(PS.C n).c i=if i=0 then n else 0:=by
 have h:=PS.C_mul_c n 1 i
 rw [show PS.C n*1=PS.C n from PS.mul_one' _,PS.one_c]at h
 rw [h];split<;>simp
abbrev RW:=List (Bool×ByteArray)
abbrev qR (z:SL×RW):Pc:=Xc 2 Zt4 (Na z.1) z.2
abbrev qZ (z:SL×List Int):Pc:=Xc 2 wv (Na z.1) z.2
abbrev R0:SL×RW:=((none,0,0),[])
def short1(r:RW):Bool:=(decide (r.length≤14) || decide (r.length=26)) && r.all fun c=>decide (c.2.size≤16)
def shortb(ls:List RW):Bool:=ls.all short1
theorem Ze3 {P:Program} {N:Nat} {sc:Nat→Prop} {M:Nat→Prop} {env:Py} {H:Hp} {ops:Array Oper} {F:Py→Hp→Prop} {rest:List (Nat×Nat)} {i:Nat} {o:Oper} {G:Type} {φ:G→Prop} {genv:G→Py} {gH:G→Hp} {j e:Nat} {b:Bool} (ho:ops[i]? = some o) (hg:o.guard=some (j,b)) (hj:(ops[j]?).bind (·.dst)=some e) (he:lk env e=some (.bool b)) (heN:Nat.blt e N=true) (ht:T P N sc M o env H φ genv gH)
  (h:∀g,φ g→LD P N sc M ops F rest (genv g) (gH g)) :
  LD P N sc M ops F ((i,1) :: rest) env H:=r1g ht ho hg hj he heN h
theorem Cd{f:Nat→Int}{k:Nat} : ∀{n:Nat},k<n→(∀i,i<n→i≠k→f i=0)→Yv f n=f k
 | 0,hk,_=>absurd hk (Nat.not_lt_zero _)
 | n+1,hk,h=>by
  rw [Xa]
  by_cases e:k=n
  ·subst e
   rw [Gi fun i hi=>h i O O,Int.zero_add]
  ·rw [h n O (fun x=>e x.symm),Cd O (fun i hi=>h i O),Int.add_zero]
theorem Cr{p q:List Int}{a b:Nat}(ha:∀i,a<i→cf p i=0)(hb:∀i,b<i→cf q i=0):(ps p*ps q).c (a+b)=cf p a*cf q b:=by
 rw [PS.mul_c,Cd (k:=a) O fun i hi hne=>?_]
 ·rw [Nc,Nc,show a+b-a=b by omega]
 ·rw [Nc,Nc]
  rcases Nat.lt_or_ge a i with h | h
  ·rw [ha i h,Int.zero_mul]
  ·rw [hb (a+b-i) O,Int.mul_zero]
theorem Zfe(s s':List Int)(c c':Int)(f:PS)(t:Nat):(ps (Gz (Zv s c) (Zv s' c'))*f).c t=c*(ps s*f).c t-c'*(ps s'*f).c t:=by
 rw [PS.mul_c,PS.mul_c,PS.mul_c,←Oo,Int.sub_eq_add_neg,←Int.neg_mul,←Oo,←Du]
 refine Yp fun k _=>?_
 rw [Nc,Nc,Nc,Kj,Yk,Yk]
 grind
theorem Zq7(f:PS)(q q':List Int)(u v:Int)(h:∀i,u*cf q i=v*cf q' i)(t:Nat):u*(f*ps q).c t=v*(f*ps q').c t:=by
 rw [PS.mul_c,PS.mul_c,←Oo,←Oo]
 refine Yp fun k _=>?_
 rw [Nc,Nc]
 have:=h (t-k)
 grind
theorem Zwd{q s r:List Int}(hq:Tr q)(hq0:q≠[])(h:∀t,(ps s*ps q).c t=cf r t)(hr:∀t,q.length-1≤t→cf r t=0):∀t,cf s t=0:=by
 have hlead:=hq.mem hq0
 have hlen:0<q.length:=List.length_pos_iff.2 hq0
 have hs:tzl s=[]:=by
  rcases Zh2 (tzl s)with h1 | ⟨ys,y,h1⟩
  ·exact h1
  ·exfalso
   have ht:=Po s
   have hne:tzl s≠[]:=by rw [h1];simp
   have h2:=ht.mem hne
   have h3:=Cr (p:=tzl s) (q:=q) (a:=(tzl s).length-1) (b:=q.length-1) (fun i hi=>Yd O) (fun i hi=>Yd O)
   have h4:ps (tzl s)=ps s:=PS.ext' fun i=>La s i
   rw [h4,h,hr _ O]at h3
   rcases Int.mul_eq_zero.1 h3.symm with h5 | h5
   ·exact h2 h5
   ·exact hlead h5
 exact(Lc s).1 hs
theorem Ms{s:List Int}(h:∀t,cf s t=0)(f:PS)(t:Nat):(ps s*f).c t=0:=by
 rw [PS.mul_c]
 exact Gi fun k _=>by rw [Nc,h,Int.zero_mul]
theorem Pn{p q:List Int}(hp:Tr p)(hq:Tr q)(h1:p≠[])(h2:q≠[]):(Xr p q).length=p.length+q.length-1:=by
 have l1:=List.length_pos_iff.2 h1
 have l2:=List.length_pos_iff.2 h2
 unfold Xr
 rw [Zac,Yu]
 right
 rw [Yu,Mm,if_pos O,show p.length+q.length-1-1=(p.length-1)+(q.length-1) by omega,Cr (fun i hi=>Yd O) (fun i hi=>Yd O)]
 exact Int.mul_ne_zero (hp.mem h1) (hq.mem h2)
def mono(s:Nat)(c:Int):List Int:=List.replicate s 0 ++ [c]
theorem Zij(s:Nat)(c:Int)(i:Nat):cf (mono s c) i=if i=s then c else 0:=by
 unfold mono
 rw [Zdb,List.length_replicate]
 split
 ·rw [if_neg O]
  unfold cf
  simp [List.getD_eq_getElem?_getD,List.getElem?_replicate]
  split<;>rfl
 ·rename_i h
  split
  ·rename_i h2;subst h2;simp [cf]
  ·exact Yd O8
theorem Zju(s:Nat)(c:Int)(f:PS)(t:Nat):(ps (mono s c)*f).c t=if s≤t then c*f.c (t-s)else 0:=by
 rw [PS.mul_c]
 split
 ·rw [Cd (k:=s) O fun i _ hne=>by rw [Nc,Zij,if_neg hne,Int.zero_mul],Nc,Zij,if_pos rfl]
 ·exact Gi fun k hk=>by rw [Nc,Zij,if_neg O,Int.zero_mul]
theorem Zgc{p q:List Int}(hq:0<q.length)(hl:q.length≤p.length):∀j,j≤p.length-q.length+1→∃s:List Int,∀t,cf q (q.length-1)^j*cf p t=(ps s*ps q).c t+cf (Qa p q j) t
 | 0,_=>⟨[],fun t=>by rw [Ms (fun t=>Yd (Nat.zero_le _)),Int.pow_zero];unfold Qa;omega⟩
 | j+1,hj=>by
  obtain⟨s,ih⟩:=Zgc hq hl j O
  refine⟨Gz (Zv s (cf q (q.length-1))) (Zv (mono (p.length-1-j-(q.length-1)) (cf (Qa p q j) (p.length-1-j))) (-1)),fun t=>?_⟩
  rw [Zfe,Zju]
  have h0:=ih t
  show _=_+cf (Zdi q (Qa p q j) (p.length-1-j)) t
  rw [Int.pow_succ]
  rcases Nat.lt_or_ge t p.length with h | h
  ·rw [Zfw (by rw [Qu];exact h)]
   generalize p.length-1-j-(q.length-1)=sh
   generalize cf (Qa p q j) (p.length-1-j)=R
   generalize cf (Qa p q j) t=R' at h0 ⊢
   generalize (ps s*ps q).c t=X at h0 ⊢
   generalize cf q (q.length-1)^j=L at h0 ⊢
   generalize cf q (q.length-1)=l at h0 ⊢
   have e:L*l*cf p t=l*X+R'*l:=by rw [Int.mul_assoc,Int.mul_comm l,←Int.mul_assoc,h0];grind
   rw [e]
   by_cases h1:sh≤t
   ·rw [if_pos h1,Nc]
    by_cases h2:t<sh+q.length
    ·rw [if_pos ⟨h1,h2⟩];omega
    ·rw [if_neg O,Yd (p:=q) (i:=t-_) O];omega
   ·rw [if_neg h1,if_neg O];omega
  ·have z1:cf p t=0:=Yd h
   have z2:cf (Qa p q j) t=0:=Yd (by rw [Qu];exact h)
   have z3:cf (Zdi q (Qa p q j) (p.length-1-j)) t=0:=Yd (by rw [Zfk,Qu];exact h)
   have z4:cf q (t-(p.length-1-j-(q.length-1)))=0:=Yd O
   rw [z1,z2,Int.mul_zero,Int.add_zero]at h0
   rw [z1,z3,if_pos O,Nc,z4,←h0];simp
theorem Ee(p:List Int){q:List Int}(hq:q≠[]):∃(k:Nat) (s:List Int),∀t,cf q (q.length-1)^k*cf p t=(ps s*ps q).c t+cf (Xn p q) t:=by
 have hq':0<q.length:=List.length_pos_iff.2 hq
 rcases Nat.lt_or_ge p.length q.length with h | h
 ·refine⟨0,[],fun t=>?_⟩
  rw [Ms (fun t=>Yd (Nat.zero_le _)),Int.pow_zero]
  unfold Xn;rw [if_pos h];omega
 ·obtain⟨s,hs⟩:=Zgc hq' h _ (Nat.le_refl _)
  refine⟨p.length-q.length+1,s,fun t=>?_⟩
  rw [hs t]
  unfold Xn
  rw [if_neg O,La]
theorem Qr(p:List Int){q:List Int}(hq:q≠[]):(Xn p q).length<q.length:=by
 have hq':0<q.length:=List.length_pos_iff.2 hq
 unfold Xn
 split
 ·assumption
 ·have:=Zad (p:=Qa p q (p.length-q.length+1)) (n:=q.length-1) fun i hi=>Zdz hq' O _ (Nat.le_refl _) i O
  omega
theorem Le{p q:List Int}(hp:Tr p):Tr (Xn p q):=by
 unfold Xn;split
 ·exact hp
 ·exact Po _
def Sim(a b:List Int):Prop:=∃m n:Int,m≠0∧n≠0∧∀i,m*cf a i=n*cf b i
theorem Sim.refl(a:List Int):Sim a a:=⟨1,1,O3,O3,fun _=>rfl⟩
theorem Sim.symm{a b:List Int} : Sim a b→Sim b a:=fun⟨m,n,hm,hn,h⟩=>⟨n,m,hn,hm,fun i=>(h i).symm⟩
theorem Sim.trans{a b c:List Int} : Sim a b→Sim b c→Sim a c:=fun⟨m,n,hm,hn,h⟩ ⟨u,v,hu,hv,k⟩=>
 ⟨m*u,n*v,Int.mul_ne_zero hm hu,Int.mul_ne_zero hn hv,fun i=>by have h1:=h i;have h2:=k i;grind⟩
theorem Sim.zero{a b:List Int}(h:Sim a b){i:Nat}(hi:cf a i=0):cf b i=0:=by
 obtain⟨m,n,hm,hn,h⟩:=h
 have:=h i
 rw [hi,Int.mul_zero]at this
 rcases Int.mul_eq_zero.1 this.symm with h | h
 ·exact absurd h hn
 ·exact h
theorem Sim.len_le{a b:List Int}(h:Sim a b)(hb:Tr b):b.length≤a.length:=by
 rcases Nat.lt_or_ge a.length b.length with hl | hl
 ·exfalso
  have hne:b≠[]:=List.length_pos_iff.1 O
  exact hb.mem hne (h.zero (Yd O))
 ·exact hl
theorem Sim.len{a b:List Int}(h:Sim a b)(ha:Tr a)(hb:Tr b):a.length=b.length:=Nat.le_antisymm (h.symm.len_le ha) (h.len_le hb)
theorem Sim.nil{a b:List Int}(h:Sim a b)(hb:Tr b)(ha:a=[]):b=[]:=by
 have:=h.len_le hb
 rw [ha]at this
 exact List.eq_nil_of_length_eq_zero (by simpa using this)
theorem Zy3{a b a' b':List Int}(ha:Tr a)(ha':Tr a')(hb:Tr b)(hb':Tr b')(h0:b≠[])(h1:Sim a a')(h2:Sim b b'):Sim (Xn a b) (Xn a' b'):=by
 have h0':b'≠[]:=fun e=>h0 (h2.symm.nil hb e)
 have hlen:=h2.len hb hb'
 obtain⟨k,s,hs⟩:=Ee a h0
 obtain⟨k',s',hs'⟩:=Ee a' h0'
 have hL:cf b (b.length-1)^k≠0:=Nf (hb.mem h0) k
 have hL':cf b' (b'.length-1)^k'≠0:=Nf (hb'.mem h0') k'
 generalize cf b (b.length-1)^k=L at hs hL
 generalize cf b' (b'.length-1)^k'=L' at hs' hL'
 obtain⟨m,n,hm,hn,e1⟩:=h1
 obtain⟨u,v,hu,hv,e2⟩:=h2
 have l1:=Qr a h0
 have l2:=Qr a' h0'
 have key:∀t,(ps (Gz (Zv s (L'*m*v)) (Zv s' (L*n*u)))*ps b').c t=cf (Gz (Zv (Xn a' b') (L*n*u)) (Zv (Xn a b) (L'*m*u))) t:=fun t=>by
  rw [Zfe,Kj,Yk,Yk]
  have a1:=hs t
  have a2:=hs' t
  have a3:=e1 t
  have a4:=Zq7 (ps s) b b' u v e2 t
  generalize (ps s*ps b).c t=X at a1 a4
  generalize (ps s*ps b').c t=Y at a4
  generalize (ps s'*ps b').c t=Z at a2
  generalize cf a t=A at a1 a3
  generalize cf a' t=A' at a2 a3
  generalize cf (Xn a b) t=R at a1
  generalize cf (Xn a' b') t=R' at a2
  have:L'*m*v*Y=L'*m*u*X:=O4
  grind
 have z:=Zwd hb' h0' key fun t ht=>by
  rw [Kj,Yk,Yk,Yd (p:=Xn a' b') O,Yd (p:=Xn a b) O];omega
 refine⟨L'*m*u,L*n*u,by simp [*],by simp [*],fun t=>?_⟩
 have:=key t
 rw [Ms z,Kj,Yk,Yk]at this
 grind
theorem Za7(c:Int):∀(p:List Int) (g:Int),0≤g→(p.map (· * c)).foldl (fun g c=>(Int.gcd g c:Int)) (g*c.natAbs)=p.foldl (fun g c=>(Int.gcd g c:Int)) g*c.natAbs
 | [],g,_=>rfl
 | x :: p,g,hg=>by
  rw [List.map_cons,List.foldl_cons,List.foldl_cons,←Za7 c p _ O]
  congr 1
  have:Int.gcd (g*(c.natAbs:Int)) (x*c)=Int.gcd g x*c.natAbs:=by
   unfold Int.gcd
   rw [Int.natAbs_mul,Int.natAbs_mul,Int.natAbs_natCast,Nat.gcd_mul_right]
  rw [this];push_cast;rfl
theorem Zgj(p:List Int)(c:Int):Yn (p.map (· * c))=Yn p*c.natAbs:=by
 have:=Za7 c p 0 (Int.le_refl _)
 rw [Int.zero_mul]at this
 exact this
theorem Ge(p:List Int)(i:Nat):cf (Zr p) i*Yn p=cf p i:=by
 rw [Au];exact Int.ediv_mul_cancel (Mn p i)
theorem Zy4:Zr []=[]:=rfl
theorem Cn{p:List Int}(h:Tr p)(h0:p≠[]):Yn p≠0:=fun e=>h.mem h0 ((Zbq p).1 e _)
theorem Lh{p:List Int}(h:Tr p)(h0:p≠[]):Yn (Zr p)=1:=by
 have h1:=Cn h h0
 have h2:=Zgj (Zr p) (Yn p)
 rw [show(Zr p).map (· * Yn p)=p from Ih (by rw [List.length_map,Zq]) fun i _=>by rw [Zgr _ _ O5];exact Ge p i]at h2
 have h3:=Ny p
 have h4:Yn p*(Yn (Zr p)-1)=0:=by
  rw [Int.mul_sub,Int.mul_one,Int.mul_comm]
  have:((Yn p).natAbs:Int)=Yn p:=O
  rw [this]at h2;omega
 rcases Int.mul_eq_zero.1 h4 with h5 | h5<;>omega
theorem Ze5{p:List Int}(h:Yn p=1):Zr p=p:=Ih (Zq p) fun i _=>by rw [Au,h,Int.ediv_one]
theorem Cm{p:List Int}(h:Tr p):Zr (Zr p)=Zr p:=by
 by_cases h0:p=[]
 ·subst h0;rfl
 ·exact Ze5 (Lh h h0)
theorem Xx{p:List Int}(h:Tr p):Sim (Zr p) p:=by
 by_cases h0:p=[]
 ·subst h0;exact Sim.refl _
 ·exact⟨Yn p,1,Cn h h0,O3,fun i=>by rw [Int.one_mul,Int.mul_comm];exact Ge p i⟩
def Yo(p:List Int):List Int:=Ml (Zr p)
theorem Zi0{x y:List Int}(hx:Tr x)(hy:Tr y)(h0:x≠[])(h1:Yn x=1)(h2:Yn y=1)(h:Sim x y):x=y∨∀i,cf x i=- cf y i:=by
 have hl:=h.len hx hy
 obtain⟨m,n,hm,hn,e⟩:=h
 have h3:=Zgj x m
 have h4:=Zgj y n
 rw [show x.map (· * m)=y.map (· * n)from Ih (by simp [hl]) fun i _=>by
  rw [Zgr _ _ O5,Zgr _ _ O5,Int.mul_comm,Int.mul_comm (cf y i)];exact e i,h4,h1,h2]at h3
 have h5:m=n∨m=-n:=O
 rcases h5 with rfl | rfl
 ·exact .inl (Ih hl fun i _=>Int.eq_of_mul_eq_mul_left hm (e i))
 ·exact .inr fun i=>Int.eq_of_mul_eq_mul_left hn (by have:=e i;grind)
theorem Gu(g:List Int)(i:Nat):cf (Ml g) i=if g.length≠0∧cf g (g.length-1)<0 then-cf g i else cf g i:=by
 unfold Ml;split
 ·rw [Yk];omega
 ·rfl
theorem On{g:List Int}(h:Tr g):Tr (Ml g):=by
 unfold Ml;split
 ·exact Xq _ _
 ·exact h
theorem Ko(g:List Int):Sim (Ml g) g:=by
 by_cases h:g.length≠0∧cf g (g.length-1)<0
 ·exact⟨-1,1,O3,O3,fun i=>by rw [Gu,if_pos h];omega⟩
 ·exact⟨1,1,O3,O3,fun i=>by rw [Gu,if_neg h]⟩
theorem Zn4{a b:List Int}(ha:Tr a)(hb:Tr b)(h:Sim a b):Yo a=Yo b:=by
 by_cases h0:a=[]
 ·rw [h.nil hb h0,h0]
 ·have h0':b≠[]:=fun e=>h0 (h.symm.nil ha e)
  have hs:Sim (Zr a) (Zr b):=(Xx ha).trans (h.trans (Xx hb).symm)
  have hx:=Yi ha
  have hy:=Yi hb
  have hl:=hs.len hx hy
  have hx0:Zr a≠[]:=fun e=>h0 (List.eq_nil_of_length_eq_zero (by rw [←Zq,e];rfl))
  rcases Zi0 hx hy hx0 (Lh ha h0) (Lh hb h0') hs with e | e
  ·unfold Yo;rw [e]
  ·unfold Yo
   refine(On hx).ext (On hy) fun i=>?_
   rw [Gu,Gu,←hl,e i,e ((Zr a).length-1)]
   have hne:cf (Zr b) ((Zr a).length-1)≠0:=by rw [hl];exact hy.mem (fun e2=>hx0 (List.eq_nil_of_length_eq_zero (by rw [hl,e2];rfl)))
   have hl0:(Zr a).length≠0:=fun e2=>hx0 (List.eq_nil_of_length_eq_zero e2)
   by_cases h3:cf (Zr b) ((Zr a).length-1)<0
   ·rw [if_neg O,if_pos ⟨hl0,h3⟩]
   ·rw [if_pos O,if_neg O];omega
theorem Zt1:∀(f:Nat) {a b a' b':List Int},Tr a→Tr a'→Tr b→Tr b'→Sim a a'→Sim b b'→Sim (eu f a b) (eu f a' b')
 | 0,_,_,_,_,_,_,_,_,h,_=>h
 | f+1,a,b,a',b',ha,ha',hb,hb',h1,h2=>by
  unfold eu
  by_cases h0:b=[]
  ·rw [if_pos h0,if_pos (h2.nil hb' h0)];exact h1
  ·rw [if_neg h0,if_neg (fun e=>h0 (h2.symm.nil hb e))]
   have t1:=Le (q:=b) ha
   have t2:=Le (q:=b') ha'
   exact Zt1 f hb hb' (Yi t1) (Yi t2) h2 ((Xx t1).trans ((Zy3 ha ha' hb hb' h0 h1 h2).trans (Xx t2).symm))
theorem Zkl:∀(f:Nat) {a b:List Int},Tr a→Tr b→Tr (eu f a b)
 | 0,_,_,h,_=>h
 | f+1,a,b,ha,hb=>by
  unfold eu
  split
  ·exact ha
  ·exact Zkl f hb (Yi (Le ha))
theorem Zfm:∀(f k:Nat) {a b:List Int},eok f a b→eu (f+k) a b=eu f a b
 | 0,k,a,b,h=>by rw [show b=[]from h,Fl,Fl]
 | f+1,k,a,b,h=>by
  rcases h with h | h
  ·rw [h,Fl,Fl]
  ·by_cases h0:b=[]
   ·rw [h0,Fl,Fl]
   ·rw [show f+1+k=f+k+1 by omega]
    unfold eu
    rw [if_neg h0,if_neg h0]
    exact Zfm f k h.2
theorem Zwz:∀(f:Nat) {a b:List Int},Tr a→Tr b→Zr a=a→Zr b=b→Zr (eu f a b)=eu f a b
 | 0,_,_,_,_,h,_=>h
 | f+1,a,b,ha,hb,h1,h2=>by
  unfold eu
  split
  ·exact h1
  ·exact Zwz f hb (Yi (Le ha)) h2 (Cm (Le ha))
theorem Zg1{p q:List Int}(hp:Tr p)(hq:Tr q):Tr (gA p q):=by unfold gA;split<;>exact Yi ‹_›
theorem Zg0{p q:List Int}(hp:Tr p)(hq:Tr q):Tr (gB p q):=by unfold gB;split<;>exact Yi ‹_›
theorem Zq1{F:Nat}{p q:List Int}(hp:Tr p)(hq:Tr q):Ou F p q=Yo (eu F (gA p q) (gB p q)):=by
 unfold Ou Yo
 rw [Zwz F (Zg1 hp hq) (Zg0 hp hq)]
 ·unfold gA;split
  ·exact Cm hq
  ·exact Cm hp
 ·unfold gB;split
  ·exact Cm hp
  ·exact Cm hq
theorem Yhz{F G:Nat}{p q:List Int}(hp:Tr p)(hq:Tr q)(h1:eok F p q)(h2:eok G (gA p q) (gB p q)):Ml (Zr (eu F p q))=Ou G p q:=by
 rw [Zq1 hp hq]
 show Yo (eu F p q)=_
 rw [←Zfm F (G+1) h1,←Zfm G F h2]
 refine Zn4 (Zkl _ hp hq) (Zkl _ (Zg1 hp hq) (Zg0 hp hq)) ?_
 rcases Nat.lt_or_ge p.length q.length with h | h
 ·rw [show gA p q=Zr q from if_pos h,show gB p q=Zr p from if_pos h]
  rw [show F+(G+1)=F+G+1 by omega,show G+F=F+G by omega]
  have h0:q≠[]:=List.length_pos_iff.1 O
  have:eu (F+G+1) p q=eu (F+G) q (Zr p):=by
   conv=>lhs;unfold eu
   rw [if_neg h0,show Xn p q=p from if_pos h]
  rw [this]
  exact Zt1 _ hq (Yi hq) (Yi hp) (Yi hp) (Xx hq).symm (Sim.refl _)
 ·rw [show gA p q=Zr p from if_neg O,show gB p q=Zr q from if_neg O]
  have h3:eu (F+(G+1)) p q=eu (F+G) p q:=by rw [Zfm F (G+1) h1,Zfm F G h1]
  rw [h3,show G+F=F+G by omega]
  exact Zt1 _ hp (Yi hp) hq (Yi hq) (Xx hp).symm (Xx hq).symm
def chk:Nat→Nat→Nat→Nat→Nat→Bool
 | 0,_,lb,_,_=>Nat.beq lb 0
 | f+1,la,lb,A,B=>Nat.beq lb 0 || (bif Nat.blt la lb then chk f lb la B A else
   Nat.ble (A+(la-lb+1)*B) 65537 && (List.range lb).all fun l=>chk f lb l B (bif Nat.ble l 1 then 2 else A+(la-lb+1)*B))
theorem Zre(x y:Int):Qz x y∣x:=by
 unfold Qz;split
 ·exact Int.neg_dvd.2 (Int.gcd_dvd_left ..)
 ·exact Int.gcd_dvd_left ..
theorem Zj3(x y:Int):Qz x y∣y:=by
 unfold Qz;split
 ·exact Int.neg_dvd.2 (Int.gcd_dvd_right ..)
 ·exact Int.gcd_dvd_right ..
def s8(l:List Int):Prop:=∀x∈l,(Qc x.natAbs).size≤8
abbrev Z0:SL×List Int:=((none,0,0),[])
theorem vp_eu:∀(f:Nat) {a b:List Int},Vp a→Vp b→eok f a b→Vp (eu f a b)
 | 0,_,_,h,_,_=>h
 | f+1,a,b,ha,hb,h=>by
  unfold eu
  split
  ·exact ha
  ·rcases h with h | h
   ·contradiction
   ·exact vp_eu f hb (Mp (Bu ha h.1)) h.2
theorem Yal{g:List Int}(h:Vp g):Vp (Ml g):=by
 unfold Ml
 split
 ·refine⟨fun i=>by rw [Yk];exact Za4 h.sz i,Xq _ _,Nat.le_trans (Oe _ _) h.len⟩
 ·exact h
theorem Zuv{F:Nat}{p q:List Int}(hp:Vp p)(hq:Vp q)(h:eok F (gA p q) (gB p q)):Vp (Ou F p q):=Yal (vp_eu F (vp_gA hp hq) (vp_gB hp hq) h)
def pevn(p:List Int)(x y:Int)(n:Nat):Int:=Yv (fun i=>cf p i*(x^i*y^(n-1-i))) n
def dn(p:List Int)(y:Int):Int:=y^(p.length-1)
theorem Ycs{p q:List Int}(hp:Tr p)(hq:Tr q)(h1:p≠[])(h2:q≠[])(x y:Int):pev (Xr p q) x y=pev p x y*pev q x y:=by
 have l1:=List.length_pos_iff.2 h1
 have l2:=List.length_pos_iff.2 h2
 unfold pev
 rw [Pn hp hq h1 h2]
 obtain⟨Fk,hF⟩:∃Fk:Nat→Nat→Int,∀k j,Fk k j=cf p k*cf q j*(x^(k+j)*y^(p.length+q.length-1-1-(k+j))):=⟨_,fun _ _=>rfl⟩
 have e1:Yv (fun i=>cf (Xr p q) i*(x^i*y^(p.length+q.length-1-1-i))) (p.length+q.length-1)=Yv (fun i=>Yv (fun k=>Fk k (i-k)) (i+1)) (p.length+q.length-1):=by
  refine Yp fun i _=>?_
  rw [Kt,PS.mul_c,←Zag]
  exact Yp fun k hk=>by
   rw [hF,show k+(i-k)=i by omega];rfl
 rw [e1,Zf8,Zcj (m:=p.length) O fun k h1 h2=>Gi fun j _=>by rw [hF,Yd h1,Int.zero_mul,Int.zero_mul],←Zag]
 refine Yp fun k hk=>?_
 rw [Zcj (m:=q.length) O fun j h1 h2=>by rw [hF,Yd h1,Int.mul_zero,Int.zero_mul],←Oo]
 refine Yp fun j hj=>?_
 rw [hF,Int.pow_add,show p.length+q.length-1-1-(k+j)=(p.length-1-k)+(q.length-1-j) by omega,Int.pow_add]
 generalize x^k=a;generalize x^j=b;generalize y^(p.length-1-k)=c;generalize y^(q.length-1-j)=d
 grind
theorem Ib(q:List Int):Xr [] q=[]:=Ag (.inl rfl)
theorem Zaq(p:List Int):Xr p []=[]:=Ag (.inr rfl)
theorem Ydw(N D:Int):N/Qz N D*D=N*(D/Qz N D):=by
 have h1:=Int.ediv_mul_cancel (Zre N D)
 have h2:=Int.ediv_mul_cancel (Zj3 N D)
 generalize N/Qz N D=n at *
 generalize D/Qz N D=d at *
 generalize Qz N D=g at *
 subst h1 h2
 grind
theorem Zzo{N D:Int}(h:0<D):0<D/Qz N D:=by
 have h1:Qz N D=(Int.gcd N D:Int):=if_neg O
 have h2:=Int.ediv_mul_cancel (Zj3 N D)
 rw [h1]at h2 ⊢
 generalize D/(Int.gcd N D:Int)=d at *
 rcases Int.lt_or_le 0 d with h3 | h3
 ·exact h3
 ·exfalso
  have:d*(Int.gcd N D:Int)≤0:=Int.mul_nonpos_of_nonpos_of_nonneg h3 O
  omega
section
variable {p q:List Int}
theorem Zea(hp:Tr p)(hq:Tr q)(h1:p≠[])(h2:q≠[]):∀j,j≤p.length→∀t,cf (Xb (Xr p q) q j) t=(ps (p.take (p.length-j))*ps q).c t
 | 0,_,t=>by
  rw [Nat.sub_zero,List.take_length];exact Kt p q t
 | j+1,hj,t=>by
  have ih:=Zea hp hq h1 h2 j O
  have l1:=List.length_pos_iff.2 h1
  have l2:=List.length_pos_iff.2 h2
  have hl:=Pn hp hq h1 h2
  have e0:Xb (Xr p q) q (j+1)=Zdp q (Xb (Xr p q) q j) (p.length-1-j):=by
   show Zdp q _ _=_;rw [hl];congr 1;omega
  have hq0:=hq.mem h2
  have htop:cf (Xb (Xr p q) q j) (p.length-1-j+q.length-1)=cf p (p.length-1-j)*cf q (q.length-1):=by
   rw [ih,show p.length-1-j+q.length-1=(p.length-1-j)+(q.length-1) by omega,Cr (fun i hi=>by rw [Gs,if_neg O]) (fun i hi=>Yd O),Gs,if_pos O]
  have hdq:dq q (Xb (Xr p q) q j) (p.length-1-j)=cf p (p.length-1-j):=by
   unfold dq;rw [htop];exact Int.mul_ediv_cancel _ hq0
  have e1:(ps (p.take (p.length-j))*ps q).c t=(ps (p.take (p.length-(j+1)))*ps q).c t+(ps (mono (p.length-1-j) (cf p (p.length-1-j)))*ps q).c t:=by
   rw [PS.mul_c,PS.mul_c,PS.mul_c,←Du]
   refine Yp fun k _=>?_
   rw [Nc,Nc,Nc,Nc,Gs,Gs,Zij]
   by_cases a1:k=p.length-1-j
   ·rw [if_pos O,if_neg O,if_pos a1,←a1];omega
   ·rw [if_neg a1]
    by_cases a2:k<p.length-j
    ·rw [if_pos a2,if_pos O];omega
    ·rw [if_neg a2,if_neg O];omega
  rw [e0]
  unfold Zdp
  rw [Mm,Hd,hl,hdq,ih,e1,Zju,Nc]
  by_cases b1:t<p.length+q.length-1
  ·rw [if_pos b1]
   by_cases b2:p.length-1-j≤t
   ·rw [if_pos b2]
    by_cases b3:t<p.length-1-j+q.length
    ·rw [if_pos ⟨b2,b3⟩];omega
    ·rw [if_neg O,Yd (p:=q) O];omega
   ·rw [if_neg b2,if_neg O];omega
  ·rw [if_neg b1,PS.mul_c]
   refine(Gi fun k _=>?_).symm
   rw [Nc,Nc,Gs]
   split
   ·rw [Yd (p:=q) O,Int.mul_zero]
   ·rw [Int.zero_mul]
theorem Znx(hp:Tr p)(hq:Tr q)(h2:q≠[]):pdv (Xr p q) q∧Mq (Xr p q) q=p:=by
 by_cases h1:p=[]
 ·subst h1;rw [Ib];exact⟨.inl rfl,rfl⟩
 have l1:=List.length_pos_iff.2 h1
 have l2:=List.length_pos_iff.2 h2
 have hl:=Pn hp hq h1 h2
 have hq0:=hq.mem h2
 have hd:∀k,k≤p.length-1→cf (Xb (Xr p q) q (p.length-1-k)) (k+q.length-1)=cf p k*cf q (q.length-1):=fun k hk=>by
  rw [Zea hp hq h1 h2 _ O,show k+q.length-1=k+(q.length-1) by omega,Cr (fun i hi=>by rw [Gs,if_neg O]) (fun i hi=>Yd O),Gs,if_pos O]
 have hn:(Xr p q).length-q.length=p.length-1:=O
 have hne:Xr p q≠[]:=List.length_pos_iff.1 O
 refine⟨.inr ⟨O,fun k hk=>?_,?_⟩,?_⟩
 ·unfold Nu;rw [hn]at hk ⊢;rw [hd k hk];exact Int.mul_emod_left _ _
 ·rw [hn,show p.length-1+1=p.length by omega]
  refine(Lc _).2 fun i=>?_
  rw [Zea hp hq h1 h2 _ (Nat.le_refl _),Nat.sub_self,List.take_zero]
  exact Ms (fun t=>Yd (Nat.zero_le _)) _ _
 ·rw [Zjh hne]
  unfold Ych
  rw [hn,show p.length-1+1=p.length by omega,Hc (g:=cf p) fun k hk=>?_,Zfg,Zac hp]
  unfold Zr6 dq
  rw [hn,hd k O]
  exact Int.mul_ediv_cancel _ hq0
end
def Dv(g a:List Int):Prop:=∃(k:Int) (s:List Int),k≠0∧∀t,k*cf a t=(ps s*ps g).c t
theorem Zq2(f:PS)(t:Nat):(ps [1]*f).c t=f.c t:=by
 rw [PS.mul_c,Cd (k:=0) O fun i _ hne=>by rw [Nc,Yd (p:=[1]) O8,Int.zero_mul],Nc,show cf [1] 0=1 from rfl,Int.one_mul,Nat.sub_zero]
theorem Dv.refl(a:List Int):Dv a a:=⟨1,[1],O3,fun t=>by rw [Zq2,Int.one_mul,Nc]⟩
theorem Dv.nil(g:List Int):Dv g []:=⟨1,[],O3,fun t=>by rw [Ms (fun t=>Yd (Nat.zero_le _)),Yd (Nat.zero_le _)];rfl⟩
theorem Dv.sim{g a b:List Int} : Dv g a→Sim a b→Dv g b:=fun⟨k,s,hk,h⟩ ⟨m,n,hm,hn,e⟩=>
 ⟨k*n,Zv s m,Int.mul_ne_zero hk hn,fun t=>by
  rw [PS.mul_c,show(fun i=>(ps (Zv s m)).c i*(ps g).c (t-i))=fun i=>m*((ps s).c i*(ps g).c (t-i))from funext fun i=>by rw [Nc,Nc,Nc,Yk];grind,Oo,←PS.mul_c,←h,Int.mul_assoc,←e];grind⟩
theorem Dv.lin{g a b c:List Int}(ha:Dv g a)(hb:Dv g b)(s:List Int)(L:Int)(hL:L≠0)(h:∀t,L*cf c t=(ps s*ps a).c t+cf b t):Dv g c:=by
 obtain⟨k,u,hk,h1⟩:=ha
 obtain⟨m,v,hm,h2⟩:=hb
 refine⟨L*(k*m),Bq (Zv (Xr s u) m) (Zv v k),Int.mul_ne_zero hL (Int.mul_ne_zero hk hm),fun t=>?_⟩
 have e1:ps g=ps g:=rfl
 have e2:k*(ps s*ps a).c t=(ps (Xr s u)*ps g).c t:=by
  rw [Znr,PS.mul_assoc',PS.mul_c,PS.mul_c,←Oo]
  refine Yp fun i _=>?_
  rw [←h1,Nc,Nc];grind
 have e3:(ps (Bq (Zv (Xr s u) m) (Zv v k))*ps g).c t=m*(ps (Xr s u)*ps g).c t+k*(ps v*ps g).c t:=by
  rw [PS.mul_c,PS.mul_c,PS.mul_c,←Oo,←Oo,←Du]
  refine Yp fun i _=>?_
  rw [Nc,Nc,Nc,Nc,Zda,Yk,Yk];grind
 have h0:=h t
 have h3:=h2 t
 rw [e3,←e2,←h3]
 generalize (ps s*ps a).c t=X at *
 generalize cf c t=C at *
 generalize cf b t=B at *
 have:L*(k*m)*C=k*m*(L*C):=O4
 rw [this,h0];grind
theorem eu_dv:∀(f:Nat) {a b:List Int},Tr a→Tr b→eok f a b→Dv (eu f a b) a∧Dv (eu f a b) b
 | 0,a,b,ha,hb,h=>by rw [show b=[]from h];exact⟨Dv.refl _,Dv.nil _⟩
 | f+1,a,b,ha,hb,h=>by
  by_cases h0:b=[]
  ·subst h0;rw [Fl];exact⟨Dv.refl _,Dv.nil _⟩
  ·rcases h with h | h
   ·exact absurd h h0
   ·have e:eu (f+1) a b=eu f b (Zr (Xn a b)):=by
     conv=>lhs;unfold eu
     rw [if_neg h0]
    rw [e]
    have t1:=Le (q:=b) ha
    obtain⟨d1,d2⟩:=eu_dv f hb (Yi t1) h.2
    obtain⟨k,s,hs⟩:=Ee a h0
    exact⟨d1.lin (d2.sim (Xx t1)) s _ (Nf (hb.mem h0) k) hs,d1⟩
theorem Dv.of_sim{g g' a:List Int} : Dv g a→Sim g g'→Dv g' a:=fun⟨k,s,hk,h⟩ ⟨m,n,hm,hn,e⟩=>
 ⟨m*k,Zv s n,Int.mul_ne_zero hm hk,fun t=>by
  rw [Int.mul_assoc,h,PS.mul_c,PS.mul_c,←Oo]
  refine Yp fun i _=>?_
  rw [Nc,Nc,Nc,Nc,Yk]
  have:=e (t-i)
  grind⟩
theorem Dv.zero{a:List Int}(ha:Tr a)(h:Dv [] a):a=[]:=by
 obtain⟨k,s,hk,h⟩:=h
 rw [←Zac ha,Lc]
 intro i
 have h1:=h i
 rw [PS.mul_comm',Ms (fun t=>Yd (Nat.zero_le _))]at h1
 rcases Int.mul_eq_zero.1 h1 with h2 | h2
 ·exact absurd h2 hk
 ·exact h2
theorem Zcv{F:Nat}{p q:List Int}(hp:Tr p)(hq:Tr q)(h:eok F (gA p q) (gB p q)):Dv (Ou F p q) p∧Dv (Ou F p q) q:=by
 have hA:=Zg1 hp hq
 have hB:=Zg0 hp hq
 obtain⟨h1,h2⟩:=eu_dv F hA hB h
 have hs:Sim (eu F (gA p q) (gB p q)) (Ou F p q):=(Ko _).symm
 have h1:=h1.of_sim hs
 have h2:=h2.of_sim hs
 by_cases hl:p.length<q.length
 ·rw [show gA p q=Zr q from if_pos hl]at h1
  rw [show gB p q=Zr p from if_pos hl]at h2
  exact⟨h2.sim (Xx hp),h1.sim (Xx hq)⟩
 ·rw [show gA p q=Zr p from if_neg hl]at h1
  rw [show gB p q=Zr q from if_neg hl]at h2
  exact⟨h1.sim (Xx hp),h2.sim (Xx hq)⟩
theorem Zch{F:Nat}{p q:List Int}(hp:Tr p)(hq:Tr q):Tr (Ou F p q):=On (Zkl F (Zg1 hp hq) (Zg0 hp hq))
theorem Zdy(p:List Int){c:Int}(h:c≠0):Sim p (Zv p c):=⟨c,1,h,O3,fun i=>by rw [Yk];grind⟩
def fin8(la A:Nat):Bool:=Nat.ble la 2 || Nat.ble (64+(9-la)*A) 65536
def chk2:Nat→Nat→Nat→Nat→Nat→Bool
 | 0,la,_,A,_=>fin8 la A
 | f+1,la,lb,A,B=>bif Nat.beq lb 0 then fin8 la A else bif Nat.blt la lb then chk2 f lb la B A else
   (List.range lb).all fun l=>chk2 f lb l B (bif Nat.ble l 1 then 2 else A+(la-lb+1)*B)
theorem Zau{g:List Int}(h:Tr g):(Ml g).length=g.length:=(Ko g).len (On h) h
theorem Zhe(g:List Int):Yn (Ml g)=Yn g:=by
 have d1:Yn (Ml g)∣Yn g:=Gg fun i=>by
  have h:=Mn (Ml g) i
  rw [Gu]at h
  split at h
  ·exact Int.dvd_neg.1 h
  ·exact h
 have d2:Yn g∣Yn (Ml g):=Gg fun i=>by
  rw [Gu];split
  ·exact Int.dvd_neg.2 (Mn g i)
  ·exact Mn g i
 exact Int.dvd_antisymm (Ny _) (Ny _) d1 d2
theorem Zjn{F:Nat}{p q:List Int}(hp:Tr p)(hq:Tr q)(h0:Ou F p q≠[]):Yn (Ou F p q)=1:=by
 rw [Zq1 hp hq]at h0 ⊢
 unfold Yo at h0 ⊢
 rw [Zhe]
 refine Lh (Zkl F (Zg1 hp hq) (Zg0 hp hq)) fun e=>h0 ?_
 rw [e];rfl
end Go.Sky
namespace Go.Sky
def Ac(xs:List Int):Prop:=xs.length=0∨(xs.length+2)*(xs.length+2)*(Xz xs+16)≤65536
instance (xs:List Int):Decidable (Ac xs):=by unfold Ac;infer_instance
def sqf(F:Nat)(xs:List Int):List Int:=Mq (Yo xs) (Ou F (Yo xs) (Yj (Yo xs)))
def Ygb(F:Nat)(xs:List Int):Prop:=(∀i,i<xs.length→bl (cf (Yo xs) (i+1)*((i:Int)+1)).natAbs≤65536)∧¬Zmn (Yo xs) (Yj (Yo xs))∧eok F (gA (Yo xs) (Yj (Yo xs))) (gB (Yo xs) (Yj (Yo xs)))∧
 Dq (Yo xs) (Ou F (Yo xs) (Yj (Yo xs)))=0∧pdv (Yo xs) (Ou F (Yo xs) (Yj (Yo xs)))
def Nj(x y:List Int):List Int:=if cf y (y.length-1)<0∧(x.length-y.length+1)%2=1 then Zr (Xn x y)else Zv (Zr (Xn x y)) (-1)
def cok:Nat→List Int→List Int→Prop
 | 0,_,y=>y=[]
 | f+1,x,y=>y=[]∨(Dq x y=0∧y.length≤x.length∧cok f y (Nj x y))
def Nm:Nat→List Int→List Int→List (List Int)
 | 0,x,_=>[x]
 | f+1,x,y=>if y=[]then [x]else x :: Nm f y (Nj x y)
theorem Ff(f:Nat)(x:List Int):Nm f x []=[x]:=by cases f<;>rfl
theorem Zfu{f:Nat}{a b:List Int}(h:cok f a b)(hb:b≠[]):∃g,f=g+1∧Dq a b=0∧b.length≤a.length∧cok g b (Nj a b)∧Nm f a b=a :: Nm g b (Nj a b):=by
 cases f with
 | zero=>exact absurd h hb
 | succ g=>
  rcases h with h | h
  ·exact absurd h hb
  ·exact⟨g,rfl,h.1,h.2.1,h.2.2,by show(if b=[]then [a]else _)=_;rw [if_neg hb]⟩
def Bt(F:Nat)(xs:List Int):List (List Int):=Nm F (sqf F xs) (Zr (Yj (sqf F xs)))
def Ct(F:Nat)(xs:List Int):Prop:=Ygb F xs∧(∀i,i<xs.length→bl (cf (sqf F xs) (i+1)*((i:Int)+1)).natAbs≤65536)∧cok F (sqf F xs) (Zr (Yj (sqf F xs)))
theorem Zsu{p:List Int}(h:Vp p):Vp (Yo p):=by
 unfold Yo
 have h1:=Mp h
 refine⟨fun i=>?_,On h1.tr,by rw [Zau h1.tr];exact h1.len⟩
 rw [Gu];split
 ·rw [Int.natAbs_neg];exact h1.sz i
 ·exact h1.sz i
theorem Pd{p:List Int}(h:Tr p):(Yo p).length=p.length:=by unfold Yo;rw [Zau (Yi h),Zq]
theorem Ziq{x y:List Int}(hx:Vp x)(hd:Dq x y=0):Vp (Nj x y):=by
 have h:=Mp (Bu hx hd)
 unfold Nj
 split
 ·exact h
 ·exact⟨fun i=>by rw [Yk];exact Za4 h.sz i,Xq _ _,Nat.le_trans (Oe _ _) h.len⟩
def Ow(s:Int×Int)(x:Int):Int×Int:=if x=0 then s else(if x=-s.2 then s.1+1 else s.1,x)
def chg(l:List Int):Int:=(l.foldl Ow (0,0)).1
theorem Zay{α β:Type}(f:α→β→α)(a:α)(l:List β)(x:β):(l ++ [x]).foldl f a=f (l.foldl f a) x:=O5
theorem chg1_n(s:Int×Int)(x:Int):(Ow s x).1=s.1∨(Ow s x).1=s.1+1:=by
 unfold Ow;split
 ·exact .inl rfl
 ·dsimp only;split
  ·exact .inr rfl
  ·exact .inl rfl
def sgs(ls:List (List Int))(x y:Int):List Int:=ls.map fun p=>(pev p x y).sign
def sgr(ls:List (List Int)):List Int:=ls.map fun p=>(cf p (p.length-1)).sign
def sgl(ls:List (List Int)):List Int:=ls.map fun p=>if p.length%2=0 then-(cf p (p.length-1)).sign else(cf p (p.length-1)).sign
def Bx(xs:List Int):Nat:=(xs.take (xs.length-1)).foldl (fun m c=>max m c.natAbs) 0
def Zaj(xs:List Int):Int:=((Bx xs/(cf xs (xs.length-1)).natAbs:Nat):Int)+2
def Zue(xs:List Int):Int:=if xs.length=0 then 3 else if Ac xs then 0 else 7
def ef(z:Int×Int):Bool:=decide (512<bl z.1.natAbs) || decide (512<bl z.2.natAbs)
def chk2r(xs:List Int)(x y x2 y2:Int):Int:=if xs.length=0 then 3 else if 0<x*y2-x2*y then 3 else if Ac xs∧ef (x,y)=false∧ef (x2,y2)=false then 0 else 7
theorem Yiv{xs:List Int}(h0:xs≠[])(h:Ac xs):Zue xs=0:=by
 unfold Zue
 rw [if_neg (fun e=>h0 (List.eq_nil_of_length_eq_zero e)),if_pos h]
theorem Zib{xs:List Int}(h:¬cf (Zr xs) ((Zr xs).length-1)<0):Yo xs=Zr xs:=by
 unfold Yo Ml;rw [if_neg O]
theorem Zic{xs:List Int}(h0:(Zr xs).length≠0)(h:cf (Zr xs) ((Zr xs).length-1)<0):Yo xs=Zv (Zr xs) (-1):=by
 unfold Yo Ml;rw [if_pos ⟨h0,h⟩]
theorem Zd8{P:Nat→Prop} : ∀n,P n→∃m,P m∧∀k,k<m→¬P k:=by
 intro n
 induction n using Nat.strongRecOn with
 | _ n ih=>
  intro h
  by_cases hx:∃k,k<n∧P k
  ·obtain⟨k,hk,hf⟩:=hx;exact ih k hk hf
  ·exact⟨n,h,fun k hk hf=>hx ⟨k,hk,hf⟩⟩
theorem Zzq{n:Nat}(h:2≤n):∃p,2≤p∧p∣n∧∀d,2≤d→d∣n→p≤d:=by
 obtain⟨p,⟨h1,h2⟩,h3⟩:=Zd8 (P:=fun d=>2≤d∧d∣n) n ⟨h,Nat.dvd_refl n⟩
 exact⟨p,h1,h2,fun d hd hdn=>by
  rcases Nat.lt_or_ge d p with h4 | h4
  ·exact absurd ⟨hd,hdn⟩ (h3 d h4)
  ·exact h4⟩
theorem Zrj{n p:Nat}(h1:2≤p)(h2:p∣n)(h3:∀d,2≤d→d∣n→p≤d)(hn:0<n){x y:Int}(h:(p:Int)∣x*y):(p:Int)∣x∨(p:Int)∣y:=by
 by_cases hx:(p:Int)∣x
 ·exact .inl hx
 ·right
  have hg:Nat.gcd p x.natAbs=1:=by
   have hd:=Nat.gcd_dvd_left p x.natAbs
   have h0:0<Nat.gcd p x.natAbs:=Nat.gcd_pos_of_pos_left _ O
   rcases Nat.lt_or_ge (Nat.gcd p x.natAbs) 2 with h4 | h4
   ·omega
   ·have h5:=h3 _ h4 (Nat.dvd_trans hd h2)
    have h6:=Nat.le_of_dvd O hd
    exfalso
    refine hx (Int.natAbs_dvd_natAbs.1 ?_)
    rw [Int.natAbs_natCast]
    have h7:Nat.gcd p x.natAbs=p:=O
    rw [←h7];exact Nat.gcd_dvd_right _ _
  have h8:=Int.natAbs_dvd_natAbs.2 h
  rw [Int.natAbs_natCast,Int.natAbs_mul]at h8
  refine Int.natAbs_dvd_natAbs.1 ?_
  rw [Int.natAbs_natCast]
  exact(show Nat.Coprime p x.natAbs from hg).dvd_of_dvd_mul_left h8
theorem gauss{g a:List Int}(hg:Yn g=1):∀(n:Nat) (k:Int) (s:List Int),k.natAbs=n→k≠0→(∀t,k*cf a t=(ps s*ps g).c t)→∃q:List Int,∀t,cf a t=(ps q*ps g).c t:=by
 intro n
 induction n using Nat.strongRecOn with
 | _ n ih=>
  intro k s hkn hk h
  rcases Nat.lt_or_ge n 2 with h2 | h2
  ·have hkk:k*k=1:=by
    have:k=1∨k=-1:=O
    rcases this with e | e<;>subst e<;>rfl
   refine⟨Zv s k,fun t=>?_⟩
   have e:(ps (Zv s k)*ps g).c t=k*(ps s*ps g).c t:=by
    rw [PS.mul_c,PS.mul_c,←Oo]
    exact Yp fun i _=>by rw [Nc,Nc,Nc,Yk];grind
   rw [e,←h,←Int.mul_assoc,hkk,Int.one_mul]
  ·obtain⟨p,p2,pd,pm⟩:=Zzq h2
   have hpp:∀{x y:Int},(p:Int)∣x*y→(p:Int)∣x∨(p:Int)∣y:=Zrj p2 pd pm O
   have hpk:(p:Int)∣k:=Int.natAbs_dvd_natAbs.1 (by rw [Int.natAbs_natCast,hkn];exact pd)
   have hgn:∃j,¬(p:Int)∣cf g j:=Classical.byContradiction fun hx=>by
    have:(p:Int)∣Yn g:=Gg fun i=>Classical.byContradiction fun hy=>hx ⟨i,hy⟩
    rw [hg]at this
    have:=Int.le_of_dvd O3 this
    omega
   obtain⟨j0,hj0⟩:=hgn
   obtain⟨j,hj,hjm⟩:=Zd8 (P:=fun j=>¬(p:Int)∣cf g j) j0 hj0
   have hs:∀i,(p:Int)∣cf s i:=fun i0=>Classical.byContradiction fun hi0=>by
    obtain⟨i,hi,him⟩:=Zd8 (P:=fun i=>¬(p:Int)∣cf s i) i0 hi0
    have h3:=h (i+j)
    rw [PS.mul_c]at h3
    have key:∀m,m≤i+j+1→(p:Int)∣Yv (fun k=>if k=i then 0 else(ps s).c k*(ps g).c (i+j-k)) m:=fun m=>by
     induction m with
     | zero=>intro _;exact Int.dvd_zero _
     | succ m ihm=>
      intro hm
      rw [Xa]
      refine Int.dvd_add (ihm O) ?_
      split
      ·exact Int.dvd_zero _
      ·rename_i hne
       rw [Nc,Nc]
       rcases Nat.lt_or_ge m i with h4 | h4
       ·exact Int.dvd_trans (Classical.byContradiction fun hx=>him m h4 hx) (Int.dvd_mul_right _ _)
       ·exact Int.dvd_trans (Classical.byContradiction fun hx=>hjm (i+j-m) O hx) (Int.dvd_mul_left _ _)
    have e1:Yv (fun k=>(ps s).c k*(ps g).c (i+j-k)) (i+j+1)=Yv (fun k=>if k=i then 0 else(ps s).c k*(ps g).c (i+j-k)) (i+j+1)+cf s i*cf g j:=by
     have e2:Yv (fun k=>(ps s).c k*(ps g).c (i+j-k)) (i+j+1)=Yv (fun k=>(if k=i then 0 else(ps s).c k*(ps g).c (i+j-k))+(if k=i then(ps s).c k*(ps g).c (i+j-k)else 0)) (i+j+1):=
      Yp fun k _=>by split<;>omega
     rw [e2,Du,Cd (f:=fun k=>if k=i then(ps s).c k*(ps g).c (i+j-k)else 0) (k:=i) O (fun q _ hq=>if_neg hq),if_pos rfl,Nc,Nc,show i+j-i=j by omega]
    rw [e1]at h3
    have h4:(p:Int)∣cf s i*cf g j:=by
     have h5:cf s i*cf g j=k*cf a (i+j)-Yv (fun k=>if k=i then 0 else(ps s).c k*(ps g).c (i+j-k)) (i+j+1):=O
     rw [h5]
     exact Int.dvd_sub (Int.dvd_trans hpk (Int.dvd_mul_right _ _)) (key _ (Nat.le_refl _))
    rcases hpp h4 with h5 | h5
    ·exact hi h5
    ·exact hj h5
   obtain⟨k',hk'⟩:=hpk
   have hp0:(p:Int)≠0:=O
   refine ih k'.natAbs ?_ k' (s.map (· / (p:Int))) rfl ?_ ?_
   ·rw [←hkn,hk',Int.natAbs_mul,Int.natAbs_natCast]
    have:0<k'.natAbs:=by
     rcases Nat.eq_zero_or_pos k'.natAbs with h6 | h6
     ·rw [show k'=0 by omega]at hk';simp at hk';exact absurd hk' hk
     ·exact h6
    have:=Nat.mul_le_mul_right k'.natAbs p2
    omega
   ·intro e;rw [e]at hk';simp at hk';exact hk hk'
   ·intro t
    refine Int.eq_of_mul_eq_mul_left hp0 ?_
    rw [←Int.mul_assoc,←hk',h,PS.mul_c,PS.mul_c,←Oo]
    refine Yp fun i _=>?_
    rw [Nc,Nc,Nc,Zgr _ _ O5,←Int.mul_assoc,Int.mul_ediv_cancel' (hs i)]
def Cx:List Int→Int→Int
 | [],_=>0
 | c :: r,t=>c+t*Cx r t
def sdv:List Int→Int→List Int
 | [],_=>[]
 | [_],_=>[]
 | _ :: c :: r,t=>Cx (c :: r) t :: sdv (c :: r) t
theorem Zd6:∀(u:List Int) (t:Int),(sdv u t).length=u.length-1
 | [],_=>rfl
 | [_],_=>rfl
 | _ :: c :: r,t=>by unfold sdv;rw [List.length_cons,Zd6 (c :: r) t];simp
theorem Zor:∀(u:List Int) (t x:Int),Cx u x=Cx u t+(x-t)*Cx (sdv u t) x
 | [],t,x=>by simp [Cx,sdv]
 | [c],t,x=>by simp [Cx,sdv]
 | a :: c :: r,t,x=>by
  have ih:=Zor (c :: r) t x
  show a+x*Cx (c :: r) x=a+t*Cx (c :: r) t+(x-t)*(Cx (c :: r) t+x*Cx (sdv (c :: r) t) x)
  rw [ih]
  generalize Cx (c :: r) t=A
  generalize Cx (sdv (c :: r) t) x=B
  grind
theorem Gv(a:Int)(u:List Int)(i:Nat):cf (a :: u) i=if i=0 then a else cf u (i-1):=by
 cases i with
 | zero=>rfl
 | succ i=>simp [cf]
theorem Za2(i:Nat):cf [] i=0:=Yd (Nat.zero_le _)
theorem Zuf:∀(u:List Int) (t:Int) (i:Nat),cf u (i+1)=cf (sdv u t) i-t*cf (sdv u t) (i+1)
 | [],t,i=>by unfold sdv;simp [Za2]
 | [c],t,i=>by unfold sdv;rw [Gv,if_neg O];simp [Za2]
 | a :: c :: r,t,i=>by
  unfold sdv
  rw [Gv,if_neg O,Nat.add_sub_cancel]
  cases i with
  | zero=>
   rw [Gv,if_pos rfl,Gv,if_pos rfl,Gv,if_neg O]
   show c=Cx (c :: r) t-t*cf (sdv (c :: r) t) 0
   match r with
   | []=>simp [Cx,sdv,cf]
   | d :: r'=>unfold sdv;rw [Gv,if_pos rfl];show c=(c+t*Cx (d :: r') t)-_;omega
  | succ i=>
   rw [Gv _ (sdv _ _) (i+1),if_neg O,Gv _ (sdv _ _),if_neg O,Nat.add_sub_cancel,Nat.add_sub_cancel]
   exact Zuf (c :: r) t i
theorem Zxv:∀(u:List Int) (t:Int),cf u 0=Cx u t-t*cf (sdv u t) 0
 | [],t=>by simp [Cx,sdv,cf]
 | [c],t=>by simp [Cx,sdv,cf]
 | a :: c :: r,t=>by
  unfold sdv
  rw [Gv,if_pos rfl,Gv,if_pos rfl]
  show a=(a+t*Cx (c :: r) t)-t*Cx (c :: r) t
  omega
theorem Zi7:∀(n:Nat) (u:List Int) (R:List Int),u.length=n→(∃i,cf u i≠0)→R.Nodup→(∀t∈R,Cx u t=0)→R.length<n
 | 0,u,R,hn,hu,_,_=>by
  obtain⟨i,hi⟩:=hu
  rw [List.eq_nil_of_length_eq_zero hn,Za2]at hi
  exact absurd rfl hi
 | n+1,u,[],hn,hu,_,_=>O5
 | n+1,u,t :: R,hn,hu,hd,hR=>by
  have h0:=hR t (List.mem_cons_self ..)
  have hl:=Zd6 u t
  have hw:∃i,cf (sdv u t) i≠0:=Classical.byContradiction fun hx=>by
   have hz:∀i,cf (sdv u t) i=0:=fun i=>Classical.byContradiction fun hy=>hx ⟨i,hy⟩
   obtain⟨i,hi⟩:=hu
   cases i with
   | zero=>rw [Zxv u t,h0,hz]at hi;simp at hi
   | succ i=>rw [Zuf u t,hz,hz]at hi;simp at hi
  have:=Zi7 n (sdv u t) R O hw (List.nodup_cons.1 hd).2 fun x hx=>by
   have h1:=hR x (List.mem_cons_of_mem _ hx)
   rw [Zor u t x,h0,Int.zero_add]at h1
   rcases Int.mul_eq_zero.1 h1 with h2 | h2
   ·exfalso
    have:x=t:=O
    subst this
    exact(List.nodup_cons.1 hd).1 hx
   ·exact h2
  simp;omega
def kk:Nat→Nat
 | 0=>0
 | d+1=>30*kk d+1
theorem Zwy:∀(p:List Int) (t:Int),Cx p t=Yv (fun i=>cf p i*t^i) p.length
 | [],t=>rfl
 | c :: r,t=>by
  rw [List.length_cons,Ky,Cx,Zwy r t,←Oo,Int.pow_zero,Int.mul_one]
  congr 1
  exact Yp fun i _=>by
   rw [Gv,if_neg O,Nat.add_sub_cancel,Int.pow_succ];grind
theorem Zkk(p:List Int)(t:Int):Cx p t=pev p t 1:=by
 rw [Zwy];unfold pev
 exact Yp fun i _=>by rw [Int.one_pow,Int.mul_one]
def pts:List Int:=[0,1,2,3,4,5,6,7,8,9,10,11,12,13,14]
theorem Zki{α:Type}(f:α→Bool):∀l:List α,(l.filter f).length+(l.filter fun x=>!f x).length=l.length
 | []=>rfl
 | x :: l=>by
  have ih:=Zki f l
  cases h:f x<;>simp [h]<;>omega
end Go.Sky

