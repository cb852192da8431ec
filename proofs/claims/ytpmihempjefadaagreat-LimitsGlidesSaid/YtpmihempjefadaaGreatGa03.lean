/- Rules, arithmetic and contracts: part 4. No conditions but those that each theorem names. -/
import Derived.Test.YtpmihempjefadaaGreatGa02
import Derived.Test.YtpmihempjefadaaGreatProg
import Derived.Test.YtpmihempjefadaaGreatRows
import Derived.WalkKit
import Derived.ProofKit
import Derived.OpenShut
import Derived.ShutString
import Derived.ChangeOld
import Derived.Deep.Slices
import Derived.Lib.SmallJoins
set_option linter.all false
namespace Go.Sky
open Go.Proofs
def pU:Enc Tryz.prog 125 1 Og:=Enc.flat Tryz.sizeOf125 Tryz.isAgg125 (λ_=>rfl)
def pB:Enc Tryz.prog 5 1 Zfb:=Enc.flat Tryz.sizeOf5 Tryz.isAgg5 (λ_=>rfl)
def pN:Enc Tryz.prog 3 1 Da:=Enc.flat Tryz.sizeOf3 Tryz.isAgg3 (λ_=>rfl)
def pZ:Enc Tryz.prog 3 1 Ys:=Enc.flat Tryz.sizeOf3 Tryz.isAgg3 (λ_=>rfl)
def Zej(args:Array Value)(w:World):(callFunc 326 args).run Tryz.prog w=((add64Entry args).run Tryz.prog w).andThen λv w'=> .ok (.value v) w':=
 run_callFunc_extern Tryz.func326 O6 O6 O6 O6 args w
def Zuy(args:Array Value)(w:World):(callFunc 327 args).run Tryz.prog w=((Zbf args).run Tryz.prog w).andThen λv w'=> .ok (.value v) w':=
 run_callFunc_extern Tryz.func327 O6 O6 O6 O6 args w
end Go.Sky
theorem Go.Proofs.Tryz.ti125:Go.Proofs.Tryz.prog.info? 125=some Go.Proofs.Tryz.t125:=Go.Sky.O6
namespace Go.Sky
open Go.Proofs
end Go.Sky
theorem Go.Proofs.Tryz.ti5:Go.Proofs.Tryz.prog.info? 5=some Go.Proofs.Tryz.t5:=Go.Sky.O6
namespace Go.Sky
open Go.Proofs
end Go.Sky
theorem Go.Proofs.Tryz.ti3:Go.Proofs.Tryz.prog.info? 3=some Go.Proofs.Tryz.t3:=Go.Sky.O6
namespace Go.Sky
open Go.Proofs
variable{a b:Bool}
def pW:Enc Tryz.prog 176 2 Zqt:=Enc.agg O3 Tryz.sizeOf176 Tryz.isAgg176 (λx=>⟨[.bool x.1,.string x.2],rfl,rfl,O11⟩)
def pV:Enc Tryz.prog 176 2 wv:=Enc.agg O3 Tryz.sizeOf176 Tryz.isAgg176 (λx=>⟨[.bool (decide (x<0)),.string (Yw x.natAbs)],rfl,rfl,O11⟩)
def pI:Enc Tryz.prog 245 2 Zqu:=Enc.agg O3 Tryz.sizeOf245 Tryz.isAgg245 (λx=>⟨[.bool (decide (x.1<0)),Lh x.2],rfl,rfl,O11⟩)
def pS{α:Type} : Enc Tryz.prog 133 1 (Iy (α:=α)):=Enc.flat Tryz.sizeOf133 Tryz.isAgg133 (λ_=>rfl)
def pY:Enc Tryz.prog 426 8 iq:=Enc.agg O3 Tryz.sizeOf426 Tryz.isAgg426 (λx=>⟨[.bool (decide (x.1.1<0)),.string (Yw x.1.1.natAbs),.bool (decide (x.1.2<0)),.string (Yw x.1.2.natAbs),.bool (decide (x.2.1<0)),.string (Yw x.2.1.natAbs),.bool (decide (x.2.2<0)),.string (Yw x.2.2.natAbs)],rfl,rfl,O11⟩)
def pQ:Enc Tryz.prog 209 4 rq:=Enc.agg O3 Tryz.sizeOf209 Tryz.isAgg209 (λx=>⟨[.bool (decide (x.1<0)),.string (Yw x.1.natAbs),.bool (decide (x.2<0)),.string (Yw x.2.natAbs)],rfl,rfl,O11⟩)
def pR:Enc Tryz.prog 209 4 encQ:=Enc.agg O3 Tryz.sizeOf209 Tryz.isAgg209 (λx=>⟨[.bool x.1.1,.string x.1.2,.bool x.2.1,.string x.2.2],rfl,rfl,O11⟩)
def sh176:Tryz.prog.stoodInHeld 176=false:=O6
def sh209:Tryz.prog.stoodInHeld 209=false:=O6
def eg176:Tryz.prog.eqGuardType Tryz.prog.depth 176=false:=O6
theorem Zta(d:Nat)(w:World)(a:Bool)(s:ByteArray)(b:Bool)(t:ByteArray):(Op.equalIn (d+2) 176 (.agg #[.bool a,.string s]) (.agg #[.bool b,.string t])).run Tryz.prog w= .ok (eqW a s b t) w:=by
 have c:Tryz.prog.underlying 176=some (.struct (Tryz.prog.fieldsOf 176)):=by unfold Program.fieldsOf;rw [Tryz.underlying176]
 rw [run_equalIn_agg w (d+1) 176 _ _ c sh176];unfold Program.fieldsOf;rw [Tryz.underlying176];simp [Op.eqFields,part,Tryz.isAgg4,Tryz.isAgg9,run_equalIn_bool' _ _ _ _ _ Tryz.underlying4,run_equalIn_string _ _ _ _ _ Tryz.underlying9];unfold eqW;cases hab:(a == b)
 .simp_all
 .by_cases h:s.toList=t.toList<;>simp_all
theorem eql176(w:World){s:ByteArray}{t:ByteArray}:(binOp .eql 176 (.agg #[.bool a,.string s]) (.agg #[.bool b,.string t])).run Tryz.prog w= .ok (.bool (eqW a s b t)) w:=by rw [run_eql_struct,Zta];rfl
theorem neq176(w:World){s:ByteArray}{t:ByteArray}:(binOp .neq 176 (.agg #[.bool a,.string s]) (.agg #[.bool b,.string t])).run Tryz.prog w= .ok (.bool (!eqW a s b t)) w:=by rw [run_neq_struct,Zta];rfl
theorem in209(d:Nat)(w:World)(a:Bool)(s:ByteArray)(c:Bool)(f:ByteArray)(b:Bool)(t:ByteArray)(e:Bool)(t2:ByteArray):(Op.equalIn (d+3) 209 (.agg #[.bool a,.string s,.bool c,.string f]) (.agg #[.bool b,.string t,.bool e,.string t2])).run Tryz.prog w= .ok (eqW a s b t && eqW c f e t2) w:=by
 have g:Tryz.prog.underlying 209=some (.struct (Tryz.prog.fieldsOf 209)):=by unfold Program.fieldsOf;rw [Tryz.underlying209]
 rw [run_equalIn_agg w (d+2) 209 _ _ g sh209];unfold Program.fieldsOf;rw [Tryz.underlying209];simp [Op.eqFields,part,Tryz.isAgg176,Tryz.sizeOf176,Zta];cases hab:eqW a s b t<;>cases hab2:eqW c f e t2<;>simp_all
end Go.Sky
theorem Go.Proofs.Tryz.ti23:Go.Proofs.Tryz.prog.info? 23=some Go.Proofs.Tryz.t23:=Go.Sky.O6
namespace Go.Sky
open Go.Proofs
end Go.Sky
theorem Go.Proofs.Tryz.ti31:Go.Proofs.Tryz.prog.info? 31=some Go.Proofs.Tryz.t31:=Go.Sky.O6
namespace Go.Sky
open Go.Proofs
end Go.Sky
theorem Go.Proofs.Tryz.ti40:Go.Proofs.Tryz.prog.info? 40=some Go.Proofs.Tryz.t40:=Go.Sky.O6
namespace Go.Sky
open Go.Proofs
end Go.Sky
theorem Go.Proofs.Tryz.ti133:Go.Proofs.Tryz.prog.info? 133=some Go.Proofs.Tryz.t133:=Go.Sky.O6
namespace Go.Sky
open Go.Proofs
end Go.Sky
theorem Go.Proofs.Tryz.ti137:Go.Proofs.Tryz.prog.info? 137=some Go.Proofs.Tryz.t137:=Go.Sky.O6
namespace Go.Sky
open Go.Proofs
end Go.Sky
theorem Go.Proofs.Tryz.ti176:Go.Proofs.Tryz.prog.info? 176=some Go.Proofs.Tryz.t176:=Go.Sky.O6
namespace Go.Sky
open Go.Proofs
end Go.Sky
theorem Go.Proofs.Tryz.ti209:Go.Proofs.Tryz.prog.info? 209=some Go.Proofs.Tryz.t209:=Go.Sky.O6
namespace Go.Sky
open Go.Proofs
end Go.Sky
theorem Go.Proofs.Tryz.ti245:Go.Proofs.Tryz.prog.info? 245=some Go.Proofs.Tryz.t245:=Go.Sky.O6
namespace Go.Sky
open Go.Proofs
def b23_:Tryz.prog.built 23 []=some #[.int .i64 0,.int .i64 0,.int .i64 0]:=by refine Yr Tryz.ti23 Tryz.underlying23 rfl (pl:=[(0,1),(1,1),(2,1)]) (by simp [Tryz.ti3];try decide) ?_;simp [Instr.fill,show(Value.agg #[.int .i64 0,.int .i64 0,.int .i64 0]).cells=#[.int .i64 0,.int .i64 0,.int .i64 0]from rfl]
def b23_01{a b:Value}(c:a.oneCell'=true)(d:b.oneCell'=true):Tryz.prog.built 23 [(0,a),(1,b)]=some #[a,b,.int .i64 0]:=by refine Yr Tryz.ti23 Tryz.underlying23 rfl (pl:=[(0,1),(1,1),(2,1)]) (by simp [Tryz.ti3];try decide) ?_;simp [Instr.fill,Zq c,Zq d,show(Value.agg #[.int .i64 0,.int .i64 0,.int .i64 0]).cells=#[.int .i64 0,.int .i64 0,.int .i64 0]from rfl]
def Yfp{a b c:Value}(d:a.oneCell'=true)(e:b.oneCell'=true)(f:c.oneCell'=true):Tryz.prog.built 23 [(0,a),(1,b),(2,c)]=some #[a,b,c]:=by refine Yr Tryz.ti23 Tryz.underlying23 rfl (pl:=[(0,1),(1,1),(2,1)]) (by simp [Tryz.ti3];try decide) ?_;simp [Instr.fill,Zq d,Zq e,Zq f,show(Value.agg #[.int .i64 0,.int .i64 0,.int .i64 0]).cells=#[.int .i64 0,.int .i64 0,.int .i64 0]from rfl]
end Go.Sky
theorem Go.Proofs.Tryz.ti25:Go.Proofs.Tryz.prog.info? 25=some Go.Proofs.Tryz.t25:=Go.Sky.O6
namespace Go.Sky
open Go.Proofs
def b25_:Tryz.prog.built 25 []=some #[.int .i64 0,.int .i64 0]:=by refine Yr Tryz.ti25 Tryz.underlying25 rfl (pl:=[(0,1),(1,1)]) (by simp [Tryz.ti3];try decide) ?_;simp [Instr.fill,show(Value.agg #[.int .i64 0,.int .i64 0]).cells=#[.int .i64 0,.int .i64 0]from rfl]
def b25_0{a:Value}(b:a.oneCell'=true):Tryz.prog.built 25 [(0,a)]=some #[a,.int .i64 0]:=by refine Yr Tryz.ti25 Tryz.underlying25 rfl (pl:=[(0,1),(1,1)]) (by simp [Tryz.ti3];try decide) ?_;simp [Instr.fill,Zq b,show(Value.agg #[.int .i64 0,.int .i64 0]).cells=#[.int .i64 0,.int .i64 0]from rfl]
def Zl3{a b:Value}(c:a.oneCell'=true)(d:b.oneCell'=true):Tryz.prog.built 25 [(0,a),(1,b)]=some #[a,b]:=by refine Yr Tryz.ti25 Tryz.underlying25 rfl (pl:=[(0,1),(1,1)]) (by simp [Tryz.ti3];try decide) ?_;simp [Instr.fill,Zq c,Zq d,show(Value.agg #[.int .i64 0,.int .i64 0]).cells=#[.int .i64 0,.int .i64 0]from rfl]
end Go.Sky
theorem Go.Proofs.Tryz.ti4:Go.Proofs.Tryz.prog.info? 4=some Go.Proofs.Tryz.t4:=Go.Sky.O6
namespace Go.Sky
open Go.Proofs
end Go.Sky
theorem Go.Proofs.Tryz.ti127:Go.Proofs.Tryz.prog.info? 127=some Go.Proofs.Tryz.t127:=Go.Sky.O6
namespace Go.Sky
open Go.Proofs
def Zup{a b:Value}(c:a.oneCell'=true)(d:b.oneCell'=true):Tryz.prog.built 127 [(0,a),(1,b)]=some #[a,b]:=by refine Yr Tryz.ti127 Tryz.underlying127 rfl (pl:=[(0,1),(1,1)]) (by simp [Tryz.ti125];try decide) ?_;simp [Instr.fill,Zq c,Zq d,show(Value.agg #[.int .u64 0,.int .u64 0]).cells=#[.int .u64 0,.int .u64 0]from rfl]
def Ze2{a b c d e f:Value}(g:a.oneCell'=true)(h:b.oneCell'=true)(i:c.oneCell'=true)(j:d.oneCell'=true)(k:e.oneCell'=true)(l:f.oneCell'=true):Tryz.prog.built 137 [(0,a),(1,b),(2,c),(3,d),(4,e),(5,f)]=some #[a,b,c,d,e,f]:=by refine Yr Tryz.ti137 Tryz.underlying137 rfl (pl:=[(0,1),(1,1),(2,1),(3,1),(4,1),(5,1)]) (by simp [Tryz.ti3,Tryz.ti40];try decide) ?_;simp [Instr.fill,Zq g,Zq h,Zq i,Zq j,Zq k,Zq l,show(Value.agg #[.int .i64 0,.int .i64 0,.int .i64 0,.slice none 0 0,.slice none 0 0,.slice none 0 0]).cells=#[.int .i64 0,.int .i64 0,.int .i64 0,.slice none 0 0,.slice none 0 0,.slice none 0 0]from rfl]
end Go.Sky
theorem Go.Proofs.Tryz.ti142:Go.Proofs.Tryz.prog.info? 142=some Go.Proofs.Tryz.t142:=Go.Sky.O6
namespace Go.Sky
open Go.Proofs
end Go.Sky
theorem Go.Proofs.Tryz.ti140:Go.Proofs.Tryz.prog.info? 140=some Go.Proofs.Tryz.t140:=Go.Sky.O6
namespace Go.Sky
open Go.Proofs
def b142_:Tryz.prog.built 142 []=some #[.int .i64 0,.int .i64 0]:=by refine Yr Tryz.ti142 Tryz.underlying142 rfl (pl:=[(0,1),(1,1)]) (by simp [Tryz.ti140,Tryz.ti3];try decide) ?_;simp [Instr.fill,show(Value.agg #[.int .i64 0,.int .i64 0]).cells=#[.int .i64 0,.int .i64 0]from rfl]
def Zl5{a b:Value}(c:a.oneCell'=true)(d:b.oneCell'=true):Tryz.prog.built 142 [(0,a),(1,b)]=some #[a,b]:=by refine Yr Tryz.ti142 Tryz.underlying142 rfl (pl:=[(0,1),(1,1)]) (by simp [Tryz.ti140,Tryz.ti3];try decide) ?_;simp [Instr.fill,Zq c,Zq d,show(Value.agg #[.int .i64 0,.int .i64 0]).cells=#[.int .i64 0,.int .i64 0]from rfl]
def b142_1{a:Value}(b:a.oneCell'=true):Tryz.prog.built 142 [(1,a)]=some #[.int .i64 0,a]:=by refine Yr Tryz.ti142 Tryz.underlying142 rfl (pl:=[(0,1),(1,1)]) (by simp [Tryz.ti140,Tryz.ti3];try decide) ?_;simp [Instr.fill,Zq b,show(Value.agg #[.int .i64 0,.int .i64 0]).cells=#[.int .i64 0,.int .i64 0]from rfl]
end Go.Sky
theorem Go.Proofs.Tryz.ti9:Go.Proofs.Tryz.prog.info? 9=some Go.Proofs.Tryz.t9:=Go.Sky.O6
namespace Go.Sky
open Go.Proofs
def Yby:Tryz.prog.built 176 []=some #[.bool false,.string ⟨#[]⟩]:=by refine Yr Tryz.ti176 Tryz.underlying176 rfl (pl:=[(0,1),(1,1)]) (by simp [Tryz.ti4,Tryz.ti9];try decide) ?_;simp [Instr.fill,show(Value.agg #[.bool false,.string ⟨#[]⟩]).cells=#[.bool false,.string ⟨#[]⟩]from rfl]
def Zl4{a b:Value}(c:a.oneCell'=true)(d:b.oneCell'=true):Tryz.prog.built 176 [(0,a),(1,b)]=some #[a,b]:=by refine Yr Tryz.ti176 Tryz.underlying176 rfl (pl:=[(0,1),(1,1)]) (by simp [Tryz.ti4,Tryz.ti9];try decide) ?_;simp [Instr.fill,Zq c,Zq d,show(Value.agg #[.bool false,.string ⟨#[]⟩]).cells=#[.bool false,.string ⟨#[]⟩]from rfl]
end Go.Sky
theorem Go.Proofs.Tryz.ti179:Go.Proofs.Tryz.prog.info? 179=some Go.Proofs.Tryz.t179:=Go.Sky.O6
namespace Go.Sky
open Go.Proofs
variable{c0_0 c0_1 c1_0 c1_1:Value}
theorem Zwi{a b c d:Value} : Tryz.prog.built 179 [(0,.agg #[c0_0,c0_1]),(1,.agg #[c1_0,c1_1]),(2,.agg #[a,b]),(3,.agg #[c,d])]=some #[c0_0,c0_1,c1_0,c1_1,a,b,c,d]:=by refine Yr Tryz.ti179 Tryz.underlying179 rfl (pl:=[(0,2),(2,2),(4,2),(6,2)]) (by simp [Tryz.ti176];try decide) ?_;simp [Instr.fill,show(Value.agg #[c0_0,c0_1]).cells=#[c0_0,c0_1]from rfl,show(Value.agg #[c1_0,c1_1]).cells=#[c1_0,c1_1]from rfl,show(Value.agg #[a,b]).cells=#[a,b]from rfl,show(Value.agg #[c,d]).cells=#[c,d]from rfl,show(Value.agg #[.bool false,.string ⟨#[]⟩,.bool false,.string ⟨#[]⟩,.bool false,.string ⟨#[]⟩,.bool false,.string ⟨#[]⟩]).cells=#[.bool false,.string ⟨#[]⟩,.bool false,.string ⟨#[]⟩,.bool false,.string ⟨#[]⟩,.bool false,.string ⟨#[]⟩]from rfl]
theorem Zpb:Tryz.prog.built 209 []=some #[.bool false,.string ⟨#[]⟩,.bool false,.string ⟨#[]⟩]:=by refine Yr Tryz.ti209 Tryz.underlying209 rfl (pl:=[(0,2),(2,2)]) (by simp [Tryz.ti176];try decide) ?_;simp [Instr.fill,show(Value.agg #[.bool false,.string ⟨#[]⟩,.bool false,.string ⟨#[]⟩]).cells=#[.bool false,.string ⟨#[]⟩,.bool false,.string ⟨#[]⟩]from rfl]
theorem Zdk : Tryz.prog.built 209 [(0,.agg #[c0_0,c0_1]),(1,.agg #[c1_0,c1_1])]=some #[c0_0,c0_1,c1_0,c1_1]:=by refine Yr Tryz.ti209 Tryz.underlying209 rfl (pl:=[(0,2),(2,2)]) (by simp [Tryz.ti176];try decide) ?_;simp [Instr.fill,show(Value.agg #[c0_0,c0_1]).cells=#[c0_0,c0_1]from rfl,show(Value.agg #[c1_0,c1_1]).cells=#[c1_0,c1_1]from rfl,show(Value.agg #[.bool false,.string ⟨#[]⟩,.bool false,.string ⟨#[]⟩]).cells=#[.bool false,.string ⟨#[]⟩,.bool false,.string ⟨#[]⟩]from rfl]
end Go.Sky
theorem Go.Proofs.Tryz.ti220:Go.Proofs.Tryz.prog.info? 220=some Go.Proofs.Tryz.t220:=Go.Sky.O6
namespace Go.Sky
open Go.Proofs
def Zpa{a b c:Value}(d:a.oneCell'=true)(e:b.oneCell'=true)(f:c.oneCell'=true):Tryz.prog.built 220 [(0,a),(1,b),(2,c)]=some #[a,b,c]:=by refine Yr Tryz.ti220 Tryz.underlying220 rfl (pl:=[(0,1),(1,1),(2,1)]) (by simp [Tryz.ti140,Tryz.ti3];try decide) ?_;simp [Instr.fill,Zq d,Zq e,Zq f,show(Value.agg #[.int .i64 0,.int .i64 0,.int .i64 0]).cells=#[.int .i64 0,.int .i64 0,.int .i64 0]from rfl]
end Go.Sky
theorem Go.Proofs.Tryz.ti233:Go.Proofs.Tryz.prog.info? 233=some Go.Proofs.Tryz.t233:=Go.Sky.O6
namespace Go.Sky
open Go.Proofs
def Zuo{d a b c:Value}(e:d.oneCell'=true):Tryz.prog.built 233 [(0,d),(1,.agg #[a,b,c])]=some #[d,a,b,c]:=by refine Yr Tryz.ti233 Tryz.underlying233 rfl (pl:=[(0,1),(1,3)]) (by simp [Tryz.ti220,Tryz.ti31];try decide) ?_;simp [Instr.fill,Zq e,show(Value.agg #[a,b,c]).cells=#[a,b,c]from rfl,show(Value.agg #[.slice none 0 0,.int .i64 0,.int .i64 0,.int .i64 0]).cells=#[.slice none 0 0,.int .i64 0,.int .i64 0,.int .i64 0]from rfl]
def b245_:Tryz.prog.built 245 []=some #[.bool false,.slice none 0 0]:=by refine Yr Tryz.ti245 Tryz.underlying245 rfl (pl:=[(0,1),(1,1)]) (by simp [Tryz.ti4,Tryz.ti40];try decide) ?_;simp [Instr.fill,show(Value.agg #[.bool false,.slice none 0 0]).cells=#[.bool false,.slice none 0 0]from rfl]
def Zun{a b:Value}(c:a.oneCell'=true)(d:b.oneCell'=true):Tryz.prog.built 245 [(0,a),(1,b)]=some #[a,b]:=by refine Yr Tryz.ti245 Tryz.underlying245 rfl (pl:=[(0,1),(1,1)]) (by simp [Tryz.ti4,Tryz.ti40];try decide) ?_;simp [Instr.fill,Zq c,Zq d,show(Value.agg #[.bool false,.slice none 0 0]).cells=#[.bool false,.slice none 0 0]from rfl]
end Go.Sky
theorem Go.Proofs.Tryz.ti272:Go.Proofs.Tryz.prog.info? 272=some Go.Proofs.Tryz.t272:=Go.Sky.O6
namespace Go.Sky
open Go.Proofs
end Go.Sky
theorem Go.Proofs.Tryz.ti269:Go.Proofs.Tryz.prog.info? 269=some Go.Proofs.Tryz.t269:=Go.Sky.O6
namespace Go.Sky
open Go.Proofs
def Mb{a b:Value}(c:a.oneCell'=true)(d:b.oneCell'=true):Tryz.prog.built 272 [(0,a),(1,b)]=some #[a,b]:=by refine Yr Tryz.ti272 Tryz.underlying272 rfl (pl:=[(0,1),(1,1)]) (by simp [Tryz.ti269,Tryz.ti4];try decide) ?_;simp [Instr.fill,Zq c,Zq d,show(Value.agg #[.bool false,.slice none 0 0]).cells=#[.bool false,.slice none 0 0]from rfl]
end Go.Sky
theorem Go.Proofs.Tryz.ti426:Go.Proofs.Tryz.prog.info? 426=some Go.Proofs.Tryz.t426:=Go.Sky.O6
namespace Go.Sky
open Go.Proofs
variable{N:Nat}{sc:Nat->Prop}{o:Oper}{env:Xu}{r:Value}
theorem Yfo{a b c d e f g h:Value} : Tryz.prog.built 426 [(0,.agg #[a,b,c,d]),(1,.agg #[e,f,g,h])]=some #[a,b,c,d,e,f,g,h]:=by refine Yr Tryz.ti426 Tryz.underlying426 rfl (pl:=[(0,4),(4,4)]) (by simp [Tryz.ti209];try decide) ?_;simp [Instr.fill,show(Value.agg #[a,b,c,d]).cells=#[a,b,c,d]from rfl,show(Value.agg #[e,f,g,h]).cells=#[e,f,g,h]from rfl,show(Value.agg #[.bool false,.string ⟨#[]⟩,.bool false,.string ⟨#[]⟩,.bool false,.string ⟨#[]⟩,.bool false,.string ⟨#[]⟩]).cells=#[.bool false,.string ⟨#[]⟩,.bool false,.string ⟨#[]⟩,.bool false,.string ⟨#[]⟩,.bool false,.string ⟨#[]⟩]from rfl]
def J{α:Sort _}{a:α} : a=a:=rfl
abbrev Yx (P:Program) (f:FuncId) (a:Array Value) (p:List Pc) (v:Value):Prop:=Cal P f a p false (G:=Unit) (λ_=>True) (λ_=>v) (λ_=>[])
abbrev rX (x y:Int):Value:= .agg #[.bool (decide (x<0)),.string (Yw x.natAbs),.bool (decide (y<0)),.string (Yw y.natAbs)]
def vB{a b:Bool}(h:a=b):Value.bool a=Value.bool b:=aP _ h
def dF{P:Program}{H:Hp}(h:Ni P N sc o env H r)(e:r= .bool false):Ni P N sc o env H (.bool false):=Of _ h e
def dT{P:Program}{H:Hp}(h:Ni P N sc o env H r)(e:r= .bool true):Ni P N sc o env H (.bool true):=Of _ h e
def K1{t0:Sort _}{a:t0} : a=a/\True:=⟨rfl,aA⟩
def K2{t0:Sort _}{a:t0}{t1:Sort _}{b:t1} : a=a/\b=b/\True:=⟨rfl,rfl,aA⟩
def K3{t0:Sort _}{a:t0}{t1:Sort _}{b:t1}{t2:Sort _}{c:t2} : a=a/\b=b/\c=c/\True:=⟨rfl,rfl,rfl,aA⟩
def K4{t0:Sort _}{a:t0}{t1:Sort _}{b:t1}{t2:Sort _}{c:t2}{t3:Sort _}{d:t3} : a=a/\b=b/\c=c/\d=d/\True:=⟨rfl,rfl,rfl,rfl,aA⟩
def K6{t0:Sort _}{a:t0}{t1:Sort _}{b:t1}{t2:Sort _}{c:t2}{t3:Sort _}{d:t3}{t4:Sort _}{e:t4}{t5:Sort _}{f:t5} : a=a/\b=b/\c=c/\d=d/\e=e/\f=f/\True:=⟨rfl,rfl,rfl,rfl,rfl,rfl,aA⟩
def K8{t0:Sort _}{a:t0}{t1:Sort _}{b:t1}{t2:Sort _}{c:t2}{t3:Sort _}{d:t3}{t4:Sort _}{e:t4}{t5:Sort _}{f:t5}{t6:Sort _}{g:t6}{t7:Sort _}{h:t7} : a=a/\b=b/\c=c/\d=d/\e=e/\f=f/\g=g/\h=h/\True:=⟨rfl,rfl,rfl,rfl,rfl,rfl,rfl,rfl,aA⟩
def K10{t0:Sort _}{a:t0}{t1:Sort _}{b:t1}{t2:Sort _}{c:t2}{t3:Sort _}{d:t3}{t4:Sort _}{e:t4}{t5:Sort _}{f:t5}{t6:Sort _}{g:t6}{t7:Sort _}{h:t7}{t8:Sort _}{i:t8}{t9:Sort _}{j:t9} : a=a/\b=b/\c=c/\d=d/\e=e/\f=f/\g=g/\h=h/\i=i/\j=j/\True:=⟨rfl,rfl,rfl,rfl,rfl,rfl,rfl,rfl,rfl,rfl,aA⟩
def K12{t0:Sort _}{c:t0}{t1:Sort _}{d:t1}{t2:Sort _}{e:t2}{t3:Sort _}{f:t3}{t4:Sort _}{g:t4}{t5:Sort _}{h:t5}{t6:Sort _}{i:t6}{t7:Sort _}{j:t7}{t8:Sort _}{k:t8}{t9:Sort _}{l:t9}{t10:Sort _}{a:t10}{t11:Sort _}{b:t11} : c=c/\d=d/\e=e/\f=f/\g=g/\h=h/\i=i/\j=j/\k=k/\l=l/\a=a/\b=b/\True:=⟨rfl,rfl,rfl,rfl,rfl,rfl,rfl,rfl,rfl,rfl,rfl,rfl,aA⟩
def K14{t0:Sort _}{e:t0}{t1:Sort _}{f:t1}{t2:Sort _}{g:t2}{t3:Sort _}{h:t3}{t4:Sort _}{i:t4}{t5:Sort _}{j:t5}{t6:Sort _}{k:t6}{t7:Sort _}{l:t7}{t8:Sort _}{m:t8}{t9:Sort _}{n:t9}{t10:Sort _}{a:t10}{t11:Sort _}{b:t11}{t12:Sort _}{c:t12}{t13:Sort _}{d:t13} : e=e/\f=f/\g=g/\h=h/\i=i/\j=j/\k=k/\l=l/\m=m/\n=n/\a=a/\b=b/\c=c/\d=d/\True:=⟨rfl,rfl,rfl,rfl,rfl,rfl,rfl,rfl,rfl,rfl,rfl,rfl,rfl,rfl,aA⟩
def cF294:=@Go.Proofs.Tryz.call294
def iA3:=@Go.Proofs.Tryz.isAgg3
def Nx:=@Go.Proofs.Tryz.sizeOf125
def Zrf:=@Go.Proofs.Tryz.sizeOf137
def Xz:=@Go.Proofs.Tryz.sizeOf176
def zT245:=@Go.Proofs.Tryz.sizeOf245
def zT3:=@Go.Proofs.Tryz.sizeOf3
def Bg:=@Go.Proofs.Tryz.sizeOf320
def Yce:=@Go.Proofs.Tryz.sizeOf40
def De:=@Go.Proofs.Tryz.underlying125
def uT132:=@Go.Proofs.Tryz.underlying132
def Qt:=@Go.Proofs.Tryz.underlying133
def uT137:=@Go.Proofs.Tryz.underlying137
def Zil:=@Go.Proofs.Tryz.underlying182
def uT224:=@Go.Proofs.Tryz.underlying224
def Zrj:=@Go.Proofs.Tryz.underlying225
def Qi:=@Go.Proofs.Tryz.underlying269
def uT3:=@Go.Proofs.Tryz.underlying3
def Zuw:=@Go.Proofs.Tryz.underlying31
def Zwy:=@Go.Proofs.Tryz.underlying319
def Zf0:=@Go.Proofs.Tryz.underlying365
def Zik:=@Go.Proofs.Tryz.underlying366
def Zen:=@Go.Proofs.Tryz.underlying384
def Oa:=@Go.Proofs.Tryz.underlying40
def Zij:=@Go.Proofs.Tryz.underlying418
def uT5:=@Go.Proofs.Tryz.underlying5
def uT9:=@Go.Proofs.Tryz.underlying9
open Go.ChangeShapes Go.WideShapes Go.ChangeAt Go.RowKit Go.Joins Go.Deep
variable {P:Program} {W:World} {H:Type} {enc:TypeId×Value->H}
end Go.Sky
namespace Go.Sky
abbrev qT (z:SL×List (Int×SL)):Pc:=pp (Lh z.1) z.2
abbrev T0:SL×List (Int×SL):=((none,0,0),[])
abbrev intsT (zs:List (SL×List (Int×SL))):List (List Int):=zs.map λz=>Gl z.2
set_option maxRecDepth 20000
def Zv5(zs:List (Int×SL))(z:Int×SL):Gl (zs ++ [z])=Gl zs ++ [z.1]:=by simp [Gl]
def Co(p:List Int){c:Int}:(Yc p c).length<=p.length:=by unfold Yc;have:=Ic (p.map (· * c));rwa [bX]at this
def Nt{y:Int}(h:y≠0):∀n:Nat,y^n≠0
 | 0=>by rw [dE];omega
 | n+1=>by rw [eR];exact bA (Nt h n) h
def Zqc(xs ys:List Int):xs.map wr=ys.map wr↔xs=ys:=by refine⟨λh=>?_,λh=>by rw [h]⟩;exact List.map_inj_right (λx y h=>Zwo (aP Prod.fst h) (aP Prod.snd h)) |>.1 h
def Cal.imp2{P:Program}{f:FuncId}{args:Array Value}{m p q:Pc}{pre:List Pc}{al:Bool}{G:Type}{φ:G->Prop}{val:G->Value}{i:G->List Pc}(h:Cal P f args (m::p::pre) al φ val i)(x:∀w,q.holds w->p.holds w)(u:∀b,p.fp b->q.fp b) :
  Cal P f args (m::q::pre) al φ val i:=λw k=>by
 refine(h w λr a=>?_).mono ?_
 .rcases bO.1 a with rfl|a
  .exact k _ (bM ..)
  .rcases bO.1 a with rfl|a
   .exact x w (k q (aT _ (bM ..)))
   .exact k r (aT _ (aT _ a))
 .rintro e z ⟨g,t,v,j,d⟩;refine⟨g,t,v,j,λy l=>?_⟩;obtain⟨n,o,s⟩:=d y l;refine⟨n,o,λb j=>?_⟩;rcases s b j with h|⟨h,r,a,c⟩
  .exact .inl h
  .refine .inr ⟨h,?_⟩;rcases bO.1 a with rfl|a
   .exact⟨r,bM ..,c⟩
   .rcases bO.1 a with rfl|a
    .exact⟨q,aT _ (bM ..),u b c⟩
    .exact⟨r,aT _ (aT _ a),c⟩
def shm(q:List Int)(c:Int)(s i:Nat):List Int:=mk (s+i) λt=>if t<s then 0 else c*cf q (t-s)
def Ybi(q:List Int)(c:Int)(s t:Nat):cf (shm q c s q.length) t=if s<=t/\t<s+q.length then c*cf q (t-s)else 0:=by
 unfold shm;rw [Lt];by_cases b:t<s
 .rw [aE (by omega:¬(s<=t/\t<s+q.length))];split
  .rfl
  .rfl
 .by_cases a:t<s+q.length
  .rw [aG a,aE b,aG (show s<=t/\t<s+q.length by omega)]
  .rw [aE a,aE (show ¬(s<=t/\t<s+q.length) by omega)]
section
variable {p q:List Int}
theorem Zgf(c:0<q.length)(b:q.length<=p.length):∀j,j<=p.length-q.length+1->∀t,p.length-j<=t->cf (Xv p q j) t=0
 | 0,_,t,d=>Zv (by unfold Xv;omega)
 | j+1,e,t,d=>by
  rcases bJ t p.length with h|h
  .unfold Xv;rw [Zo3 (by rw [Oy];exact h)];by_cases a:t=p.length-1-j
   .subst a;rw [aG O,show p.length-1-j-(p.length-1-j-(q.length-1))=q.length-1 by omega];omega
   .rw [Zgf c b j O t O,dD,aE O];rfl
  .exact Zv (by rw [Oy];omega)
def RestInv(p q R:List Int)(j:Nat):Prop:=Tr R/\∀t,cf R t=cf (Xv p q j) t*cf q (q.length-1)^(p.length-q.length+1-j)
end
end Go.Sky
namespace Go.Sky
section
variable {P:Program} {N:Nat} {sc:Nat->Prop} {env env':Xu} {H H':Hp}
end
end Go.Sky
namespace Go.Sky
variable{P:Program}{sc M:Nat->Prop}{ops:Array Oper}{rest:List (Nat×Nat)}{i:Nat}{b a s c:List Int}
def rterm(a b:Int):Nat->List Int
 | 0=>[1]
 | i+1=>Yy (rterm a b i) (tzl [a,b])
def rsum(p:List Int)(a b d:Int):Nat->List Int
 | 0=>[]
 | i+1=>Hf (rsum p a b d i) (Yc (rterm a b i) (cf p i*d^(p.length-1-i)))
def hs(f:Nat->PS):Nat->PS
 | 0=>0
 | n+1=>hs f n+f n
def Zyd(p:List Int):ps (tzl p)=ps p:=PS.ext' λi=>Nj p i
theorem C_c(n:Int)(i:Nat):(PS.C n).c i=if i=0 then n else 0:=by have h:=PS.C_mul_c n 1 i;rw [show PS.C n*1=PS.C n from PS.mul_one' _,PS.one_c]at h;rw [h];split<;>simp
abbrev RW:=List (Bool×ByteArray)
abbrev qR (z:SL×RW):Pc:=Ym 2 Zqt (Lh z.1) z.2
abbrev qZ (z:SL×List Int):Pc:=Ym 2 wv (Lh z.1) z.2
abbrev R0:SL×RW:=((none,0,0),[])
def short1(r:RW):Bool:=(decide (r.length<=14) || decide (r.length=26)) && r.all λc=>decide (c.2.size<=16)
def shortb(d:List RW):Bool:=d.all short1
def Zm9  {N:Nat}   {env:Xu} {H:Hp}  {F:Xu->Hp->Prop}   {o:Oper} {G:Type} {φ:G->Prop} {d:G->Xu} {k:G->Hp} {j e:Nat} {b:Bool} (p:ops[i]? = some o) (m:o.guard=some (j,b)) (n:(ops[j]?).bind (·.dst)=some e) (l:lk env e=some (.bool b)) (f:Nat.blt e N=true) (q:T P N sc M o env H φ d k)
  (h:∀g,φ g->LD P N sc M ops F rest (d g) (k g)) :
  LD P N sc M ops F ((i,1)::rest) env H:=r1g q p m n l f h
theorem Fm (k:Nat){f:Nat->Int} : ∀{n:Nat},k<n->(∀i,i<n->i≠k->f i=0)->Zp f n=f k
 | 0,d,_=>absurd d (dC _)
 | n+1,d,h=>by
  rw [Ya];by_cases e:k=n
  .subst e;rw [Kk λi hi=>h i O O,jY]
  .rw [h n O (λx=>e x.symm),Fm _ O (λi hi=>h i O),fD]
theorem Fv (q:List Int){p:List Int}{a b:Nat}(d:∀i,a<i->cf p i=0)(e:∀i,b<i->cf q i=0):(ps p*ps q).c (a+b)=cf p a*cf q b:=by
 rw [PS.mul_c,Fm a O λi hi f=>?_]
 .rw [Pj,Pj,show a+b-a=b by omega]
 .rw [Pj,Pj];rcases bJ a i with h|h
  .rw [d i h,dD]
  .rw [e (a+b-i) O,dK]
theorem Zgx(s e:List Int)(c d:Int)(f:PS)(t:Nat):(ps (Gw (Yc s c) (Yc e d))*f).c t=c*(ps s*f).c t-d*(ps e*f).c t:=by rw [PS.mul_c,PS.mul_c,PS.mul_c,<-Oi,eT,<-nF,<-Oi,<-Hc];refine Yf λk _=>?_;rw [Pj,Pj,Pj,Fd,Xf,Xf];grind
theorem Ydx{q r:List Int}(o:Tr q)(e:q≠[])(h:∀t,(ps s*ps q).c t=cf r t)(u:∀t,q.length-1<=t->cf r t=0):∀t,cf s t=0:=by
 have d:=o.mem e;have l:0<q.length:=aD.2 e;have hs:tzl s=[]:=by
  rcases Zfg (tzl s)with f|⟨w,y,f⟩
  .exact f
  .exfalso;have v:=Qd s;have j:tzl s≠[]:=by rw [f];simp
   have m:=v.mem j;have k:=Fv q (p:=tzl s) (a:=(tzl s).length-1) (b:=q.length-1) (λi hi=>Zv O) (λi hi=>Zv O);have n:ps (tzl s)=ps s:=PS.ext' λi=>Nj s i;rw [n,h,u _ O]at k;rcases eQ.1 k.symm with g|g
   .exact m g
   .exact d g
 exact(Nn s).1 hs
theorem Ns(h:∀t,cf s t=0)(f:PS)(t:Nat):(ps s*f).c t=0:=by rw [PS.mul_c];exact Kk λk _=>by rw [Pj,h,dD]
theorem Oe{p q:List Int}(f:Tr p)(g:Tr q)(d:p≠[])(e:q≠[]):(Yy p q).length=p.length+q.length-1:=by have h:=aD.2 d;have j:=aD.2 e;unfold Yy;rw [Bu,Ye];right;rw [Ye,Lt,aG O,show p.length+q.length-1-1=(p.length-1)+(q.length-1) by omega,Fv _ (λi hi=>Zv O) (λi hi=>Zv O)];exact bA (f.mem d) (g.mem e)
def mono(s:Nat)(c:Int):List Int:=List.replicate s 0 ++ [c]
theorem Zfs(s:Nat)(c:Int)(i:Nat):cf (mono s c) i=if i=s then c else 0:=by
 unfold mono;rw [Za0,aW];split
 .rw [aE O];unfold cf;simp [aX,gD];split<;>rfl
 .rename_i h;split
  .rename_i d;subst d;simp [cf]
  .exact Zv O9
theorem Zgy(s:Nat)(c:Int)(f:PS)(t:Nat):(ps (mono s c)*f).c t=if s<=t then c*f.c (t-s)else 0:=by
 rw [PS.mul_c];split
 .rw [Fm s O λi _ d=>by rw [Pj,Zfs,aE d,dD],Pj,Zfs,aG rfl]
 .exact Kk λk e=>by rw [Pj,Zfs,aE O,dD]
theorem Zd0{p q:List Int}(r:0<q.length)(o:q.length<=p.length):∀j,j<=p.length-q.length+1->∃s:List Int,∀t,cf q (q.length-1)^j*cf p t=(ps s*ps q).c t+cf (Xv p q j) t
 | 0,_=>⟨[],λt=>by rw [Ns (λt=>Zv (aZ _)),dE];unfold Xv;omega⟩
 | j+1,y=>by
  obtain⟨s,u⟩:=Zd0 r o j O;refine⟨Gw (Yc s (cf q (q.length-1))) (Yc (mono (p.length-1-j-(q.length-1)) (cf (Xv p q j) (p.length-1-j))) (-1)),λt=>?_⟩;rw [Zgx,Zgy];have d:=u t;show _=_+cf (Zet q (Xv p q j) (p.length-1-j)) t;rw [eR];rcases bJ t p.length with h|h
  .rw [Zo3 (by rw [Oy];exact h)];generalize p.length-1-j-(q.length-1)=g;generalize cf (Xv p q j) (p.length-1-j)=R;generalize cf (Xv p q j) t=m at d ⊢;generalize (ps s*ps q).c t=X at d ⊢;generalize cf q (q.length-1)^j=L at d ⊢;generalize cf q (q.length-1)=l at d ⊢;have e:L*l*cf p t=l*X+m*l:=by rw [fK,dJ l,<-fK,d];grind
   rw [e];by_cases f:g<=t
   .rw [aG f,Pj];by_cases n:t<g+q.length
    .rw [aG ⟨f,n⟩];omega
    .rw [aE O,Zv (p:=q) (i:=t-_) O];omega
   .rw [aE f,aE O];omega
  .have k:cf p t=0:=Zv h;have v:cf (Xv p q j) t=0:=Zv (by rw [Oy];exact h);have w:cf (Zet q (Xv p q j) (p.length-1-j)) t=0:=Zv (by rw [Zc5,Oy];exact h);have x:cf q (t-(p.length-1-j-(q.length-1)))=0:=Zv O;rw [k,v,dK,fD]at d;rw [k,w,aG O,Pj,x,<-d];simp
theorem Dm(p:List Int){q:List Int}(e:q≠[]):∃(k:Nat) (s:List Int),∀t,cf q (q.length-1)^k*cf p t=(ps s*ps q).c t+cf (Xj p q) t:=by
 have d:0<q.length:=aD.2 e;rcases bJ p.length q.length with h|h
 .refine⟨0,[],λt=>?_⟩;rw [Ns (λt=>Zv (aZ _)),dE];unfold Xj;rw [aG h];omega
 .obtain⟨s,hs⟩:=Zd0 d h _ (aH _);refine⟨p.length-q.length+1,s,λt=>?_⟩;rw [hs t];unfold Xj;rw [aE O,Nj]
theorem Qk(p:List Int){q:List Int}(e:q≠[]):(Xj p q).length<q.length:=by
 have d:0<q.length:=aD.2 e;unfold Xj;split
 .assumption
 .have:=Cg (p:=Xv p q (p.length-q.length+1)) (n:=q.length-1) λi hi=>Zgf d O _ (aH _) i O;omega
theorem Mu (q:List Int){p:List Int}(d:Tr p):Tr (Xj p q):=by
 unfold Xj;split
 .exact d
 .exact Qd _
def Sim(a b:List Int):Prop:=∃m n:Int,m≠0/\n≠0/\∀i,m*cf a i=n*cf b i
def Sim.refl(a:List Int):Sim a a:=⟨1,1,O3,O3,λ_=>rfl⟩
def Sim.symm : Sim a b->Sim b a:=λ⟨m,n,d,e,h⟩=>⟨n,m,e,d,λi=>(h i).symm⟩
theorem Sim.trans : Sim a b->Sim b c->Sim a c:=λ⟨m,n,d,e,h⟩ ⟨u,v,f,g,k⟩=>
 ⟨m*u,n*v,bA d f,bA e g,λi=>by have j:=h i;have l:=k i;grind⟩
theorem Sim.zero(h:Sim a b)(hi:cf a i=0):cf b i=0:=by
 obtain⟨m,n,e,d,h⟩:=h;have:=h i;rw [hi,dK]at this;rcases eQ.1 this.symm with h|h
 .exact absurd h d
 .exact h
theorem Sim.len_le(h:Sim a b)(f:Tr b):b.length<=a.length:=by
 rcases bJ a.length b.length with e|e
 .exfalso;have d:b≠[]:=aD.1 O;exact f.mem d (h.zero (Zv O))
 .exact e
def Sim.len(h:Sim a b)(d:Tr a)(e:Tr b):a.length=b.length:=iM (h.symm.len_le d) (h.len_le e)
theorem Sim.nil(h:Sim a b)(e:Tr b)(d:a=[]):b=[]:=by have:=h.len_le e;rw [d]at this;exact aF (by simpa using this)
theorem Bk(c:Int):∀(p:List Int) (g:Int),0<=g->(p.map (· * c)).foldl (λg c=>(Int.gcd g c:Int)) (g*c.natAbs)=p.foldl (λg c=>(Int.gcd g c:Int)) g*c.natAbs
 | [],g,_=>rfl
 | x::p,g,hg=>by
  rw [cH,fQ,fQ,<-Bk c p _ O];congr 1;have:Int.gcd (g*(c.natAbs:Int)) (x*c)=Int.gcd g x*c.natAbs:=by unfold Int.gcd;rw [cC,cC,cM,Nat.gcd_mul_right]
  rw [this];push_cast;rfl
theorem Zd5(p:List Int)(c:Int):Yj (p.map (· * c))=Yj p*c.natAbs:=by have:=Bk c p 0 (fG _);rw [dD]at this;exact this
theorem Kd(p:List Int)(i:Nat):cf (Zs p) i*Yj p=cf p i:=by rw [Dz];exact iL (Nk p i)
def Zvg:Zs []=[]:=rfl
def Fr{p:List Int}(h:Tr p)(d:p≠[]):Yj p≠0:=λe=>h.mem d ((Ag p).1 e _)
theorem Lj{p:List Int}(h:Tr p)(e:p≠[]):Yj (Zs p)=1:=by
 have j:=Fr h e;have d:=Zd5 (Zs p) (Yj p);rw [show(Zs p).map (· * Yj p)=p from Ln (by rw [bX,Zk]) λi _=>by rw [Zbw O7];exact Kd p i]at d;have k:=Pw p;have f:Yj p*(Yj (Zs p)-1)=0:=by rw [nE,jN,dJ];have:((Yj p).natAbs:Int)=Yj p:=O;rw [this]at d;omega
 rcases eQ.1 f with g|g<;>omega
theorem Zcq{p:List Int}(h:Yj p=1):Zs p=p:=Ln (Zk p) λi _=>by rw [Dz,h,Int.ediv_one]
theorem Fq{p:List Int}(h:Tr p):Zs (Zs p)=Zs p:=by
 by_cases d:p=[]
 .subst d;rfl
 .exact Zcq (Lj h d)
theorem Xt{p:List Int}(h:Tr p):Sim (Zs p) p:=by
 by_cases d:p=[]
 .subst d;exact Sim.refl _
 .exact⟨Yj p,1,Fr h d,O3,λi=>by rw [eI,dJ];exact Kd p i⟩
def Yk(p:List Int):List Int:=Lo (Zs p)
theorem Zmu{x y:List Int}(q:Tr x)(r:Tr y)(t:x≠[])(f:Yj x=1)(g:Yj y=1)(h:Sim x y):x=y\/∀i,cf x i=- cf y i:=by
 have d:=h.len q r;obtain⟨m,n,o,p,e⟩:=h;have j:=Zd5 x m;have k:=Zd5 y n;rw [show x.map (· * m)=y.map (· * n)from Ln (by simp [d]) λi _=>by rw [Zbw O7,Zbw O7,dJ,dJ (cf y i)];exact e i,k,f,g]at j
 have l:m=n\/m=-n:=O;rcases l with rfl|rfl
 .exact .inl (Ln d λi _=>iK o (e i))
 .exact .inr λi=>iK p (by have:=e i;grind)
theorem Fw(g:List Int)(i:Nat):cf (Lo g) i=if g.length≠0/\cf g (g.length-1)<0 then-cf g i else cf g i:=by
 unfold Lo;split
 .rw [Xf];omega
 .rfl
theorem Ob{g:List Int}(h:Tr g):Tr (Lo g):=by
 unfold Lo;split
 .exact Qx
 .exact h
theorem Mx(g:List Int):Sim (Lo g) g:=by
 by_cases h:g.length≠0/\cf g (g.length-1)<0
 .exact⟨-1,1,O3,O3,λi=>by rw [Fw,aG h];omega⟩
 .exact⟨1,1,O3,O3,λi=>by rw [Fw,aE h]⟩
theorem Zog:∀(f:Nat) {a b:List Int},Tr a->Tr b->Tr (eu f a b)
 | 0,_,_,h,_=>h
 | f+1,a,b,d,e=>by
  unfold eu;split
  .exact d
  .exact Zog f e (Yi (Mu _ d))
theorem Ztj:∀(f:Nat) {a b:List Int},Tr a->Tr b->Zs a=a->Zs b=b->Zs (eu f a b)=eu f a b
 | 0,_,_,_,_,h,_=>h
 | f+1,a,b,d,j,e,g=>by
  unfold eu;split
  .exact e
  .exact Ztj f j (Yi (Mu _ d)) g (Fq (Mu _ d))
theorem Zf2{p q:List Int}(d:Tr p)(e:Tr q):Tr (gA p q):=by unfold gA;split<;>exact Yi ‹_›
theorem Zf1{p q:List Int}(d:Tr p)(e:Tr q):Tr (gB p q):=by unfold gB;split<;>exact Yi ‹_›
theorem Zyo{F:Nat}{p q:List Int}(d:Tr p)(e:Tr q):Od F p q=Yk (eu F (gA p q) (gB p q)):=by
 unfold Od Yk;rw [Ztj F (Zf2 d e) (Zf1 d e)]
 .unfold gA;split
  .exact Fq e
  .exact Fq d
 .unfold gB;split
  .exact Fq d
  .exact Fq e
def chk:Nat->Nat->Nat->Nat->Nat->Bool
 | 0,_,d,_,_=>Nat.beq d 0
 | f+1,e,d,A,B=>Nat.beq d 0 || (bif Nat.blt e d then chk f d e B A else
   Nat.ble (A+(e-d+1)*B) 65537 && (List.range d).all λl=>chk f d l B (bif Nat.ble l 1 then 2 else A+(e-d+1)*B))
theorem Znu(x y:Int):Nc x y∣x:=by
 unfold Nc;split
 .exact Int.neg_dvd.2 (jG ..)
 .exact jG ..
theorem Zg4(x y:Int):Nc x y∣y:=by
 unfold Nc;split
 .exact Int.neg_dvd.2 (gT ..)
 .exact gT ..
def s8(l:List Int):Prop:=∀x∈l,(Yw x.natAbs).size<=8
abbrev Z0:SL×List Int:=((none,0,0),[])
theorem vp_eu:∀(f:Nat) {a b:List Int},Vp a->Vp b->eok f a b->Vp (eu f a b)
 | 0,_,_,h,_,_=>h
 | f+1,a,b,d,e,h=>by
  unfold eu;split
  .exact d
  .rcases h with h|h
   .contradiction
   .exact vp_eu f e (Mt (Bt d h.1)) h.2
theorem Zwu{g:List Int}(h:Vp g):Vp (Lo g):=by
 unfold Lo;split
 .refine⟨λi=>by rw [Xf];exact Bd h.sz i,Qx,aB (Co _) h.len⟩
 .exact h
def Ycj{F:Nat}{p q:List Int}(d:Vp p)(e:Vp q)(h:eok F (gA p q) (gB p q)):Vp (Od F p q):=Zwu (vp_eu F (vp_gA d e) (vp_gB d e) h)
def pevn(p:List Int)(x y:Int)(n:Nat):Int:=Zp (λi=>cf p i*(x^i*y^(n-1-i))) n
def dn(p:List Int)(y:Int):Int:=y^(p.length-1)
def He(q:List Int):Yy [] q=[]:=Zcr (.inl rfl)
def Zbk(p:List Int):Yy p []=[]:=Zcr (.inr rfl)
theorem Zz0(N D:Int):N/Nc N D*D=N*(D/Nc N D):=by have e:=iL (Znu N D);have f:=iL (Zg4 N D);generalize N/Nc N D=n at *;generalize D/Nc N D=d at *;generalize Nc N D=g at *;subst e f;grind
theorem Zvz{N D:Int}(h:0<D):0<D/Nc N D:=by
 have f:Nc N D=(Int.gcd N D:Int):=aE O;have g:=iL (Zg4 N D);rw [f]at g ⊢;generalize D/(Int.gcd N D:Int)=d at *;rcases iH 0 d with e|e
 .exact e
 .exfalso;have:d*(Int.gcd N D:Int)<=0:=fO e O;omega
section
variable {p q:List Int}
theorem Zbs(v:Tr p)(m:Tr q)(h:p≠[])(e:q≠[]):∀j,j<=p.length->∀t,cf (Xy (Yy p q) q j) t=(ps (p.take (p.length-j))*ps q).c t
 | 0,_,t=>by rw [kW,bN];exact Ld p q t
 | j+1,B,t=>by
  have w:=Zbs v m h e j O;have D:=aD.2 h;have F:=aD.2 e;have u:=Oe v m h e;have y:Xy (Yy p q) q (j+1)=Zhm q (Xy (Yy p q) q j) (p.length-1-j):=by show Zhm q _ _=_;rw [u];congr 1;omega
  have n:=m.mem e;have d:cf (Xy (Yy p q) q j) (p.length-1-j+q.length-1)=cf p (p.length-1-j)*cf q (q.length-1):=by rw [w,show p.length-1-j+q.length-1=(p.length-1-j)+(q.length-1) by omega,Fv _ (λi hi=>by rw [Iu,aE O]) (λi hi=>Zv O),Iu,aG O]
  have l:dq q (Xy (Yy p q) q j) (p.length-1-j)=cf p (p.length-1-j):=by unfold dq;rw [d];exact mF _ n
  have z:(ps (p.take (p.length-j))*ps q).c t=(ps (p.take (p.length-(j+1)))*ps q).c t+(ps (mono (p.length-1-j) (cf p (p.length-1-j)))*ps q).c t:=by
   rw [PS.mul_c,PS.mul_c,PS.mul_c,<-Hc];refine Yf λk _=>?_;rw [Pj,Pj,Pj,Pj,Iu,Iu,Zfs];by_cases f:k=p.length-1-j
   .rw [aG O,aE O,aG f,<-f];omega
   .rw [aE f];by_cases o:k<p.length-j
    .rw [aG o,aG O];omega
    .rw [aE o,aE O];omega
  rw [y];unfold Zhm;rw [Lt,Ez,u,l,w,z,Zgy,Pj];by_cases r:t<p.length+q.length-1
  .rw [aG r];by_cases g:p.length-1-j<=t
   .rw [aG g];by_cases x:t<p.length-1-j+q.length
    .rw [aG ⟨g,x⟩];omega
    .rw [aE O,Zv (p:=q) O];omega
   .rw [aE g,aE O];omega
  .rw [aE r,PS.mul_c];refine(Kk λk _=>?_).symm;rw [Pj,Pj,Iu];split
   .rw [Zv (p:=q) O,dK]
   .rw [dD]
theorem Zsk(j:Tr p)(l:Tr q)(e:q≠[]):pdv (Yy p q) q/\Lc (Yy p q) q=p:=by
 by_cases d:p=[]
 .subst d;rw [He];exact⟨.inl rfl,rfl⟩
 have u:=aD.2 d;have v:=aD.2 e;have r:=Oe j l d e;have n:=l.mem e;have o:∀k,k<=p.length-1->cf (Xy (Yy p q) q (p.length-1-k)) (k+q.length-1)=cf p k*cf q (q.length-1):=λk f=>by rw [Zbs j l d e _ O,show k+q.length-1=k+(q.length-1) by omega,Fv _ (λi hi=>by rw [Iu,aE O]) (λi hi=>Zv O),Iu,aG O]
 have h:(Yy p q).length-q.length=p.length-1:=O;have m:Yy p q≠[]:=aD.1 O;refine⟨.inr ⟨O,λk f=>?_,?_⟩,?_⟩
 .unfold La;rw [h]at f ⊢;rw [o k f];exact Int.mul_emod_left _ _
 .rw [h,show p.length-1+1=p.length by omega];refine(Nn _).2 λi=>?_;rw [Zbs j l d e _ (aH _),mV,fM];exact Ns (λt=>Zv (aZ _)) _ _
 .rw [Znd m];unfold Zyg;rw [h,show p.length-1+1=p.length by omega,Ij (g:=cf p) λk f=>?_,Zc0,Bu j];unfold Ztu dq;rw [h,o k O];exact mF _ n
end
def Dv(g a:List Int):Prop:=∃(k:Int) (s:List Int),k≠0/\∀t,k*cf a t=(ps s*ps g).c t
theorem Znj(f:PS)(t:Nat):(ps [1]*f).c t=f.c t:=by rw [PS.mul_c,Fm 0 O λi _ d=>by rw [Pj,Zv (p:=[1]) O9,dD],Pj,show cf [1] 0=1 from rfl,eI,kW]
theorem Dv.refl(a:List Int):Dv a a:=⟨1,[1],O3,λt=>by rw [Znj,eI,Pj]⟩
theorem Dv.nil(g:List Int):Dv g []:=⟨1,[],O3,λt=>by rw [Ns (λt=>Zv (aZ _)),Zv (aZ _)];rfl⟩
theorem Dv.sim{g:List Int} : Dv g a->Sim a b->Dv g b:=λ⟨k,s,d,h⟩ ⟨m,n,j,f,e⟩=>
 ⟨k*n,Yc s m,bA d f,λt=>by rw [PS.mul_c,show(λi=>(ps (Yc s m)).c i*(ps g).c (t-i))=λi=>m*((ps s).c i*(ps g).c (t-i))from funext λi=>by rw [Pj,Pj,Pj,Xf];grind,Oi,<-PS.mul_c,<-h,Int.mul_assoc,<-e];grind⟩
theorem Dv.lin{g:List Int}(r:Dv g a)(w:Dv g b)(s:List Int)(L:Int)(o:L≠0)(h:∀t,L*cf c t=(ps s*ps a).c t+cf b t):Dv g c:=by
 obtain⟨k,u,x,j⟩:=r;obtain⟨m,v,y,l⟩:=w;refine⟨L*(k*m),Hf (Yc (Yy s u) m) (Yc v k),bA o (bA x y),λt=>?_⟩;have z:ps g=ps g:=rfl;have d:k*(ps s*ps a).c t=(ps (Yy s u)*ps g).c t:=by rw [Zkd,PS.mul_assoc',PS.mul_c,PS.mul_c,<-Oi];refine Yf λi _=>?_;rw [<-j,Pj,Pj];grind
 have e:(ps (Hf (Yc (Yy s u) m) (Yc v k))*ps g).c t=m*(ps (Yy s u)*ps g).c t+k*(ps v*ps g).c t:=by rw [PS.mul_c,PS.mul_c,PS.mul_c,<-Oi,<-Oi,<-Hc];refine Yf λi _=>?_;rw [Pj,Pj,Pj,Pj,Zaz,Xf,Xf];grind
 have f:=h t;have n:=l t;rw [e,<-d,<-n];generalize (ps s*ps a).c t=X at *;generalize cf c t=C at *;generalize cf b t=B at *;have:L*(k*m)*C=k*m*(L*C):=O4;rw [this,f];grind
theorem eu_dv:∀(f:Nat) {a b:List Int},Tr a->Tr b->eok f a b->Dv (eu f a b) a/\Dv (eu f a b) b
 | 0,a,b,l,g,h=>by rw [show b=[]from h];exact⟨Dv.refl _,Dv.nil _⟩
 | f+1,a,b,l,g,h=>by
  by_cases d:b=[]
  .subst d;rw [Zeb];exact⟨Dv.refl _,Dv.nil _⟩
  .rcases h with h|h
   .exact absurd h d
   .have e:eu (f+1) a b=eu f b (Zs (Xj a b)):=by
     conv=>lhs;unfold eu
     rw [aE d]
    rw [e];have t1:=Mu b l;obtain⟨j,m⟩:=eu_dv f g (Yi t1) h.2;obtain⟨k,s,hs⟩:=Dm a d;exact⟨j.lin (m.sim (Xt t1)) s _ (Nt (g.mem d) k) hs,j⟩
theorem Dv.of_sim{g d:List Int} : Dv g a->Sim g d->Dv d a:=λ⟨k,s,f,h⟩ ⟨m,n,j,l,e⟩=>
 ⟨m*k,Yc s n,bA j f,λt=>by rw [fK,h,PS.mul_c,PS.mul_c,<-Oi];refine Yf λi _=>?_;rw [Pj,Pj,Pj,Pj,Xf];have:=e (t-i);grind⟩
theorem Dv.zero(f:Tr a)(h:Dv [] a):a=[]:=by
 obtain⟨k,s,g,h⟩:=h;rw [<-Bu f,Nn];intro i;have e:=h i;rw [PS.mul_comm',Ns (λt=>Zv (aZ _))]at e;rcases eQ.1 e with d|d
 .exact absurd d g
 .exact d
theorem Zak{F:Nat}{p q:List Int}(g:Tr p)(j:Tr q)(h:eok F (gA p q) (gB p q)):Dv (Od F p q) p/\Dv (Od F p q) q:=by
 have k:=Zf2 g j;have l:=Zf1 g j;obtain⟨d,e⟩:=eu_dv F k l h;have hs:Sim (eu F (gA p q) (gB p q)) (Od F p q):=(Mx _).symm;have d:=d.of_sim hs;have e:=e.of_sim hs;by_cases f:p.length<q.length
 .rw [show gA p q=Zs q from aG f]at d;rw [show gB p q=Zs p from aG f]at e;exact⟨e.sim (Xt g),d.sim (Xt j)⟩
 .rw [show gA p q=Zs p from aE f]at d;rw [show gB p q=Zs q from aE f]at e;exact⟨d.sim (Xt g),e.sim (Xt j)⟩
def Zb9 (F:Nat){p q:List Int}(d:Tr p)(e:Tr q):Tr (Od F p q):=Ob (Zog F (Zf2 d e) (Zf1 d e))
theorem Zpv(p:List Int){c:Int}(h:c≠0):Sim p (Yc p c):=⟨c,1,h,O3,λi=>by rw [Xf];grind⟩
def fin8(d A:Nat):Bool:=Nat.ble d 2 || Nat.ble (64+(9-d)*A) 65536
def chk2:Nat->Nat->Nat->Nat->Nat->Bool
 | 0,d,_,A,_=>fin8 d A
 | f+1,d,e,A,B=>bif Nat.beq e 0 then fin8 d A else bif Nat.blt d e then chk2 f e d B A else
   (List.range e).all λl=>chk2 f e l B (bif Nat.ble l 1 then 2 else A+(d-e+1)*B)
def Cu{g:List Int}(h:Tr g):(Lo g).length=g.length:=(Mx g).len (Ob h) h
theorem Zew(g:List Int):Yj (Lo g)=Yj g:=by
 have d:Yj (Lo g)∣Yj g:=Hh λi=>by
  have h:=Nk (Lo g) i;rw [Fw]at h;split at h
  .exact lY.1 h
  .exact h
 have e:Yj g∣Yj (Lo g):=Hh λi=>by
  rw [Fw];split
  .exact lY.2 (Nk g i)
  .exact Nk g i
 exact Int.dvd_antisymm (Pw _) (Pw _) d e
theorem Zgr{F:Nat}{p q:List Int}(f:Tr p)(g:Tr q)(d:Od F p q≠[]):Yj (Od F p q)=1:=by rw [Zyo f g]at d ⊢;unfold Yk at d ⊢;rw [Zew];refine Lj (Zog F (Zf2 f g) (Zf1 f g)) λe=>d ?_;rw [e];rfl
end Go.Sky
namespace Go.Sky
variable{p xs:List Int}
def Dj(xs:List Int):Prop:=xs.length=0\/(xs.length+2)*(xs.length+2)*(Qs xs+16)<=65536
instance (xs:List Int):Decidable (Dj xs):=by unfold Dj;infer_instance
def sqf(F:Nat)(xs:List Int):List Int:=Lc (Yk xs) (Od F (Yk xs) (Zy (Yk xs)))
def Ycz(F:Nat)(xs:List Int):Prop:=(∀i,i<xs.length->bl (cf (Yk xs) (i+1)*((i:Int)+1)).natAbs<=65536)/\¬Zjf (Yk xs) (Zy (Yk xs))/\eok F (gA (Yk xs) (Zy (Yk xs))) (gB (Yk xs) (Zy (Yk xs)))/\
 Fc (Yk xs) (Od F (Yk xs) (Zy (Yk xs)))=0/\pdv (Yk xs) (Od F (Yk xs) (Zy (Yk xs)))
def Pq(x y:List Int):List Int:=if cf y (y.length-1)<0/\(x.length-y.length+1)%2=1 then Zs (Xj x y)else Yc (Zs (Xj x y)) (-1)
def cok:Nat->List Int->List Int->Prop
 | 0,_,y=>y=[]
 | f+1,x,y=>y=[]\/(Fc x y=0/\y.length<=x.length/\cok f y (Pq x y))
def On:Nat->List Int->List Int->List (List Int)
 | 0,x,_=>[x]
 | f+1,x,y=>if y=[]then [x]else x::On f y (Pq x y)
theorem Fo(f:Nat)(x:List Int):On f x []=[x]:=by cases f<;>rfl
theorem Zhs{f:Nat}{a b:List Int}(h:cok f a b)(c:b≠[]):∃g,f=g+1/\Fc a b=0/\b.length<=a.length/\cok g b (Pq a b)/\On f a b=a::On g b (Pq a b):=by
 cases f with
 | zero=>exact absurd h c
 | succ g=>
  rcases h with h|h
  .exact absurd h c
  .exact⟨g,rfl,h.1,h.2.1,h.2.2,by show(if b=[]then [a]else _)=_;rw [aE c]⟩
def Bo(F:Nat)(xs:List Int):List (List Int):=On F (sqf F xs) (Zs (Zy (sqf F xs)))
def Eg(F:Nat)(xs:List Int):Prop:=Ycz F xs/\(∀i,i<xs.length->bl (cf (sqf F xs) (i+1)*((i:Int)+1)).natAbs<=65536)/\cok F (sqf F xs) (Zs (Zy (sqf F xs)))
theorem Zwt(h:Vp p):Vp (Yk p):=by
 unfold Yk;have a:=Mt h;refine⟨λi=>?_,Ob a.tr,by rw [Cu a.tr];exact a.len⟩;rw [Fw];split
 .rw [eF];exact a.sz i
 .exact a.sz i
theorem Qj(h:Tr p):(Yk p).length=p.length:=by unfold Yk;rw [Cu (Yi h),Zk]
theorem Zmg{x y:List Int}(b:Vp x)(a:Fc x y=0):Vp (Pq x y):=by
 have h:=Mt (Bt b a);unfold Pq;split
 .exact h
 .exact⟨λi=>by rw [Xf];exact Bd h.sz i,Qx,aB (Co _) h.len⟩
def Oh(s:Int×Int)(x:Int):Int×Int:=if x=0 then s else(if x=-s.2 then s.1+1 else s.1,x)
def chg(l:List Int):Int:=(l.foldl Oh (0,0)).1
def Zbp{α β:Type}(f:α->β->α)(a:α)(l:List β)(x:β):(l ++ [x]).foldl f a=f (l.foldl f a) x:=O7
theorem chg1_n(s:Int×Int)(x:Int):(Oh s x).1=s.1\/(Oh s x).1=s.1+1:=by
 unfold Oh;split
 .exact .inl rfl
 .dsimp only;split
  .exact .inr rfl
  .exact .inl rfl
def sgs(a:List (List Int))(x y:Int):List Int:=a.map λp=>(pev p x y).sign
def sgr(a:List (List Int)):List Int:=a.map λp=>(cf p (p.length-1)).sign
def sgl(a:List (List Int)):List Int:=a.map λp=>if p.length%2=0 then-(cf p (p.length-1)).sign else(cf p (p.length-1)).sign
def Dg(xs:List Int):Nat:=(xs.take (xs.length-1)).foldl (λm c=>max m c.natAbs) 0
def Cj(xs:List Int):Int:=((Dg xs/(cf xs (xs.length-1)).natAbs:Nat):Int)+2
def Zq4(xs:List Int):Int:=if xs.length=0 then 3 else if Dj xs then 0 else 7
def ef(z:Int×Int):Bool:=decide (512<bl z.1.natAbs) || decide (512<bl z.2.natAbs)
def chk2r(xs:List Int)(x y a b:Int):Int:=if xs.length=0 then 3 else if 0<x*b-a*y then 3 else if Dj xs/\ef (x,y)=false/\ef (a,b)=false then 0 else 7
theorem Yfe(a:xs≠[])(h:Dj xs):Zq4 xs=0:=by unfold Zq4;rw [aE (λe=>a (aF e)),aG h]
theorem Zsr(h:¬cf (Zs xs) ((Zs xs).length-1)<0):Yk xs=Zs xs:=by unfold Yk Lo;rw [aE O]
theorem Zss(a:(Zs xs).length≠0)(h:cf (Zs xs) ((Zs xs).length-1)<0):Yk xs=Yc (Zs xs) (-1):=by unfold Yk Lo;rw [aG ⟨a,h⟩]
end Go.Sky

