/- Rules, arithmetic and contracts: part 4. No conditions but those that each theorem names. -/
import Derived.Test.YtpmihempjefadaaGreatAo02
import Derived.Test.YtpmihempjefadaaGreatProg
import Derived.Test.YtpmihempjefadaaGreatRows
import Derived.WalkKit
import Derived.ProofKit
import Derived.OpenShut
import Derived.ShutString
import Derived.ChangeOld
import Derived.Deep.Slices
import Derived.Lib.SmallJoins
set_option linter.all false
namespace Go.Sky
open Go.Proofs
def pU:Enc Tryz.prog 125 1 Md:=Enc.flat Tryz.sizeOf125 Tryz.isAgg125 (λ_=>rfl)
def pB:Enc Tryz.prog 5 1 Yb2:=Enc.flat Tryz.sizeOf5 Tryz.isAgg5 (λ_=>rfl)
def pN:Enc Tryz.prog 3 1 Ymt:=Enc.flat Tryz.sizeOf3 Tryz.isAgg3 (λ_=>rfl)
def pZ:Enc Tryz.prog 3 1 Xf:=Enc.flat Tryz.sizeOf3 Tryz.isAgg3 (λ_=>rfl)
def Zhs(args:Array Value)(w:World):(callFunc 326 args).run Tryz.prog w=((add64Entry args).run Tryz.prog w).andThen λv w'=> .ok (.value v) w':=
 run_callFunc_extern Tryz.func326 O6 O6 O6 O6 args w
def Yat(args:Array Value)(w:World):(callFunc 327 args).run Tryz.prog w=((Zem args).run Tryz.prog w).andThen λv w'=> .ok (.value v) w':=
 run_callFunc_extern Tryz.func327 O6 O6 O6 O6 args w
end Go.Sky
theorem Go.Proofs.Tryz.ti125:Go.Proofs.Tryz.prog.info? 125=some Go.Proofs.Tryz.t125:=Go.Sky.O6
namespace Go.Sky
open Go.Proofs
end Go.Sky
theorem Go.Proofs.Tryz.ti5:Go.Proofs.Tryz.prog.info? 5=some Go.Proofs.Tryz.t5:=Go.Sky.O6
namespace Go.Sky
open Go.Proofs
end Go.Sky
theorem Go.Proofs.Tryz.ti3:Go.Proofs.Tryz.prog.info? 3=some Go.Proofs.Tryz.t3:=Go.Sky.O6
namespace Go.Sky
open Go.Proofs
def pW:Enc Tryz.prog 176 2 Yhh:=Enc.agg O3 Tryz.sizeOf176 Tryz.isAgg176 (λx=>⟨[.bool x.1,.string x.2],rfl,rfl,O10⟩)
def pV:Enc Tryz.prog 176 2 wv:=Enc.agg O3 Tryz.sizeOf176 Tryz.isAgg176 (λx=>⟨[.bool (decide (x<0)),.string (Xo x.natAbs)],rfl,rfl,O10⟩)
def pI:Enc Tryz.prog 245 2 Ymu:=Enc.agg O3 Tryz.sizeOf245 Tryz.isAgg245 (λx=>⟨[.bool (decide (x.1<0)),Xp x.2],rfl,rfl,O10⟩)
def pS{α:Type} : Enc Tryz.prog 133 1 (Ob (α:=α)):=Enc.flat Tryz.sizeOf133 Tryz.isAgg133 (λ_=>rfl)
def pY:Enc Tryz.prog 426 8 iq:=Enc.agg O3 Tryz.sizeOf426 Tryz.isAgg426 (λx=>⟨[.bool (decide (x.1.1<0)),.string (Xo x.1.1.natAbs),.bool (decide (x.1.2<0)),.string (Xo x.1.2.natAbs),.bool (decide (x.2.1<0)),.string (Xo x.2.1.natAbs),.bool (decide (x.2.2<0)),.string (Xo x.2.2.natAbs)],rfl,rfl,O10⟩)
def pQ:Enc Tryz.prog 209 4 rq:=Enc.agg O3 Tryz.sizeOf209 Tryz.isAgg209 (λx=>⟨[.bool (decide (x.1<0)),.string (Xo x.1.natAbs),.bool (decide (x.2<0)),.string (Xo x.2.natAbs)],rfl,rfl,O10⟩)
def pR:Enc Tryz.prog 209 4 encQ:=Enc.agg O3 Tryz.sizeOf209 Tryz.isAgg209 (λx=>⟨[.bool x.1.1,.string x.1.2,.bool x.2.1,.string x.2.2],rfl,rfl,O10⟩)
def sh176:Tryz.prog.stoodInHeld 176=false:=O6
def eg176:Tryz.prog.eqGuardType Tryz.prog.depth 176=false:=O6
def in176(d:Nat)(w:World)(a:Bool)(s:ByteArray)(b:Bool)(t:ByteArray):(Op.equalIn (d+2) 176 (.agg #[.bool a,.string s]) (.agg #[.bool b,.string t])).run Tryz.prog w= .ok (eqW a s b t) w:=by
 have c:Tryz.prog.underlying 176=some (.struct (Tryz.prog.fieldsOf 176)):=by unfold Program.fieldsOf;rw [Tryz.underlying176]
 rw [run_equalIn_agg w (d+1) 176 _ _ c sh176];unfold Program.fieldsOf;rw [Tryz.underlying176];simp [Op.eqFields,part,Tryz.isAgg4,Tryz.isAgg9,run_equalIn_bool' _ _ _ _ _ Tryz.underlying4,run_equalIn_string _ _ _ _ _ Tryz.underlying9];unfold eqW;cases hab:(a == b)
 .simp_all
 .by_cases h:s.toList=t.toList<;>simp_all
def eql176(w:World){a:Bool}{s:ByteArray}{b:Bool}{t:ByteArray}:(binOp .eql 176 (.agg #[.bool a,.string s]) (.agg #[.bool b,.string t])).run Tryz.prog w= .ok (.bool (eqW a s b t)) w:=by rw [run_eql_struct,in176];rfl
end Go.Sky
theorem Go.Proofs.Tryz.ti23:Go.Proofs.Tryz.prog.info? 23=some Go.Proofs.Tryz.t23:=Go.Sky.O6
namespace Go.Sky
open Go.Proofs
end Go.Sky
theorem Go.Proofs.Tryz.ti31:Go.Proofs.Tryz.prog.info? 31=some Go.Proofs.Tryz.t31:=Go.Sky.O6
namespace Go.Sky
open Go.Proofs
end Go.Sky
theorem Go.Proofs.Tryz.ti37:Go.Proofs.Tryz.prog.info? 37=some Go.Proofs.Tryz.t37:=Go.Sky.O6
namespace Go.Sky
open Go.Proofs
end Go.Sky
theorem Go.Proofs.Tryz.ti40:Go.Proofs.Tryz.prog.info? 40=some Go.Proofs.Tryz.t40:=Go.Sky.O6
namespace Go.Sky
open Go.Proofs
end Go.Sky
theorem Go.Proofs.Tryz.ti77:Go.Proofs.Tryz.prog.info? 77=some Go.Proofs.Tryz.t77:=Go.Sky.O6
namespace Go.Sky
open Go.Proofs
end Go.Sky
theorem Go.Proofs.Tryz.ti90:Go.Proofs.Tryz.prog.info? 90=some Go.Proofs.Tryz.t90:=Go.Sky.O6
namespace Go.Sky
open Go.Proofs
end Go.Sky
theorem Go.Proofs.Tryz.ti133:Go.Proofs.Tryz.prog.info? 133=some Go.Proofs.Tryz.t133:=Go.Sky.O6
namespace Go.Sky
open Go.Proofs
end Go.Sky
theorem Go.Proofs.Tryz.ti137:Go.Proofs.Tryz.prog.info? 137=some Go.Proofs.Tryz.t137:=Go.Sky.O6
namespace Go.Sky
open Go.Proofs
end Go.Sky
theorem Go.Proofs.Tryz.ti176:Go.Proofs.Tryz.prog.info? 176=some Go.Proofs.Tryz.t176:=Go.Sky.O6
namespace Go.Sky
open Go.Proofs
end Go.Sky
theorem Go.Proofs.Tryz.ti209:Go.Proofs.Tryz.prog.info? 209=some Go.Proofs.Tryz.t209:=Go.Sky.O6
namespace Go.Sky
open Go.Proofs
end Go.Sky
theorem Go.Proofs.Tryz.ti284:Go.Proofs.Tryz.prog.info? 284=some Go.Proofs.Tryz.t284:=Go.Sky.O6
namespace Go.Sky
open Go.Proofs
variable{v0 v1 v2:Value}
theorem Zhr(a:v0.oneCell'=true)(b:v1.oneCell'=true):Tryz.prog.built 23 [(0,v0),(1,v1)]=some #[v0,v1,.int .i64 0]:=by refine Xz Tryz.ti23 Tryz.underlying23 rfl (pl:=[(0,1),(1,1),(2,1)]) (by simp [Tryz.ti3];try decide) ?_;simp [Instr.fill,Zo a,Zo b,show(Value.agg #[.int .i64 0,.int .i64 0,.int .i64 0]).cells=#[.int .i64 0,.int .i64 0,.int .i64 0]from rfl]
theorem Yag(a:v0.oneCell'=true)(b:v1.oneCell'=true)(c:v2.oneCell'=true):Tryz.prog.built 23 [(0,v0),(1,v1),(2,v2)]=some #[v0,v1,v2]:=by refine Xz Tryz.ti23 Tryz.underlying23 rfl (pl:=[(0,1),(1,1),(2,1)]) (by simp [Tryz.ti3];try decide) ?_;simp [Instr.fill,Zo a,Zo b,Zo c,show(Value.agg #[.int .i64 0,.int .i64 0,.int .i64 0]).cells=#[.int .i64 0,.int .i64 0,.int .i64 0]from rfl]
theorem Ze6(a:v0.oneCell'=true)(b:v2.oneCell'=true):Tryz.prog.built 23 [(0,v0),(2,v2)]=some #[v0,.int .i64 0,v2]:=by refine Xz Tryz.ti23 Tryz.underlying23 rfl (pl:=[(0,1),(1,1),(2,1)]) (by simp [Tryz.ti3];try decide) ?_;simp [Instr.fill,Zo a,Zo b,show(Value.agg #[.int .i64 0,.int .i64 0,.int .i64 0]).cells=#[.int .i64 0,.int .i64 0,.int .i64 0]from rfl]
theorem b23_2(a:v2.oneCell'=true):Tryz.prog.built 23 [(2,v2)]=some #[.int .i64 0,.int .i64 0,v2]:=by refine Xz Tryz.ti23 Tryz.underlying23 rfl (pl:=[(0,1),(1,1),(2,1)]) (by simp [Tryz.ti3];try decide) ?_;simp [Instr.fill,Zo a,show(Value.agg #[.int .i64 0,.int .i64 0,.int .i64 0]).cells=#[.int .i64 0,.int .i64 0,.int .i64 0]from rfl]
end Go.Sky
theorem Go.Proofs.Tryz.ti75:Go.Proofs.Tryz.prog.info? 75=some Go.Proofs.Tryz.t75:=Go.Sky.O6
namespace Go.Sky
open Go.Proofs
def Yn1{a b c:Value}(d:a.oneCell'=true)(e:b.oneCell'=true)(f:c.oneCell'=true):Tryz.prog.built 75 [(0,a),(1,b),(2,c)]=some #[a,b,c]:=by refine Xz Tryz.ti75 Tryz.underlying75 rfl (pl:=[(0,1),(1,1),(2,1)]) (by simp [Tryz.ti3];try decide) ?_;simp [Instr.fill,Zo d,Zo e,Zo f,show(Value.agg #[.int .i64 0,.int .i64 0,.int .i64 0]).cells=#[.int .i64 0,.int .i64 0,.int .i64 0]from rfl]
def Zhq{a b:Value}(c:a.oneCell'=true)(d:b.oneCell'=true):Tryz.prog.built 77 [(0,a),(1,b)]=some #[a,b]:=by refine Xz Tryz.ti77 Tryz.underlying77 rfl (pl:=[(0,1),(1,1)]) (by simp [Tryz.ti3];try decide) ?_;simp [Instr.fill,Zo c,Zo d,show(Value.agg #[.int .i64 0,.int .i64 0]).cells=#[.int .i64 0,.int .i64 0]from rfl]
end Go.Sky
theorem Go.Proofs.Tryz.ti81:Go.Proofs.Tryz.prog.info? 81=some Go.Proofs.Tryz.t81:=Go.Sky.O6
namespace Go.Sky
open Go.Proofs
end Go.Sky
theorem Go.Proofs.Tryz.ti79:Go.Proofs.Tryz.prog.info? 79=some Go.Proofs.Tryz.t79:=Go.Sky.O6
namespace Go.Sky
open Go.Proofs
def b81_:Tryz.prog.built 81 []=some #[.slice none 0 0,.slice none 0 0,.int .i64 0,.int .i64 0]:=by refine Xz Tryz.ti81 Tryz.underlying81 rfl (pl:=[(0,1),(1,1),(2,1),(3,1)]) (by simp [Tryz.ti3,Tryz.ti37,Tryz.ti79];try decide) ?_;simp [Instr.fill,show(Value.agg #[.slice none 0 0,.slice none 0 0,.int .i64 0,.int .i64 0]).cells=#[.slice none 0 0,.slice none 0 0,.int .i64 0,.int .i64 0]from rfl]
def b81_03{a b:Value}(c:a.oneCell'=true)(d:b.oneCell'=true):Tryz.prog.built 81 [(0,a),(3,b)]=some #[a,.slice none 0 0,.int .i64 0,b]:=by refine Xz Tryz.ti81 Tryz.underlying81 rfl (pl:=[(0,1),(1,1),(2,1),(3,1)]) (by simp [Tryz.ti3,Tryz.ti37,Tryz.ti79];try decide) ?_;simp [Instr.fill,Zo c,Zo d,show(Value.agg #[.slice none 0 0,.slice none 0 0,.int .i64 0,.int .i64 0]).cells=#[.slice none 0 0,.slice none 0 0,.int .i64 0,.int .i64 0]from rfl]
def Zwv{a b c d e:Value} : Tryz.prog.built 90 [(0,.agg #[a,b]),(1,.agg #[c,d,e])]=some #[a,b,c,d,e]:=by refine Xz Tryz.ti90 Tryz.underlying90 rfl (pl:=[(0,2),(2,3)]) (by simp [Tryz.ti23,Tryz.ti77];try decide) ?_;simp [Instr.fill,show(Value.agg #[a,b]).cells=#[a,b]from rfl,show(Value.agg #[c,d,e]).cells=#[c,d,e]from rfl,show(Value.agg #[.int .i64 0,.int .i64 0,.int .i64 0,.int .i64 0,.int .i64 0]).cells=#[.int .i64 0,.int .i64 0,.int .i64 0,.int .i64 0,.int .i64 0]from rfl]
end Go.Sky
theorem Go.Proofs.Tryz.ti4:Go.Proofs.Tryz.prog.info? 4=some Go.Proofs.Tryz.t4:=Go.Sky.O6
namespace Go.Sky
open Go.Proofs
def Yn3{a b:Value}(c:a.oneCell'=true)(d:b.oneCell'=true):Tryz.prog.built 137 [(0,a),(1,b)]=some #[a,b,.int .i64 0,.slice none 0 0,.slice none 0 0,.slice none 0 0]:=by refine Xz Tryz.ti137 Tryz.underlying137 rfl (pl:=[(0,1),(1,1),(2,1),(3,1),(4,1),(5,1)]) (by simp [Tryz.ti3,Tryz.ti40];try decide) ?_;simp [Instr.fill,Zo c,Zo d,show(Value.agg #[.int .i64 0,.int .i64 0,.int .i64 0,.slice none 0 0,.slice none 0 0,.slice none 0 0]).cells=#[.int .i64 0,.int .i64 0,.int .i64 0,.slice none 0 0,.slice none 0 0,.slice none 0 0]from rfl]
def Zuf{a b c d e f:Value}(g:a.oneCell'=true)(h:b.oneCell'=true)(i:c.oneCell'=true)(j:d.oneCell'=true)(k:e.oneCell'=true)(l:f.oneCell'=true):Tryz.prog.built 137 [(0,a),(1,b),(2,c),(3,d),(4,e),(5,f)]=some #[a,b,c,d,e,f]:=by refine Xz Tryz.ti137 Tryz.underlying137 rfl (pl:=[(0,1),(1,1),(2,1),(3,1),(4,1),(5,1)]) (by simp [Tryz.ti3,Tryz.ti40];try decide) ?_;simp [Instr.fill,Zo g,Zo h,Zo i,Zo j,Zo k,Zo l,show(Value.agg #[.int .i64 0,.int .i64 0,.int .i64 0,.slice none 0 0,.slice none 0 0,.slice none 0 0]).cells=#[.int .i64 0,.int .i64 0,.int .i64 0,.slice none 0 0,.slice none 0 0,.slice none 0 0]from rfl]
end Go.Sky
theorem Go.Proofs.Tryz.ti9:Go.Proofs.Tryz.prog.info? 9=some Go.Proofs.Tryz.t9:=Go.Sky.O6
namespace Go.Sky
open Go.Proofs
def Yiy:Tryz.prog.built 176 []=some #[.bool false,.string ⟨#[]⟩]:=by refine Xz Tryz.ti176 Tryz.underlying176 rfl (pl:=[(0,1),(1,1)]) (by simp [Tryz.ti4,Tryz.ti9];try decide) ?_;simp [Instr.fill,show(Value.agg #[.bool false,.string ⟨#[]⟩]).cells=#[.bool false,.string ⟨#[]⟩]from rfl]
def Yah{a b:Value}(c:a.oneCell'=true)(d:b.oneCell'=true):Tryz.prog.built 176 [(0,a),(1,b)]=some #[a,b]:=by refine Xz Tryz.ti176 Tryz.underlying176 rfl (pl:=[(0,1),(1,1)]) (by simp [Tryz.ti4,Tryz.ti9];try decide) ?_;simp [Instr.fill,Zo c,Zo d,show(Value.agg #[.bool false,.string ⟨#[]⟩]).cells=#[.bool false,.string ⟨#[]⟩]from rfl]
end Go.Sky
theorem Go.Proofs.Tryz.ti179:Go.Proofs.Tryz.prog.info? 179=some Go.Proofs.Tryz.t179:=Go.Sky.O6
namespace Go.Sky
open Go.Proofs
def Ycg{a b c d e f g h:Value} : Tryz.prog.built 179 [(0,.agg #[a,b]),(1,.agg #[c,d]),(2,.agg #[e,f]),(3,.agg #[g,h])]=some #[a,b,c,d,e,f,g,h]:=by refine Xz Tryz.ti179 Tryz.underlying179 rfl (pl:=[(0,2),(2,2),(4,2),(6,2)]) (by simp [Tryz.ti176];try decide) ?_;simp [Instr.fill,show(Value.agg #[a,b]).cells=#[a,b]from rfl,show(Value.agg #[c,d]).cells=#[c,d]from rfl,show(Value.agg #[e,f]).cells=#[e,f]from rfl,show(Value.agg #[g,h]).cells=#[g,h]from rfl,show(Value.agg #[.bool false,.string ⟨#[]⟩,.bool false,.string ⟨#[]⟩,.bool false,.string ⟨#[]⟩,.bool false,.string ⟨#[]⟩]).cells=#[.bool false,.string ⟨#[]⟩,.bool false,.string ⟨#[]⟩,.bool false,.string ⟨#[]⟩,.bool false,.string ⟨#[]⟩]from rfl]
end Go.Sky
theorem Go.Proofs.Tryz.ti195:Go.Proofs.Tryz.prog.info? 195=some Go.Proofs.Tryz.t195:=Go.Sky.O6
namespace Go.Sky
open Go.Proofs
def Zww{a b c:Value} : Tryz.prog.built 195 [(0,.agg #[a,b,c])]=some #[a,b,c]:=by refine Xz Tryz.ti195 Tryz.underlying195 rfl (pl:=[(0,3)]) (by simp [Tryz.ti75];try decide) ?_;simp [Instr.fill,show(Value.agg #[a,b,c]).cells=#[a,b,c]from rfl,show(Value.agg #[.int .i64 0,.int .i64 0,.int .i64 0]).cells=#[.int .i64 0,.int .i64 0,.int .i64 0]from rfl]
def Zue:Tryz.prog.built 209 []=some #[.bool false,.string ⟨#[]⟩,.bool false,.string ⟨#[]⟩]:=by refine Xz Tryz.ti209 Tryz.underlying209 rfl (pl:=[(0,2),(2,2)]) (by simp [Tryz.ti176];try decide) ?_;simp [Instr.fill,show(Value.agg #[.bool false,.string ⟨#[]⟩,.bool false,.string ⟨#[]⟩]).cells=#[.bool false,.string ⟨#[]⟩,.bool false,.string ⟨#[]⟩]from rfl]
def Zgp{a b c d:Value} : Tryz.prog.built 209 [(0,.agg #[a,b]),(1,.agg #[c,d])]=some #[a,b,c,d]:=by refine Xz Tryz.ti209 Tryz.underlying209 rfl (pl:=[(0,2),(2,2)]) (by simp [Tryz.ti176];try decide) ?_;simp [Instr.fill,show(Value.agg #[a,b]).cells=#[a,b]from rfl,show(Value.agg #[c,d]).cells=#[c,d]from rfl,show(Value.agg #[.bool false,.string ⟨#[]⟩,.bool false,.string ⟨#[]⟩]).cells=#[.bool false,.string ⟨#[]⟩,.bool false,.string ⟨#[]⟩]from rfl]
end Go.Sky
theorem Go.Proofs.Tryz.ti272:Go.Proofs.Tryz.prog.info? 272=some Go.Proofs.Tryz.t272:=Go.Sky.O6
namespace Go.Sky
open Go.Proofs
end Go.Sky
theorem Go.Proofs.Tryz.ti269:Go.Proofs.Tryz.prog.info? 269=some Go.Proofs.Tryz.t269:=Go.Sky.O6
namespace Go.Sky
open Go.Proofs
def Kp{a b:Value}(c:a.oneCell'=true)(d:b.oneCell'=true):Tryz.prog.built 272 [(0,a),(1,b)]=some #[a,b]:=by refine Xz Tryz.ti272 Tryz.underlying272 rfl (pl:=[(0,1),(1,1)]) (by simp [Tryz.ti269,Tryz.ti4];try decide) ?_;simp [Instr.fill,Zo c,Zo d,show(Value.agg #[.bool false,.slice none 0 0]).cells=#[.bool false,.slice none 0 0]from rfl]
def Yiv{a b c:Value}(d:a.oneCell'=true)(e:b.oneCell'=true)(f:c.oneCell'=true):Tryz.prog.built 284 [(0,a),(1,b),(2,c)]=some #[a,b,c]:=by refine Xz Tryz.ti284 Tryz.underlying284 rfl (pl:=[(0,1),(1,1),(2,1)]) (by simp [Tryz.ti133,Tryz.ti3];try decide) ?_;simp [Instr.fill,Zo d,Zo e,Zo f,show(Value.agg #[.int .i64 0,.int .i64 0,.slice none 0 0]).cells=#[.int .i64 0,.int .i64 0,.slice none 0 0]from rfl]
end Go.Sky
theorem Go.Proofs.Tryz.ti426:Go.Proofs.Tryz.prog.info? 426=some Go.Proofs.Tryz.t426:=Go.Sky.O6
namespace Go.Sky
open Go.Proofs
variable{N:Nat}{sc:Nat->Prop}{o:Oper}{env:Qi}{r:Value}{pre:List Pc}{t:TypeId}
theorem Yn2{a b c d e f g h:Value} : Tryz.prog.built 426 [(0,.agg #[a,b,c,d]),(1,.agg #[e,f,g,h])]=some #[a,b,c,d,e,f,g,h]:=by refine Xz Tryz.ti426 Tryz.underlying426 rfl (pl:=[(0,4),(4,4)]) (by simp [Tryz.ti209];try decide) ?_;simp [Instr.fill,show(Value.agg #[a,b,c,d]).cells=#[a,b,c,d]from rfl,show(Value.agg #[e,f,g,h]).cells=#[e,f,g,h]from rfl,show(Value.agg #[.bool false,.string ⟨#[]⟩,.bool false,.string ⟨#[]⟩,.bool false,.string ⟨#[]⟩,.bool false,.string ⟨#[]⟩]).cells=#[.bool false,.string ⟨#[]⟩,.bool false,.string ⟨#[]⟩,.bool false,.string ⟨#[]⟩,.bool false,.string ⟨#[]⟩]from rfl]
def J{α:Sort _}{a:α} : a=a:=rfl
def CA{α:Type _}(a:α)(s t:List α):(a::s) ++ t=a::(s ++ t):=rfl
def NA{α:Type _}(t:List α):[] ++ t=t:=rfl
abbrev Xk (P:Program) (f:FuncId) (a:Array Value) (p:List Pc) (v:Value):Prop:=Cal P f a p false (G:=Unit) (λ_=>True) (λ_=>v) (λ_=>[])
abbrev rX (x y:Int):Value:= .agg #[.bool (decide (x<0)),.string (Xo x.natAbs),.bool (decide (y<0)),.string (Xo y.natAbs)]
def vB{a b:Bool}(h:a=b):Value.bool a=Value.bool b:=aL _ h
def dF{P:Program}{H:Hp}(h:Ms P N sc o env H r)(e:r= .bool false):Ms P N sc o env H (.bool false):=Yw _ h e
def dT{P:Program}{H:Hp}(h:Ms P N sc o env H r)(e:r= .bool true):Ms P N sc o env H (.bool true):=Yw _ h e
def xG{P:Program}{H:Hp}{fn:Func}{al:Bool}{G:Type}{φ:G->Prop}{val:G->Value}{d:G->List Pc}{w0:World}{r1:ResultVar}{v:Value}(e:∀b,sc b->w0.heap.size<=b\/∃q∈pre,q.fp b)(g:G)(i:fn.results=#[r1])(h:RV P N sc env H r1 v)(k:val g=v)(j:φ g)(f:lk H 0=some (Zt w0 (λ_=>False)))(c:Give H al (d g)):X N sc .ret (Zah P fn w0 pre al φ val d) env H:=Fo (.inl rfl) e g (v:=v) (λa w hs=>Fd hs i h) k j f c
def K1{t0:Sort _}{a:t0} : a=a/\True:=⟨rfl,aA⟩
def K2{t0:Sort _}{a:t0}{t1:Sort _}{b:t1} : a=a/\b=b/\True:=⟨rfl,rfl,aA⟩
def K3{t0:Sort _}{a:t0}{t1:Sort _}{b:t1}{t2:Sort _}{c:t2} : a=a/\b=b/\c=c/\True:=⟨rfl,rfl,rfl,aA⟩
def K4{t0:Sort _}{a:t0}{t1:Sort _}{b:t1}{t2:Sort _}{c:t2}{t3:Sort _}{d:t3} : a=a/\b=b/\c=c/\d=d/\True:=⟨rfl,rfl,rfl,rfl,aA⟩
def K5{t0:Sort _}{a:t0}{t1:Sort _}{b:t1}{t2:Sort _}{c:t2}{t3:Sort _}{d:t3}{t4:Sort _}{e:t4} : a=a/\b=b/\c=c/\d=d/\e=e/\True:=⟨rfl,rfl,rfl,rfl,rfl,aA⟩
def K6{t0:Sort _}{a:t0}{t1:Sort _}{b:t1}{t2:Sort _}{c:t2}{t3:Sort _}{d:t3}{t4:Sort _}{e:t4}{t5:Sort _}{f:t5} : a=a/\b=b/\c=c/\d=d/\e=e/\f=f/\True:=⟨rfl,rfl,rfl,rfl,rfl,rfl,aA⟩
def K7{t0:Sort _}{a:t0}{t1:Sort _}{b:t1}{t2:Sort _}{c:t2}{t3:Sort _}{d:t3}{t4:Sort _}{e:t4}{t5:Sort _}{f:t5}{t6:Sort _}{g:t6} : a=a/\b=b/\c=c/\d=d/\e=e/\f=f/\g=g/\True:=⟨rfl,rfl,rfl,rfl,rfl,rfl,rfl,aA⟩
def K8{t0:Sort _}{a:t0}{t1:Sort _}{b:t1}{t2:Sort _}{c:t2}{t3:Sort _}{d:t3}{t4:Sort _}{e:t4}{t5:Sort _}{f:t5}{t6:Sort _}{g:t6}{t7:Sort _}{h:t7} : a=a/\b=b/\c=c/\d=d/\e=e/\f=f/\g=g/\h=h/\True:=⟨rfl,rfl,rfl,rfl,rfl,rfl,rfl,rfl,aA⟩
def K9{t0:Sort _}{a:t0}{t1:Sort _}{b:t1}{t2:Sort _}{c:t2}{t3:Sort _}{d:t3}{t4:Sort _}{e:t4}{t5:Sort _}{f:t5}{t6:Sort _}{g:t6}{t7:Sort _}{h:t7}{t8:Sort _}{i:t8} : a=a/\b=b/\c=c/\d=d/\e=e/\f=f/\g=g/\h=h/\i=i/\True:=⟨rfl,rfl,rfl,rfl,rfl,rfl,rfl,rfl,rfl,aA⟩
def K10{t0:Sort _}{a:t0}{t1:Sort _}{b:t1}{t2:Sort _}{c:t2}{t3:Sort _}{d:t3}{t4:Sort _}{e:t4}{t5:Sort _}{f:t5}{t6:Sort _}{g:t6}{t7:Sort _}{h:t7}{t8:Sort _}{i:t8}{t9:Sort _}{j:t9} : a=a/\b=b/\c=c/\d=d/\e=e/\f=f/\g=g/\h=h/\i=i/\j=j/\True:=⟨rfl,rfl,rfl,rfl,rfl,rfl,rfl,rfl,rfl,rfl,aA⟩
def K11{t0:Sort _}{b:t0}{t1:Sort _}{c:t1}{t2:Sort _}{d:t2}{t3:Sort _}{e:t3}{t4:Sort _}{f:t4}{t5:Sort _}{g:t5}{t6:Sort _}{h:t6}{t7:Sort _}{i:t7}{t8:Sort _}{j:t8}{t9:Sort _}{k:t9}{t10:Sort _}{a:t10} : b=b/\c=c/\d=d/\e=e/\f=f/\g=g/\h=h/\i=i/\j=j/\k=k/\a=a/\True:=⟨rfl,rfl,rfl,rfl,rfl,rfl,rfl,rfl,rfl,rfl,rfl,aA⟩
def K12{t0:Sort _}{c:t0}{t1:Sort _}{d:t1}{t2:Sort _}{e:t2}{t3:Sort _}{f:t3}{t4:Sort _}{g:t4}{t5:Sort _}{h:t5}{t6:Sort _}{i:t6}{t7:Sort _}{j:t7}{t8:Sort _}{k:t8}{t9:Sort _}{l:t9}{t10:Sort _}{a:t10}{t11:Sort _}{b:t11} : c=c/\d=d/\e=e/\f=f/\g=g/\h=h/\i=i/\j=j/\k=k/\l=l/\a=a/\b=b/\True:=⟨rfl,rfl,rfl,rfl,rfl,rfl,rfl,rfl,rfl,rfl,rfl,rfl,aA⟩
def K13{t0:Sort _}{d:t0}{t1:Sort _}{e:t1}{t2:Sort _}{f:t2}{t3:Sort _}{g:t3}{t4:Sort _}{h:t4}{t5:Sort _}{i:t5}{t6:Sort _}{j:t6}{t7:Sort _}{k:t7}{t8:Sort _}{l:t8}{t9:Sort _}{m:t9}{t10:Sort _}{a:t10}{t11:Sort _}{b:t11}{t12:Sort _}{c:t12} : d=d/\e=e/\f=f/\g=g/\h=h/\i=i/\j=j/\k=k/\l=l/\m=m/\a=a/\b=b/\c=c/\True:=⟨rfl,rfl,rfl,rfl,rfl,rfl,rfl,rfl,rfl,rfl,rfl,rfl,rfl,aA⟩
def K14{t0:Sort _}{e:t0}{t1:Sort _}{f:t1}{t2:Sort _}{g:t2}{t3:Sort _}{h:t3}{t4:Sort _}{i:t4}{t5:Sort _}{j:t5}{t6:Sort _}{k:t6}{t7:Sort _}{l:t7}{t8:Sort _}{m:t8}{t9:Sort _}{n:t9}{t10:Sort _}{a:t10}{t11:Sort _}{b:t11}{t12:Sort _}{c:t12}{t13:Sort _}{d:t13} : e=e/\f=f/\g=g/\h=h/\i=i/\j=j/\k=k/\l=l/\m=m/\n=n/\a=a/\b=b/\c=c/\d=d/\True:=⟨rfl,rfl,rfl,rfl,rfl,rfl,rfl,rfl,rfl,rfl,rfl,rfl,rfl,rfl,aA⟩
def K15{t0:Sort _}{f:t0}{t1:Sort _}{g:t1}{t2:Sort _}{h:t2}{t3:Sort _}{i:t3}{t4:Sort _}{j:t4}{t5:Sort _}{k:t5}{t6:Sort _}{l:t6}{t7:Sort _}{m:t7}{t8:Sort _}{n:t8}{t9:Sort _}{p:t9}{t10:Sort _}{a:t10}{t11:Sort _}{b:t11}{t12:Sort _}{c:t12}{t13:Sort _}{d:t13}{t14:Sort _}{e:t14} : f=f/\g=g/\h=h/\i=i/\j=j/\k=k/\l=l/\m=m/\n=n/\p=p/\a=a/\b=b/\c=c/\d=d/\e=e/\True:=⟨rfl,rfl,rfl,rfl,rfl,rfl,rfl,rfl,rfl,rfl,rfl,rfl,rfl,rfl,rfl,aA⟩
def K17{t0:Sort _}{h:t0}{t1:Sort _}{i:t1}{t2:Sort _}{j:t2}{t3:Sort _}{k:t3}{t4:Sort _}{l:t4}{t5:Sort _}{m:t5}{t6:Sort _}{n:t6}{t7:Sort _}{p:t7}{t8:Sort _}{q:t8}{t9:Sort _}{s:t9}{t10:Sort _}{a:t10}{t11:Sort _}{b:t11}{t12:Sort _}{c:t12}{t13:Sort _}{d:t13}{t14:Sort _}{e:t14}{t15:Sort _}{f:t15}{t16:Sort _}{g:t16} : h=h/\i=i/\j=j/\k=k/\l=l/\m=m/\n=n/\p=p/\q=q/\s=s/\a=a/\b=b/\c=c/\d=d/\e=e/\f=f/\g=g/\True:=⟨rfl,rfl,rfl,rfl,rfl,rfl,rfl,rfl,rfl,rfl,rfl,rfl,rfl,rfl,rfl,rfl,rfl,aA⟩
def cF294:=@Go.Proofs.Tryz.call294
def iA3:=@Go.Proofs.Tryz.isAgg3
def Kh:=@Go.Proofs.Tryz.sizeOf125
def Zb0:=@Go.Proofs.Tryz.sizeOf137
def Oa:=@Go.Proofs.Tryz.sizeOf176
def Ad:=@Go.Proofs.Tryz.sizeOf23
def Ca:=@Go.Proofs.Tryz.sizeOf3
def zT320:=@Go.Proofs.Tryz.sizeOf320
def Zqv:=@Go.Proofs.Tryz.sizeOf40
def Zar:=@Go.Proofs.Tryz.underlying125
def Zxb:=@Go.Proofs.Tryz.underlying132
def Pe:=@Go.Proofs.Tryz.underlying133
def Zfd:=@Go.Proofs.Tryz.underlying137
def Zmm:=@Go.Proofs.Tryz.underlying182
def uT225:=@Go.Proofs.Tryz.underlying225
def Po:=@Go.Proofs.Tryz.underlying269
def uT3:=@Go.Proofs.Tryz.underlying3
def Zfc:=@Go.Proofs.Tryz.underlying31
def Zjn:=@Go.Proofs.Tryz.underlying365
def Zml:=@Go.Proofs.Tryz.underlying366
def Fr:=@Go.Proofs.Tryz.underlying37
def uT384:=@Go.Proofs.Tryz.underlying384
def Le:=@Go.Proofs.Tryz.underlying40
def Zmk:=@Go.Proofs.Tryz.underlying418
def uT5:=@Go.Proofs.Tryz.underlying5
def Zjm:=@Go.Proofs.Tryz.underlying79
def uT9:=@Go.Proofs.Tryz.underlying9
open Go.ChangeShapes Go.WideShapes Go.ChangeAt Go.RowKit Go.Joins Go.Deep
variable {P:Program} {W:World} {H:Type} {enc:TypeId×Value->H}
theorem Zia{α:Type}[Inhabited α]{p:Nat->α->Prop} : ∀n,(∀i,i<n->∃x,p i x)->∃xs:List α,xs.length=n/\∀i x,xs[i]? = some x->p i x
 | 0,_=>⟨[],rfl,λi x h=>by simp at h⟩
 | n+1,h=>by
  obtain⟨xs,c,d⟩:=Zia n λi hi=>h i O;obtain⟨x,e⟩:=h n O;refine⟨xs ++ [x],by simp [c],λi y a=>?_⟩;rcases aX i n with hi|hi
  .rw [cW O]at a;exact d i y a
  .rw [dP O,c]at a;rcases aV (i-n)with b|b
   .rw [b]at a;simp at a;subst a;rw [show i=n by omega];exact e
   .rw [bQ O9]at a;cases a
theorem Zkh{r:Reach}{i:Nat}{e:TypeId}{a:Addr}{g c:Nat}(hs:P.underlying t=some (.slice e))(b:Value.okWide P W r i t (.slice (some a) g c)):a.spot=none/\a.block<W.heap.size:=by
 unfold Value.okWide at b;rw [hs]at b;simp only at b;unfold Cell.okWide at b;rw [hs]at b;simp only at b;unfold Cell.ok at b;rw [hs]at b;simp only at b;obtain⟨_,_,_,j,k,d,f,_⟩:=b;refine⟨j,?_⟩;unfold World.shape? at f;rcases aX a.block W.heap.size with h|h
 .exact h
 .rw [mE h]at f;simp at f
end Go.Sky
namespace Go.Sky
abbrev qT (z:SL×List (Int×SL)):Pc:=pp (Xp z.1) z.2
abbrev T0:SL×List (Int×SL):=((none,0,0),[])
abbrev intsT (zs:List (SL×List (Int×SL))):List (List Int):=zs.map λz=>ints z.2
set_option maxRecDepth 20000
def Kb{p:List Int}{c:Int}:(Yk p c).length<=p.length:=by unfold Yk;have:=Hj (p.map (· * c));rwa [aW]at this
def Ke{y:Int}(h:y≠0):∀n:Nat,y^n≠0
 | 0=>by rw [dD];omega
 | n+1=>by rw [eF];exact bG (Ke h n) h
def shm(q:List Int)(c:Int)(s i:Nat):List Int:=mk (s+i) λt=>if t<s then 0 else c*cf q (t-s)
def Yif(q:List Int)(c:Int)(s t:Nat):cf (shm q c s q.length) t=if s<=t/\t<s+q.length then c*cf q (t-s)else 0:=by
 unfold shm;rw [Ly];by_cases b:t<s
 .rw [aD (by omega:¬(s<=t/\t<s+q.length))];split
  .rfl
  .rfl
 .by_cases a:t<s+q.length
  .rw [aF a,aD b,aF (show s<=t/\t<s+q.length by omega)]
  .rw [aD a,aD (show ¬(s<=t/\t<s+q.length) by omega)]
section
variable {p q:List Int}
theorem Zj5(c:0<q.length)(b:q.length<=p.length):∀j,j<=p.length-q.length+1->∀t,p.length-j<=t->cf (Qx p q j) t=0
 | 0,_,t,d=>Yo (by unfold Qx;omega)
 | j+1,e,t,d=>by
  rcases aX t p.length with h|h
  .unfold Qx;rw [Zt8 (by rw [Lb];exact h)];by_cases a:t=p.length-1-j
   .subst a;rw [aF O,show p.length-1-j-(p.length-1-j-(q.length-1))=q.length-1 by omega];omega
   .rw [Zj5 c b j O t O,dC,aD O];rfl
  .exact Yo (by rw [Lb];omega)
def RestInv(p q R:List Int)(j:Nat):Prop:=Tr R/\∀t,cf R t=cf (Qx p q j) t*cf q (q.length-1)^(p.length-q.length+1-j)
end
end Go.Sky
namespace Go.Sky
section
variable {P:Program} {N:Nat} {sc:Nat->Prop} {env env':Qi} {H H':Hp}
end
end Go.Sky
namespace Go.Sky
variable{P:Program}{sc M:Nat->Prop}{ops:Array Oper}{rest:List (Nat×Nat)}{i:Nat}{b a s c:List Int}
def rterm(a b:Int):Nat->List Int
 | 0=>[1]
 | i+1=>Qr (rterm a b i) (tzl [a,b])
def rsum(p:List Int)(a b d:Int):Nat->List Int
 | 0=>[]
 | i+1=>Zcl (rsum p a b d i) (Yk (rterm a b i) (cf p i*d^(p.length-1-i)))
def hs(f:Nat->PS):Nat->PS
 | 0=>0
 | n+1=>hs f n+f n
def Yem(p:List Int):ps (tzl p)=ps p:=PS.ext' λi=>Ik p i
abbrev RW:=List (Bool×ByteArray)
abbrev qR (z:SL×RW):Pc:=Yt 2 Yhh (Xp z.1) z.2
abbrev qZ (z:SL×List Int):Pc:=Yt 2 wv (Xp z.1) z.2
abbrev R0:SL×RW:=((none,0,0),[])
def short1(r:RW):Bool:=(decide (r.length<=14) || decide (r.length=26)) && r.all λc=>decide (c.2.size<=16)
def shortb(d:List RW):Bool:=d.all short1
def Ah  {N:Nat}   {env:Qi} {H:Hp}  {F:Qi->Hp->Prop}   {o:Oper} {G:Type} {φ:G->Prop} {d:G->Qi} {k:G->Hp} {j e:Nat} {b:Bool} (p:ops[i]? = some o) (m:o.guard=some (j,b)) (n:(ops[j]?).bind (·.dst)=some e) (l:lk env e=some (.bool b)) (f:Nat.blt e N=true) (q:T P N sc M o env H φ d k)
  (h:∀g,φ g->LD P N sc M ops F rest (d g) (k g)) :
  LD P N sc M ops F ((i,1)::rest) env H:=r1g q p m n l f h
theorem Bk (k:Nat){f:Nat->Int} : ∀{n:Nat},k<n->(∀i,i<n->i≠k->f i=0)->Yb f n=f k
 | 0,d,_=>absurd d (cK _)
 | n+1,d,h=>by
  rw [Yl];by_cases e:k=n
  .subst e;rw [Ft λi hi=>h i O O,lB]
  .rw [h n O (λx=>e x.symm),Bk _ O (λi hi=>h i O),bP]
theorem Bu (q:List Int){p:List Int}{a b:Nat}(d:∀i,a<i->cf p i=0)(e:∀i,b<i->cf q i=0):(ps p*ps q).c (a+b)=cf p a*cf q b:=by
 rw [PS.mul_c,Bk a O λi hi f=>?_]
 .rw [Nl,Nl,show a+b-a=b by omega]
 .rw [Nl,Nl];rcases aX a i with h|h
  .rw [d i h,dC]
  .rw [e (a+b-i) O,eC]
theorem Zkq(s e:List Int)(c d:Int)(f:PS)(t:Nat):(ps (Zbo (Yk s c) (Yk e d))*f).c t=c*(ps s*f).c t-d*(ps e*f).c t:=by rw [PS.mul_c,PS.mul_c,PS.mul_c,<-Mh,dE,<-oK,<-Mh,<-De];refine Yz λk _=>?_;rw [Nl,Nl,Nl,Zby,Qo,Qo];grind
theorem Ylr{q r:List Int}(o:Tr q)(e:q≠[])(h:∀t,(ps s*ps q).c t=cf r t)(u:∀t,q.length-1<=t->cf r t=0):∀t,cf s t=0:=by
 have d:=o.mem e;have l:0<q.length:=aH.2 e;have hs:tzl s=[]:=by
  rcases Zio (tzl s)with f|⟨w,y,f⟩
  .exact f
  .exfalso;have v:=Qq s;have j:tzl s≠[]:=by rw [f];simp
   have m:=v.mem j;have k:=Bu q (p:=tzl s) (a:=(tzl s).length-1) (b:=q.length-1) (λi hi=>Yo O) (λi hi=>Yo O);have n:ps (tzl s)=ps s:=PS.ext' λi=>Ik s i;rw [n,h,u _ O]at k;rcases fA.1 k.symm with g|g
   .exact m g
   .exact d g
 exact(Lt s).1 hs
theorem Kd(h:∀t,cf s t=0)(f:PS)(t:Nat):(ps s*f).c t=0:=by rw [PS.mul_c];exact Ft λk _=>by rw [Nl,h,dC]
theorem Ma{p q:List Int}(f:Tr p)(g:Tr q)(d:p≠[])(e:q≠[]):(Qr p q).length=p.length+q.length-1:=by have h:=aH.2 d;have j:=aH.2 e;unfold Qr;rw [Zai,Yu];right;rw [Yu,Ly,aF O,show p.length+q.length-1-1=(p.length-1)+(q.length-1) by omega,Bu _ (λi hi=>Yo O) (λi hi=>Yo O)];exact bG (f.mem d) (g.mem e)
def mono(s:Nat)(c:Int):List Int:=List.replicate s 0 ++ [c]
theorem Zi8(s:Nat)(c:Int)(i:Nat):cf (mono s c) i=if i=s then c else 0:=by
 unfold mono;rw [Zdz,aT];split
 .rw [aD O];unfold cf;simp [aE,iG];split<;>rfl
 .rename_i h;split
  .rename_i d;subst d;simp [cf]
  .exact Yo O9
theorem Zkr(s:Nat)(c:Int)(f:PS)(t:Nat):(ps (mono s c)*f).c t=if s<=t then c*f.c (t-s)else 0:=by
 rw [PS.mul_c];split
 .rw [Bk s O λi _ d=>by rw [Nl,Zi8,aD d,dC],Nl,Zi8,aF rfl]
 .exact Ft λk e=>by rw [Nl,Zi8,aD O,dC]
theorem Zg4{p q:List Int}(r:0<q.length)(o:q.length<=p.length):∀j,j<=p.length-q.length+1->∃s:List Int,∀t,cf q (q.length-1)^j*cf p t=(ps s*ps q).c t+cf (Qx p q j) t
 | 0,_=>⟨[],λt=>by rw [Kd (λt=>Yo (bI _)),dD];unfold Qx;omega⟩
 | j+1,y=>by
  obtain⟨s,u⟩:=Zg4 r o j O;refine⟨Zbo (Yk s (cf q (q.length-1))) (Yk (mono (p.length-1-j-(q.length-1)) (cf (Qx p q j) (p.length-1-j))) (-1)),λt=>?_⟩;rw [Zkq,Zkr];have d:=u t;show _=_+cf (Zh0 q (Qx p q j) (p.length-1-j)) t;rw [eF];rcases aX t p.length with h|h
  .rw [Zt8 (by rw [Lb];exact h)];generalize p.length-1-j-(q.length-1)=g;generalize cf (Qx p q j) (p.length-1-j)=R;generalize cf (Qx p q j) t=m at d ⊢;generalize (ps s*ps q).c t=X at d ⊢;generalize cf q (q.length-1)^j=L at d ⊢;generalize cf q (q.length-1)=l at d ⊢;have e:L*l*cf p t=l*X+m*l:=by rw [eZ,dV l,<-eZ,d];grind
   rw [e];by_cases f:g<=t
   .rw [aF f,Nl];by_cases n:t<g+q.length
    .rw [aF ⟨f,n⟩];omega
    .rw [aD O,Yo (p:=q) (i:=t-_) O];omega
   .rw [aD f,aD O];omega
  .have k:cf p t=0:=Yo h;have v:cf (Qx p q j) t=0:=Yo (by rw [Lb];exact h);have w:cf (Zh0 q (Qx p q j) (p.length-1-j)) t=0:=Yo (by rw [Zf4,Lb];exact h);have x:cf q (t-(p.length-1-j-(q.length-1)))=0:=Yo O;rw [k,v,eC,bP]at d;rw [k,w,aF O,Nl,x,<-d];simp
theorem Zaw(p:List Int){q:List Int}(e:q≠[]):∃(k:Nat) (s:List Int),∀t,cf q (q.length-1)^k*cf p t=(ps s*ps q).c t+cf (Qk p q) t:=by
 have d:0<q.length:=aH.2 e;rcases aX p.length q.length with h|h
 .refine⟨0,[],λt=>?_⟩;rw [Kd (λt=>Yo (bI _)),dD];unfold Qk;rw [aF h];omega
 .obtain⟨s,hs⟩:=Zg4 d h _ (aI _);refine⟨p.length-q.length+1,s,λt=>?_⟩;rw [hs t];unfold Qk;rw [aD O,Ik]
theorem Pr(p:List Int){q:List Int}(e:q≠[]):(Qk p q).length<q.length:=by
 have d:0<q.length:=aH.2 e;unfold Qk;split
 .assumption
 .have:=Zbh (p:=Qx p q (p.length-q.length+1)) (n:=q.length-1) λi hi=>Zj5 d O _ (aI _) i O;omega
theorem Ip (q:List Int){p:List Int}(d:Tr p):Tr (Qk p q):=by
 unfold Qk;split
 .exact d
 .exact Qq _
def Sim(a b:List Int):Prop:=∃m n:Int,m≠0/\n≠0/\∀i,m*cf a i=n*cf b i
def Sim.refl(a:List Int):Sim a a:=⟨1,1,O3,O3,λ_=>rfl⟩
def Sim.symm : Sim a b->Sim b a:=λ⟨m,n,d,e,h⟩=>⟨n,m,e,d,λi=>(h i).symm⟩
theorem Sim.trans : Sim a b->Sim b c->Sim a c:=λ⟨m,n,d,e,h⟩ ⟨u,v,f,g,k⟩=>
 ⟨m*u,n*v,bG d f,bG e g,λi=>by have j:=h i;have l:=k i;grind⟩
theorem Sim.zero(h:Sim a b)(hi:cf a i=0):cf b i=0:=by
 obtain⟨m,n,e,d,h⟩:=h;have:=h i;rw [hi,eC]at this;rcases fA.1 this.symm with h|h
 .exact absurd h d
 .exact h
theorem Sim.len_le(h:Sim a b)(f:Tr b):b.length<=a.length:=by
 rcases aX a.length b.length with e|e
 .exfalso;have d:b≠[]:=aH.1 O;exact f.mem d (h.zero (Yo O))
 .exact e
def Sim.len(h:Sim a b)(d:Tr a)(e:Tr b):a.length=b.length:=jP (h.symm.len_le d) (h.len_le e)
theorem Sim.nil(h:Sim a b)(e:Tr b)(d:a=[]):b=[]:=by have:=h.len_le e;rw [d]at this;exact aG (by simpa using this)
theorem Zb3(c:Int):∀(p:List Int) (g:Int),0<=g->(p.map (· * c)).foldl (λg c=>(Int.gcd g c:Int)) (g*c.natAbs)=p.foldl (λg c=>(Int.gcd g c:Int)) g*c.natAbs
 | [],g,_=>rfl
 | x::p,g,hg=>by
  rw [cQ,gV,gV,<-Zb3 c p _ O];congr 1;have:Int.gcd (g*(c.natAbs:Int)) (x*c)=Int.gcd g x*c.natAbs:=by unfold Int.gcd;rw [cH,cH,eI,Nat.gcd_mul_right]
  rw [this];push_cast;rfl
theorem Zg8(p:List Int)(c:Int):Xl (p.map (· * c))=Xl p*c.natAbs:=by have:=Zb3 c p 0 (fE _);rw [dC]at this;exact this
theorem Fi(p:List Int)(i:Nat):cf (Yi p) i*Xl p=cf p i:=by rw [Za8];exact iE (Lr p i)
def Ya9:Yi []=[]:=rfl
def Za0{p:List Int}(h:Tr p)(d:p≠[]):Xl p≠0:=λe=>h.mem d ((Zck p).1 e _)
theorem Hs{p:List Int}(h:Tr p)(e:p≠[]):Xl (Yi p)=1:=by
 have j:=Za0 h e;have d:=Zg8 (Yi p) (Xl p);rw [show(Yi p).map (· * Xl p)=p from Ku (by rw [aW,Zy]) λi _=>by rw [Zc6 O8];exact Fi p i]at d;have k:=Mu p;have f:Xl p*(Xl (Yi p)-1)=0:=by rw [oJ,iD,dV];have:((Xl p).natAbs:Int)=Xl p:=O;rw [this]at d;omega
 rcases fA.1 f with g|g<;>omega
theorem Zfq{p:List Int}(h:Xl p=1):Yi p=p:=Ku (Zy p) λi _=>by rw [Za8,h,nY]
theorem Bq{p:List Int}(h:Tr p):Yi (Yi p)=Yi p:=by
 by_cases d:p=[]
 .subst d;rfl
 .exact Zfq (Hs h d)
theorem Qu{p:List Int}(h:Tr p):Sim (Yi p) p:=by
 by_cases d:p=[]
 .subst d;exact Sim.refl _
 .exact⟨Xl p,1,Za0 h d,O3,λi=>by rw [fG,dV];exact Fi p i⟩
def Xj(p:List Int):List Int:=Hz (Yi p)
theorem Zri{x y:List Int}(q:Tr x)(r:Tr y)(t:x≠[])(f:Xl x=1)(g:Xl y=1)(h:Sim x y):x=y\/∀i,cf x i=- cf y i:=by
 have d:=h.len q r;obtain⟨m,n,o,p,e⟩:=h;have j:=Zg8 x m;have k:=Zg8 y n;rw [show x.map (· * m)=y.map (· * n)from Ku (by simp [d]) λi _=>by rw [Zc6 O8,Zc6 O8,dV,dV (cf y i)];exact e i,k,f,g]at j
 have l:m=n\/m=-n:=O;rcases l with rfl|rfl
 .exact .inl (Ku d λi _=>gU o (e i))
 .exact .inr λi=>gU p (by have:=e i;grind)
theorem Bx(g:List Int)(i:Nat):cf (Hz g) i=if g.length≠0/\cf g (g.length-1)<0 then-cf g i else cf g i:=by
 unfold Hz;split
 .rw [Qo];omega
 .rfl
theorem Nw{g:List Int}(h:Tr g):Tr (Hz g):=by
 unfold Hz;split
 .exact Nq
 .exact h
theorem Ix(g:List Int):Sim (Hz g) g:=by
 by_cases h:g.length≠0/\cf g (g.length-1)<0
 .exact⟨-1,1,O3,O3,λi=>by rw [Bx,aF h];omega⟩
 .exact⟨1,1,O3,O3,λi=>by rw [Bx,aD h]⟩
theorem Zta:∀(f:Nat) {a b:List Int},Tr a->Tr b->Tr (eu f a b)
 | 0,_,_,h,_=>h
 | f+1,a,b,d,e=>by
  unfold eu;split
  .exact d
  .exact Zta f e (Xh (Ip _ d))
theorem Zze:∀(f:Nat) {a b:List Int},Tr a->Tr b->Yi a=a->Yi b=b->Yi (eu f a b)=eu f a b
 | 0,_,_,_,_,h,_=>h
 | f+1,a,b,d,j,e,g=>by
  unfold eu;split
  .exact e
  .exact Zze f j (Xh (Ip _ d)) g (Bq (Ip _ d))
theorem Zjp{p q:List Int}(d:Tr p)(e:Tr q):Tr (gA p q):=by unfold gA;split<;>exact Xh ‹_›
theorem Zjo{p q:List Int}(d:Tr p)(e:Tr q):Tr (gB p q):=by unfold gB;split<;>exact Xh ‹_›
theorem Yey{F:Nat}{p q:List Int}(d:Tr p)(e:Tr q):Nz F p q=Xj (eu F (gA p q) (gB p q)):=by
 unfold Nz Xj;rw [Zze F (Zjp d e) (Zjo d e)]
 .unfold gA;split
  .exact Bq e
  .exact Bq d
 .unfold gB;split
  .exact Bq d
  .exact Bq e
def chk:Nat->Nat->Nat->Nat->Nat->Bool
 | 0,_,d,_,_=>Nat.beq d 0
 | f+1,e,d,A,B=>Nat.beq d 0 || (bif Nat.blt e d then chk f d e B A else
   Nat.ble (A+(e-d+1)*B) 65537 && (List.range d).all λl=>chk f d l B (bif Nat.ble l 1 then 2 else A+(e-d+1)*B))
theorem cp_nf{p:List Int}{x y z:Int}{n m:Nat}(d:Sz n p)(k:bl x.natAbs<=m)(l:bl y.natAbs<=m)(o:bl z.natAbs<=m)(j:p.length<=25)(h:n+24*(m+1)+8<=65536):Qz p+(p.length-1)*(Qz [x,y,z]+1)+8<=65536:=by
 have e:=Pz d;have f:Qz [x,y,z]<=m:=by simp only [Qz];omega
 have g:(p.length-1)*(Qz [x,y,z]+1)<=24*(m+1):=aY O O;omega
theorem cp_not{p:List Int}{x y z:Int}(h:Qz p+(p.length-1)*(Qz [x,y,z]+1)+8<=65536):¬Zlp p x y z:=λd=>by have:=d.2;omega
theorem Zew(p:List Int)(x y z:Int):(Ks p x y z).length<=p.length:=by
 unfold Ks;split
 .exact bI _
 .refine aB (Hj _) ?_;rw [Zcq];omega
theorem Zsn(x y:Int):Mp x y∣x:=by
 unfold Mp;split
 .exact Int.neg_dvd.2 (iJ ..)
 .exact iJ ..
theorem Zky(x y:Int):Mp x y∣y:=by
 unfold Mp;split
 .exact Int.neg_dvd.2 (gE ..)
 .exact gE ..
def s8(l:List Int):Prop:=∀x∈l,(Xo x.natAbs).size<=8
abbrev Z0:SL×List Int:=((none,0,0),[])
theorem vp_eu:∀(f:Nat) {a b:List Int},Vp a->Vp b->eok f a b->Vp (eu f a b)
 | 0,_,_,h,_,_=>h
 | f+1,a,b,d,e,h=>by
  unfold eu;split
  .exact d
  .rcases h with h|h
   .contradiction
   .exact vp_eu f e (Im (Zca d h.1)) h.2
theorem Ycv{g:List Int}(h:Vp g):Vp (Hz g):=by
 unfold Hz;split
 .refine⟨λi=>by rw [Qo];exact Zbz h.sz i,Nq,aB Kb h.len⟩
 .exact h
def Yjy{F:Nat}{p q:List Int}(d:Vp p)(e:Vp q)(h:eok F (gA p q) (gB p q)):Vp (Nz F p q):=Ycv (vp_eu F (vp_gA d e) (vp_gB d e) h)
def pevn(p:List Int)(x y:Int)(n:Nat):Int:=Yb (λi=>cf p i*(x^i*y^(n-1-i))) n
def dn(p:List Int)(y:Int):Int:=y^(p.length-1)
def Dh(q:List Int):Qr [] q=[]:=Zfs (.inl rfl)
def Zev(p:List Int):Qr p []=[]:=Zfs (.inr rfl)
theorem Yfx(N D:Int):N/Mp N D*D=N*(D/Mp N D):=by have e:=iE (Zsn N D);have f:=iE (Zky N D);generalize N/Mp N D=n at *;generalize D/Mp N D=d at *;generalize Mp N D=g at *;subst e f;grind
theorem Ybo{N D:Int}(h:0<D):0<D/Mp N D:=by
 have f:Mp N D=(Int.gcd N D:Int):=aD O;have g:=iE (Zky N D);rw [f]at g ⊢;generalize D/(Int.gcd N D:Int)=d at *;rcases jL 0 d with e|e
 .exact e
 .exfalso;have:d*(Int.gcd N D:Int)<=0:=gQ e O;omega
section
variable {p q:List Int}
theorem Ze1(v:Tr p)(m:Tr q)(h:p≠[])(e:q≠[]):∀j,j<=p.length->∀t,cf (Pd (Qr p q) q j) t=(ps (p.take (p.length-j))*ps q).c t
 | 0,_,t=>by rw [iM,bT];exact He p q t
 | j+1,B,t=>by
  have w:=Ze1 v m h e j O;have D:=aH.2 h;have F:=aH.2 e;have u:=Ma v m h e;have y:Pd (Qr p q) q (j+1)=Zlj q (Pd (Qr p q) q j) (p.length-1-j):=by show Zlj q _ _=_;rw [u];congr 1;omega
  have n:=m.mem e;have d:cf (Pd (Qr p q) q j) (p.length-1-j+q.length-1)=cf p (p.length-1-j)*cf q (q.length-1):=by rw [w,show p.length-1-j+q.length-1=(p.length-1-j)+(q.length-1) by omega,Bu _ (λi hi=>by rw [El,aD O]) (λi hi=>Yo O),El,aF O]
  have l:dq q (Pd (Qr p q) q j) (p.length-1-j)=cf p (p.length-1-j):=by unfold dq;rw [d];exact nD _ n
  have z:(ps (p.take (p.length-j))*ps q).c t=(ps (p.take (p.length-(j+1)))*ps q).c t+(ps (mono (p.length-1-j) (cf p (p.length-1-j)))*ps q).c t:=by
   rw [PS.mul_c,PS.mul_c,PS.mul_c,<-De];refine Yz λk _=>?_;rw [Nl,Nl,Nl,Nl,El,El,Zi8];by_cases f:k=p.length-1-j
   .rw [aF O,aD O,aF f,<-f];omega
   .rw [aD f];by_cases o:k<p.length-j
    .rw [aF o,aF O];omega
    .rw [aD o,aD O];omega
  rw [y];unfold Zlj;rw [Ly,Zaq,u,l,w,z,Zkr,Nl];by_cases r:t<p.length+q.length-1
  .rw [aF r];by_cases g:p.length-1-j<=t
   .rw [aF g];by_cases x:t<p.length-1-j+q.length
    .rw [aF ⟨g,x⟩];omega
    .rw [aD O,Yo (p:=q) O];omega
   .rw [aD g,aD O];omega
  .rw [aD r,PS.mul_c];refine(Ft λk _=>?_).symm;rw [Nl,Nl,El];split
   .rw [Yo (p:=q) O,eC]
   .rw [dC]
theorem Zx6(j:Tr p)(l:Tr q)(e:q≠[]):pdv (Qr p q) q/\Hc (Qr p q) q=p:=by
 by_cases d:p=[]
 .subst d;rw [Dh];exact⟨.inl rfl,rfl⟩
 have u:=aH.2 d;have v:=aH.2 e;have r:=Ma j l d e;have n:=l.mem e;have o:∀k,k<=p.length-1->cf (Pd (Qr p q) q (p.length-1-k)) (k+q.length-1)=cf p k*cf q (q.length-1):=λk f=>by rw [Ze1 j l d e _ O,show k+q.length-1=k+(q.length-1) by omega,Bu _ (λi hi=>by rw [El,aD O]) (λi hi=>Yo O),El,aF O]
 have h:(Qr p q).length-q.length=p.length-1:=O;have m:Qr p q≠[]:=aH.1 O;refine⟨.inr ⟨O,λk f=>?_,?_⟩,?_⟩
 .unfold Ha;rw [h]at f ⊢;rw [o k f];exact Int.mul_emod_left _ _
 .rw [h,show p.length-1+1=p.length by omega];refine(Lt _).2 λi=>?_;rw [Ze1 j l d e _ (aI _),lA,eX];exact Kd (λt=>Yo (bI _)) _ _
 .rw [Zr3 m];unfold Yeq;rw [h,show p.length-1+1=p.length by omega,Gq (g:=cf p) λk f=>?_,Zix,Zai j];unfold Zzr dq;rw [h,o k O];exact nD _ n
end
def Dv(g a:List Int):Prop:=∃(k:Int) (s:List Int),k≠0/\∀t,k*cf a t=(ps s*ps g).c t
theorem Zsb(f:PS)(t:Nat):(ps [1]*f).c t=f.c t:=by rw [PS.mul_c,Bk 0 O λi _ d=>by rw [Nl,Yo (p:=[1]) O9,dC],Nl,show cf [1] 0=1 from rfl,fG,iM]
theorem Dv.refl(a:List Int):Dv a a:=⟨1,[1],O3,λt=>by rw [Zsb,fG,Nl]⟩
theorem Dv.nil(g:List Int):Dv g []:=⟨1,[],O3,λt=>by rw [Kd (λt=>Yo (bI _)),Yo (bI _)];rfl⟩
theorem Dv.sim{g:List Int} : Dv g a->Sim a b->Dv g b:=λ⟨k,s,d,h⟩ ⟨m,n,j,f,e⟩=>
 ⟨k*n,Yk s m,bG d f,λt=>by rw [PS.mul_c,show(λi=>(ps (Yk s m)).c i*(ps g).c (t-i))=λi=>m*((ps s).c i*(ps g).c (t-i))from oO λi=>by rw [Nl,Nl,Nl,Qo];grind,Mh,<-PS.mul_c,<-h,Int.mul_assoc,<-e];grind⟩
theorem Dv.lin{g:List Int}(r:Dv g a)(w:Dv g b)(s:List Int)(L:Int)(o:L≠0)(h:∀t,L*cf c t=(ps s*ps a).c t+cf b t):Dv g c:=by
 obtain⟨k,u,x,j⟩:=r;obtain⟨m,v,y,l⟩:=w;refine⟨L*(k*m),Zcl (Yk (Qr s u) m) (Yk v k),bG o (bG x y),λt=>?_⟩;have z:ps g=ps g:=rfl;have d:k*(ps s*ps a).c t=(ps (Qr s u)*ps g).c t:=by rw [Yk7,PS.mul_assoc',PS.mul_c,PS.mul_c,<-Mh];refine Yz λi _=>?_;rw [<-j,Nl,Nl];grind
 have e:(ps (Zcl (Yk (Qr s u) m) (Yk v k))*ps g).c t=m*(ps (Qr s u)*ps g).c t+k*(ps v*ps g).c t:=by rw [PS.mul_c,PS.mul_c,PS.mul_c,<-Mh,<-Mh,<-De];refine Yz λi _=>?_;rw [Nl,Nl,Nl,Nl,Zz6,Qo,Qo];grind
 have f:=h t;have n:=l t;rw [e,<-d,<-n];generalize (ps s*ps a).c t=X at *;generalize cf c t=C at *;generalize cf b t=B at *;have:L*(k*m)*C=k*m*(L*C):=O4;rw [this,f];grind
theorem eu_dv:∀(f:Nat) {a b:List Int},Tr a->Tr b->eok f a b->Dv (eu f a b) a/\Dv (eu f a b) b
 | 0,a,b,l,g,h=>by rw [show b=[]from h];exact⟨Dv.refl _,Dv.nil _⟩
 | f+1,a,b,l,g,h=>by
  by_cases d:b=[]
  .subst d;rw [Zhk];exact⟨Dv.refl _,Dv.nil _⟩
  .rcases h with h|h
   .exact absurd h d
   .have e:eu (f+1) a b=eu f b (Yi (Qk a b)):=by
     conv=>lhs;unfold eu
     rw [aD d]
    rw [e];have t1:=Ip b l;obtain⟨j,m⟩:=eu_dv f g (Xh t1) h.2;obtain⟨k,s,hs⟩:=Zaw a d;exact⟨j.lin (m.sim (Qu t1)) s _ (Ke (g.mem d) k) hs,j⟩
theorem Dv.of_sim{g d:List Int} : Dv g a->Sim g d->Dv d a:=λ⟨k,s,f,h⟩ ⟨m,n,j,l,e⟩=>
 ⟨m*k,Yk s n,bG j f,λt=>by rw [eZ,h,PS.mul_c,PS.mul_c,<-Mh];refine Yz λi _=>?_;rw [Nl,Nl,Nl,Nl,Qo];have:=e (t-i);grind⟩
theorem Dv.zero(f:Tr a)(h:Dv [] a):a=[]:=by
 obtain⟨k,s,g,h⟩:=h;rw [<-Zai f,Lt];intro i;have e:=h i;rw [PS.mul_comm',Kd (λt=>Yo (bI _))]at e;rcases fA.1 e with d|d
 .exact absurd d g
 .exact d
theorem Zdl{F:Nat}{p q:List Int}(g:Tr p)(j:Tr q)(h:eok F (gA p q) (gB p q)):Dv (Nz F p q) p/\Dv (Nz F p q) q:=by
 have k:=Zjp g j;have l:=Zjo g j;obtain⟨d,e⟩:=eu_dv F k l h;have hs:Sim (eu F (gA p q) (gB p q)) (Nz F p q):=(Ix _).symm;have d:=d.of_sim hs;have e:=e.of_sim hs;by_cases f:p.length<q.length
 .rw [show gA p q=Yi q from aF f]at d;rw [show gB p q=Yi p from aF f]at e;exact⟨e.sim (Qu g),d.sim (Qu j)⟩
 .rw [show gA p q=Yi p from aD f]at d;rw [show gB p q=Yi q from aD f]at e;exact⟨d.sim (Qu g),e.sim (Qu j)⟩
def Zfe (F:Nat){p q:List Int}(d:Tr p)(e:Tr q):Tr (Nz F p q):=Nw (Zta F (Zjp d e) (Zjo d e))
theorem Zu0(p:List Int){c:Int}(h:c≠0):Sim p (Yk p c):=⟨c,1,h,O3,λi=>by rw [Qo];grind⟩
def fin8(d A:Nat):Bool:=Nat.ble d 2 || Nat.ble (64+(9-d)*A) 65536
def chk2:Nat->Nat->Nat->Nat->Nat->Bool
 | 0,d,_,A,_=>fin8 d A
 | f+1,d,e,A,B=>bif Nat.beq e 0 then fin8 d A else bif Nat.blt d e then chk2 f e d B A else
   (List.range e).all λl=>chk2 f e l B (bif Nat.ble l 1 then 2 else A+(d-e+1)*B)
def Zbr{g:List Int}(h:Tr g):(Hz g).length=g.length:=(Ix g).len (Nw h) h
theorem Zh3(g:List Int):Xl (Hz g)=Xl g:=by
 have d:Xl (Hz g)∣Xl g:=Dj λi=>by
  have h:=Lr (Hz g) i;rw [Bx]at h;split at h
  .exact nB.1 h
  .exact h
 have e:Xl g∣Xl (Hz g):=Dj λi=>by
  rw [Bx];split
  .exact nB.2 (Lr g i)
  .exact Lr g i
 exact Int.dvd_antisymm (Mu _) (Mu _) d e
theorem Zkg{F:Nat}{p q:List Int}(f:Tr p)(g:Tr q)(d:Nz F p q≠[]):Xl (Nz F p q)=1:=by rw [Yey f g]at d ⊢;unfold Xj at d ⊢;rw [Zh3];refine Hs (Zta F (Zjp f g) (Zjo f g)) λe=>d ?_;rw [e];rfl
end Go.Sky
namespace Go.Sky
variable{p xs:List Int}
def Zau(xs:List Int):Prop:=xs.length=0\/(xs.length+2)*(xs.length+2)*(Qz xs+16)<=65536
instance (xs:List Int):Decidable (Zau xs):=by unfold Zau;infer_instance
def sqf(F:Nat)(xs:List Int):List Int:=Hc (Xj xs) (Nz F (Xj xs) (Xb (Xj xs)))
def Ykh(F:Nat)(xs:List Int):Prop:=(∀i,i<xs.length->bl (cf (Xj xs) (i+1)*((i:Int)+1)).natAbs<=65536)/\¬Znd (Xj xs) (Xb (Xj xs))/\eok F (gA (Xj xs) (Xb (Xj xs))) (gB (Xj xs) (Xb (Xj xs)))/\
 Ba (Xj xs) (Nz F (Xj xs) (Xb (Xj xs)))=0/\pdv (Xj xs) (Nz F (Xj xs) (Xb (Xj xs)))
def Nk(x y:List Int):List Int:=if cf y (y.length-1)<0/\(x.length-y.length+1)%2=1 then Yi (Qk x y)else Yk (Yi (Qk x y)) (-1)
def cok:Nat->List Int->List Int->Prop
 | 0,_,y=>y=[]
 | f+1,x,y=>y=[]\/(Ba x y=0/\y.length<=x.length/\cok f y (Nk x y))
def Mn:Nat->List Int->List Int->List (List Int)
 | 0,x,_=>[x]
 | f+1,x,y=>if y=[]then [x]else x::Mn f y (Nk x y)
theorem Bn(f:Nat)(x:List Int):Mn f x []=[x]:=by cases f<;>rfl
theorem Zlr{f:Nat}{a b:List Int}(h:cok f a b)(c:b≠[]):∃g,f=g+1/\Ba a b=0/\b.length<=a.length/\cok g b (Nk a b)/\Mn f a b=a::Mn g b (Nk a b):=by
 cases f with
 | zero=>exact absurd h c
 | succ g=>
  rcases h with h|h
  .exact absurd h c
  .exact⟨g,rfl,h.1,h.2.1,h.2.2,by show(if b=[]then [a]else _)=_;rw [aD c]⟩
def chn(F:Nat)(xs:List Int):List (List Int):=Mn F (sqf F xs) (Yi (Xb (sqf F xs)))
def Aj(F:Nat)(xs:List Int):Prop:=Ykh F xs/\(∀i,i<xs.length->bl (cf (sqf F xs) (i+1)*((i:Int)+1)).natAbs<=65536)/\cok F (sqf F xs) (Yi (Xb (sqf F xs)))
theorem Ycu(h:Vp p):Vp (Xj p):=by
 unfold Xj;have a:=Im h;refine⟨λi=>?_,Nw a.tr,by rw [Zbr a.tr];exact a.len⟩;rw [Bx];split
 .rw [iH];exact a.sz i
 .exact a.sz i
theorem Pp(h:Tr p):(Xj p).length=p.length:=by unfold Xj;rw [Zbr (Xh h),Zy]
theorem Zq3{x y:List Int}(b:Vp x)(a:Ba x y=0):Vp (Nk x y):=by
 have h:=Im (Zca b a);unfold Nk;split
 .exact h
 .exact⟨λi=>by rw [Qo];exact Zbz h.sz i,Nq,aB Kb h.len⟩
def Me(s:Int×Int)(x:Int):Int×Int:=if x=0 then s else(if x=-s.2 then s.1+1 else s.1,x)
def chg(l:List Int):Int:=(l.foldl Me (0,0)).1
def Zey{α β:Type}(f:α->β->α)(a:α)(l:List β)(x:β):(l ++ [x]).foldl f a=f (l.foldl f a) x:=O8
theorem chg1_n(s:Int×Int)(x:Int):(Me s x).1=s.1\/(Me s x).1=s.1+1:=by
 unfold Me;split
 .exact .inl rfl
 .dsimp only;split
  .exact .inr rfl
  .exact .inl rfl
def sgs(a:List (List Int))(x y:Int):List Int:=a.map λp=>(pev p x y).sign
def sgr(a:List (List Int)):List Int:=a.map λp=>(cf p (p.length-1)).sign
def sgl(a:List (List Int)):List Int:=a.map λp=>if p.length%2=0 then-(cf p (p.length-1)).sign else(cf p (p.length-1)).sign
def smost(xs:List Int):Nat:=(xs.take (xs.length-1)).foldl (λm c=>max m c.natAbs) 0
def sbound(xs:List Int):Int:=((smost xs/(cf xs (xs.length-1)).natAbs:Nat):Int)+2
def Zwk(xs:List Int):Int:=if xs.length=0 then 3 else if Zau xs then 0 else 7
def ef(z:Int×Int):Bool:=decide (512<bl z.1.natAbs) || decide (512<bl z.2.natAbs)
def chk2r(xs:List Int)(x y a b:Int):Int:=if xs.length=0 then 3 else if 0<x*b-a*y then 3 else if Zau xs/\ef (x,y)=false/\ef (a,b)=false then 0 else 7
theorem Ynp(a:xs≠[])(h:Zau xs):Zwk xs=0:=by unfold Zwk;rw [aD (λe=>a (aG e)),aF h]
theorem Zyh(h:¬cf (Yi xs) ((Yi xs).length-1)<0):Xj xs=Yi xs:=by unfold Xj Hz;rw [aD O]
theorem Zyi(a:(Yi xs).length≠0)(h:cf (Yi xs) ((Yi xs).length-1)<0):Xj xs=Yk (Yi xs) (-1):=by unfold Xj Hz;rw [aF ⟨a,h⟩]
end Go.Sky

