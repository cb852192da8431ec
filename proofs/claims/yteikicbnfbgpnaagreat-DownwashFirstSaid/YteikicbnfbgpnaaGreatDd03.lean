/- Rules, arithmetic and contracts: part 4. No conditions but those that each theorem names. -/
import Derived.Test.YteikicbnfbgpnaaGreatDd02
import Derived.Test.YteikicbnfbgpnaaGreatProg
import Derived.Test.YteikicbnfbgpnaaGreatRows
import Derived.WalkKit
import Derived.ProofKit
import Derived.OpenShut
import Derived.ShutString
import Derived.ChangeOld
import Derived.Deep.Slices
import Derived.Lib.SmallJoins
set_option linter.all false
namespace Go.Sky
open Go.Proofs
def pU:Enc Tryz.prog 232 1 Mw:=Enc.flat Tryz.sizeOf232 Tryz.isAgg232 (λ_=>rfl)
def pB:Enc Tryz.prog 5 1 Zi7:=Enc.flat Tryz.sizeOf5 Tryz.isAgg5 (λ_=>rfl)
def pN:Enc Tryz.prog 3 1 Kt:=Enc.flat Tryz.sizeOf3 Tryz.isAgg3 (λ_=>rfl)
def pZ:Enc Tryz.prog 3 1 Yl:=Enc.flat Tryz.sizeOf3 Tryz.isAgg3 (λ_=>rfl)
def Zig(args:Array Value)(w:World):(callFunc 269 args).run Tryz.prog w=((add64Entry args).run Tryz.prog w).andThen λv w'=> .ok (.value v) w':=
 run_callFunc_extern Tryz.func269 O7 O7 O7 O7 args w
def Yco(args:Array Value)(w:World):(callFunc 270 args).run Tryz.prog w=((Ze3 args).run Tryz.prog w).andThen λv w'=> .ok (.value v) w':=
 run_callFunc_extern Tryz.func270 O7 O7 O7 O7 args w
end Go.Sky
theorem Go.Proofs.Tryz.ti232:Go.Proofs.Tryz.prog.info? 232=some Go.Proofs.Tryz.t232:=Go.Sky.O7
namespace Go.Sky
open Go.Proofs
end Go.Sky
theorem Go.Proofs.Tryz.ti5:Go.Proofs.Tryz.prog.info? 5=some Go.Proofs.Tryz.t5:=Go.Sky.O7
namespace Go.Sky
open Go.Proofs
end Go.Sky
theorem Go.Proofs.Tryz.ti3:Go.Proofs.Tryz.prog.info? 3=some Go.Proofs.Tryz.t3:=Go.Sky.O7
namespace Go.Sky
open Go.Proofs
def pW:Enc Tryz.prog 80 2 Zxi:=Enc.agg O3 Tryz.sizeOf80 Tryz.isAgg80 (λx=>⟨[.bool x.1,.string x.2],rfl,rfl,O11⟩)
def pV:Enc Tryz.prog 80 2 wv:=Enc.agg O3 Tryz.sizeOf80 Tryz.isAgg80 (λx=>⟨[.bool (decide (x<0)),.string (Qv x.natAbs)],rfl,rfl,O11⟩)
def pI:Enc Tryz.prog 89 2 Mi:=Enc.agg O3 Tryz.sizeOf89 Tryz.isAgg89 (λx=>⟨[.bool (decide (x.1<0)),Xn x.2],rfl,rfl,O11⟩)
def pS{α:Type} : Enc Tryz.prog 40 1 (Nf (α:=α)):=Enc.flat Tryz.sizeOf40 Tryz.isAgg40 (λ_=>rfl)
def pY:Enc Tryz.prog 276 8 iq:=Enc.agg O3 Tryz.sizeOf276 Tryz.isAgg276 (λx=>⟨[.bool (decide (x.1.1<0)),.string (Qv x.1.1.natAbs),.bool (decide (x.1.2<0)),.string (Qv x.1.2.natAbs),.bool (decide (x.2.1<0)),.string (Qv x.2.1.natAbs),.bool (decide (x.2.2<0)),.string (Qv x.2.2.natAbs)],rfl,rfl,O11⟩)
def pQ:Enc Tryz.prog 82 4 rq:=Enc.agg O3 Tryz.sizeOf82 Tryz.isAgg82 (λx=>⟨[.bool (decide (x.1<0)),.string (Qv x.1.natAbs),.bool (decide (x.2<0)),.string (Qv x.2.natAbs)],rfl,rfl,O11⟩)
def pR:Enc Tryz.prog 82 4 encQ:=Enc.agg O3 Tryz.sizeOf82 Tryz.isAgg82 (λx=>⟨[.bool x.1.1,.string x.1.2,.bool x.2.1,.string x.2.2],rfl,rfl,O11⟩)
def sh80:Tryz.prog.stoodInHeld 80=false:=O7
def eg80:Tryz.prog.eqGuardType Tryz.prog.depth 80=false:=O7
def in80(d:Nat)(w:World)(a:Bool)(s:ByteArray)(b:Bool)(t:ByteArray):(Op.equalIn (d+2) 80 (.agg #[.bool a,.string s]) (.agg #[.bool b,.string t])).run Tryz.prog w= .ok (eqW a s b t) w:=by
 have c:Tryz.prog.underlying 80=some (.struct (Tryz.prog.fieldsOf 80)):=by unfold Program.fieldsOf;rw [Tryz.underlying80]
 rw [run_equalIn_agg w (d+1) 80 _ _ c sh80];unfold Program.fieldsOf;rw [Tryz.underlying80];simp [Op.eqFields,part,Tryz.isAgg4,Tryz.isAgg9,run_equalIn_bool' _ _ _ _ _ Tryz.underlying4,run_equalIn_string _ _ _ _ _ Tryz.underlying9];unfold eqW;cases hab:(a == b)
 .simp_all
 .by_cases h:s.toList=t.toList<;>simp_all
def eql80(w:World)(a:Bool)(s:ByteArray)(b:Bool)(t:ByteArray):(binOp .eql 80 (.agg #[.bool a,.string s]) (.agg #[.bool b,.string t])).run Tryz.prog w= .ok (.bool (eqW a s b t)) w:=by rw [run_eql_struct,in80];rfl
def neq80(w:World)(a:Bool)(s:ByteArray)(b:Bool)(t:ByteArray):(binOp .neq 80 (.agg #[.bool a,.string s]) (.agg #[.bool b,.string t])).run Tryz.prog w= .ok (.bool (!eqW a s b t)) w:=by rw [run_neq_struct,in80];rfl
end Go.Sky
theorem Go.Proofs.Tryz.ti33:Go.Proofs.Tryz.prog.info? 33=some Go.Proofs.Tryz.t33:=Go.Sky.O7
namespace Go.Sky
open Go.Proofs
end Go.Sky
theorem Go.Proofs.Tryz.ti35:Go.Proofs.Tryz.prog.info? 35=some Go.Proofs.Tryz.t35:=Go.Sky.O7
namespace Go.Sky
open Go.Proofs
end Go.Sky
theorem Go.Proofs.Tryz.ti38:Go.Proofs.Tryz.prog.info? 38=some Go.Proofs.Tryz.t38:=Go.Sky.O7
namespace Go.Sky
open Go.Proofs
end Go.Sky
theorem Go.Proofs.Tryz.ti40:Go.Proofs.Tryz.prog.info? 40=some Go.Proofs.Tryz.t40:=Go.Sky.O7
namespace Go.Sky
open Go.Proofs
end Go.Sky
theorem Go.Proofs.Tryz.ti47:Go.Proofs.Tryz.prog.info? 47=some Go.Proofs.Tryz.t47:=Go.Sky.O7
namespace Go.Sky
open Go.Proofs
end Go.Sky
theorem Go.Proofs.Tryz.ti80:Go.Proofs.Tryz.prog.info? 80=some Go.Proofs.Tryz.t80:=Go.Sky.O7
namespace Go.Sky
open Go.Proofs
end Go.Sky
theorem Go.Proofs.Tryz.ti82:Go.Proofs.Tryz.prog.info? 82=some Go.Proofs.Tryz.t82:=Go.Sky.O7
namespace Go.Sky
open Go.Proofs
end Go.Sky
theorem Go.Proofs.Tryz.ti89:Go.Proofs.Tryz.prog.info? 89=some Go.Proofs.Tryz.t89:=Go.Sky.O7
namespace Go.Sky
open Go.Proofs
end Go.Sky
theorem Go.Proofs.Tryz.ti91:Go.Proofs.Tryz.prog.info? 91=some Go.Proofs.Tryz.t91:=Go.Sky.O7
namespace Go.Sky
open Go.Proofs
end Go.Sky
theorem Go.Proofs.Tryz.ti130:Go.Proofs.Tryz.prog.info? 130=some Go.Proofs.Tryz.t130:=Go.Sky.O7
namespace Go.Sky
open Go.Proofs
end Go.Sky
theorem Go.Proofs.Tryz.ti23:Go.Proofs.Tryz.prog.info? 23=some Go.Proofs.Tryz.t23:=Go.Sky.O7
namespace Go.Sky
open Go.Proofs
def Ypx{a b c:Value}(d:a.oneCell'=true)(e:b.oneCell'=true)(f:c.oneCell'=true):Tryz.prog.built 23 [(0,a),(1,b),(2,c)]=some #[a,b,c]:=by refine Qo _ Tryz.ti23 Tryz.underlying23 rfl (pl:=[(0,1),(1,1),(2,1)]) (by simp [Tryz.ti3];try decide) ?_;simp [Instr.fill,Yb d,Yb e,Yb f,show(Value.agg #[.int .i64 0,.int .i64 0,.int .i64 0]).cells=#[.int .i64 0,.int .i64 0,.int .i64 0]from rfl]
end Go.Sky
theorem Go.Proofs.Tryz.ti25:Go.Proofs.Tryz.prog.info? 25=some Go.Proofs.Tryz.t25:=Go.Sky.O7
namespace Go.Sky
open Go.Proofs
variable{v0 v1:Value}
theorem Yb6{a:Value}(b:v0.oneCell'=true)(c:v1.oneCell'=true)(d:a.oneCell'=true):Tryz.prog.built 25 [(0,v0),(1,v1),(2,a)]=some #[v0,v1,a]:=by refine Qo _ Tryz.ti25 Tryz.underlying25 rfl (pl:=[(0,1),(1,1),(2,1)]) (by simp [Tryz.ti3];try decide) ?_;simp [Instr.fill,Yb b,Yb c,Yb d,show(Value.agg #[.int .i64 0,.int .i64 0,.int .i64 0]).cells=#[.int .i64 0,.int .i64 0,.int .i64 0]from rfl]
theorem b35_:Tryz.prog.built 35 []=some #[.int .i64 0,.int .i64 0,.int .i64 0,.slice none 0 0,.slice none 0 0,.slice none 0 0]:=by refine Qo _ Tryz.ti35 Tryz.underlying35 rfl (pl:=[(0,1),(1,1),(2,1),(3,1),(4,1),(5,1)]) (by simp [Tryz.ti3,Tryz.ti33];try decide) ?_;simp [Instr.fill,show(Value.agg #[.int .i64 0,.int .i64 0,.int .i64 0,.slice none 0 0,.slice none 0 0,.slice none 0 0]).cells=#[.int .i64 0,.int .i64 0,.int .i64 0,.slice none 0 0,.slice none 0 0,.slice none 0 0]from rfl]
theorem b35_01(a:v0.oneCell'=true)(b:v1.oneCell'=true):Tryz.prog.built 35 [(0,v0),(1,v1)]=some #[v0,v1,.int .i64 0,.slice none 0 0,.slice none 0 0,.slice none 0 0]:=by refine Qo _ Tryz.ti35 Tryz.underlying35 rfl (pl:=[(0,1),(1,1),(2,1),(3,1),(4,1),(5,1)]) (by simp [Tryz.ti3,Tryz.ti33];try decide) ?_;simp [Instr.fill,Yb a,Yb b,show(Value.agg #[.int .i64 0,.int .i64 0,.int .i64 0,.slice none 0 0,.slice none 0 0,.slice none 0 0]).cells=#[.int .i64 0,.int .i64 0,.int .i64 0,.slice none 0 0,.slice none 0 0,.slice none 0 0]from rfl]
theorem Zm1{a b c d:Value}(e:v0.oneCell'=true)(f:v1.oneCell'=true)(g:a.oneCell'=true)(h:b.oneCell'=true)(i:c.oneCell'=true)(j:d.oneCell'=true):Tryz.prog.built 35 [(0,v0),(1,v1),(2,a),(3,b),(4,c),(5,d)]=some #[v0,v1,a,b,c,d]:=by refine Qo _ Tryz.ti35 Tryz.underlying35 rfl (pl:=[(0,1),(1,1),(2,1),(3,1),(4,1),(5,1)]) (by simp [Tryz.ti3,Tryz.ti33];try decide) ?_;simp [Instr.fill,Yb e,Yb f,Yb g,Yb h,Yb i,Yb j,show(Value.agg #[.int .i64 0,.int .i64 0,.int .i64 0,.slice none 0 0,.slice none 0 0,.slice none 0 0]).cells=#[.int .i64 0,.int .i64 0,.int .i64 0,.slice none 0 0,.slice none 0 0,.slice none 0 0]from rfl]
end Go.Sky
theorem Go.Proofs.Tryz.ti64:Go.Proofs.Tryz.prog.info? 64=some Go.Proofs.Tryz.t64:=Go.Sky.O7
namespace Go.Sky
open Go.Proofs
def Zyb:Tryz.prog.built 64 []=some #[.int .i64 0,.int .i64 0,.int .i64 0,.int .i64 0]:=by refine Qo _ Tryz.ti64 Tryz.underlying64 rfl (pl:=[(0,1),(1,1),(2,1),(3,1)]) (by simp [Tryz.ti3];try decide) ?_;simp [Instr.fill,show(Value.agg #[.int .i64 0,.int .i64 0,.int .i64 0,.int .i64 0]).cells=#[.int .i64 0,.int .i64 0,.int .i64 0,.int .i64 0]from rfl]
def Zm0{a b c d:Value}(e:a.oneCell'=true)(f:b.oneCell'=true)(g:c.oneCell'=true)(h:d.oneCell'=true):Tryz.prog.built 64 [(0,a),(1,b),(2,c),(3,d)]=some #[a,b,c,d]:=by refine Qo _ Tryz.ti64 Tryz.underlying64 rfl (pl:=[(0,1),(1,1),(2,1),(3,1)]) (by simp [Tryz.ti3];try decide) ?_;simp [Instr.fill,Yb e,Yb f,Yb g,Yb h,show(Value.agg #[.int .i64 0,.int .i64 0,.int .i64 0,.int .i64 0]).cells=#[.int .i64 0,.int .i64 0,.int .i64 0,.int .i64 0]from rfl]
end Go.Sky
theorem Go.Proofs.Tryz.ti4:Go.Proofs.Tryz.prog.info? 4=some Go.Proofs.Tryz.t4:=Go.Sky.O7
namespace Go.Sky
open Go.Proofs
end Go.Sky
theorem Go.Proofs.Tryz.ti9:Go.Proofs.Tryz.prog.info? 9=some Go.Proofs.Tryz.t9:=Go.Sky.O7
namespace Go.Sky
open Go.Proofs
variable{v0 v1 c0_0 c0_1 c1_0 c1_1:Value}
theorem b80_:Tryz.prog.built 80 []=some #[.bool false,.string ⟨#[]⟩]:=by refine Qo _ Tryz.ti80 Tryz.underlying80 rfl (pl:=[(0,1),(1,1)]) (by simp [Tryz.ti4,Tryz.ti9];try decide) ?_;simp [Instr.fill,show(Value.agg #[.bool false,.string ⟨#[]⟩]).cells=#[.bool false,.string ⟨#[]⟩]from rfl]
theorem Zya(a:v0.oneCell'=true)(b:v1.oneCell'=true):Tryz.prog.built 80 [(0,v0),(1,v1)]=some #[v0,v1]:=by refine Qo _ Tryz.ti80 Tryz.underlying80 rfl (pl:=[(0,1),(1,1)]) (by simp [Tryz.ti4,Tryz.ti9];try decide) ?_;simp [Instr.fill,Yb a,Yb b,show(Value.agg #[.bool false,.string ⟨#[]⟩]).cells=#[.bool false,.string ⟨#[]⟩]from rfl]
theorem Yk7:Tryz.prog.built 82 []=some #[.bool false,.string ⟨#[]⟩,.bool false,.string ⟨#[]⟩]:=by refine Qo _ Tryz.ti82 Tryz.underlying82 rfl (pl:=[(0,2),(2,2)]) (by simp [Tryz.ti80];try decide) ?_;simp [Instr.fill,show(Value.agg #[.bool false,.string ⟨#[]⟩,.bool false,.string ⟨#[]⟩]).cells=#[.bool false,.string ⟨#[]⟩,.bool false,.string ⟨#[]⟩]from rfl]
theorem Zmz : Tryz.prog.built 82 [(0,.agg #[c0_0,c0_1]),(1,.agg #[c1_0,c1_1])]=some #[c0_0,c0_1,c1_0,c1_1]:=by refine Qo _ Tryz.ti82 Tryz.underlying82 rfl (pl:=[(0,2),(2,2)]) (by simp [Tryz.ti80];try decide) ?_;simp [Instr.fill,show(Value.agg #[c0_0,c0_1]).cells=#[c0_0,c0_1]from rfl,show(Value.agg #[c1_0,c1_1]).cells=#[c1_0,c1_1]from rfl,show(Value.agg #[.bool false,.string ⟨#[]⟩,.bool false,.string ⟨#[]⟩]).cells=#[.bool false,.string ⟨#[]⟩,.bool false,.string ⟨#[]⟩]from rfl]
theorem Zx9:Tryz.prog.built 89 []=some #[.bool false,.slice none 0 0]:=by refine Qo _ Tryz.ti89 Tryz.underlying89 rfl (pl:=[(0,1),(1,1)]) (by simp [Tryz.ti33,Tryz.ti4];try decide) ?_;simp [Instr.fill,show(Value.agg #[.bool false,.slice none 0 0]).cells=#[.bool false,.slice none 0 0]from rfl]
theorem Yk6(a:v0.oneCell'=true)(b:v1.oneCell'=true):Tryz.prog.built 89 [(0,v0),(1,v1)]=some #[v0,v1]:=by refine Qo _ Tryz.ti89 Tryz.underlying89 rfl (pl:=[(0,1),(1,1)]) (by simp [Tryz.ti33,Tryz.ti4];try decide) ?_;simp [Instr.fill,Yb a,Yb b,show(Value.agg #[.bool false,.slice none 0 0]).cells=#[.bool false,.slice none 0 0]from rfl]
theorem Yk5 : Tryz.prog.built 91 [(0,.agg #[c0_0,c0_1]),(1,.agg #[c1_0,c1_1])]=some #[c0_0,c0_1,c1_0,c1_1]:=by refine Qo _ Tryz.ti91 Tryz.underlying91 rfl (pl:=[(0,2),(2,2)]) (by simp [Tryz.ti89];try decide) ?_;simp [Instr.fill,show(Value.agg #[c0_0,c0_1]).cells=#[c0_0,c0_1]from rfl,show(Value.agg #[c1_0,c1_1]).cells=#[c1_0,c1_1]from rfl,show(Value.agg #[.bool false,.slice none 0 0,.bool false,.slice none 0 0]).cells=#[.bool false,.slice none 0 0,.bool false,.slice none 0 0]from rfl]
theorem Zvl{a:Value}(b:v0.oneCell'=true)(c:v1.oneCell'=true)(d:a.oneCell'=true):Tryz.prog.built 130 [(0,v0),(1,v1),(2,a)]=some #[v0,v1,a]:=by refine Qo _ Tryz.ti130 Tryz.underlying130 rfl (pl:=[(0,1),(1,1),(2,1)]) (by simp [Tryz.ti3,Tryz.ti40];try decide) ?_;simp [Instr.fill,Yb b,Yb c,Yb d,show(Value.agg #[.int .i64 0,.int .i64 0,.slice none 0 0]).cells=#[.int .i64 0,.int .i64 0,.slice none 0 0]from rfl]
end Go.Sky
theorem Go.Proofs.Tryz.ti162:Go.Proofs.Tryz.prog.info? 162=some Go.Proofs.Tryz.t162:=Go.Sky.O7
namespace Go.Sky
open Go.Proofs
def Zoz{a b c d e f g h:Value} : Tryz.prog.built 162 [(0,.agg #[a,b]),(1,.agg #[c,d]),(2,.agg #[e,f]),(3,.agg #[g,h])]=some #[a,b,c,d,e,f,g,h]:=by refine Qo _ Tryz.ti162 Tryz.underlying162 rfl (pl:=[(0,2),(2,2),(4,2),(6,2)]) (by simp [Tryz.ti80];try decide) ?_;simp [Instr.fill,show(Value.agg #[a,b]).cells=#[a,b]from rfl,show(Value.agg #[c,d]).cells=#[c,d]from rfl,show(Value.agg #[e,f]).cells=#[e,f]from rfl,show(Value.agg #[g,h]).cells=#[g,h]from rfl,show(Value.agg #[.bool false,.string ⟨#[]⟩,.bool false,.string ⟨#[]⟩,.bool false,.string ⟨#[]⟩,.bool false,.string ⟨#[]⟩]).cells=#[.bool false,.string ⟨#[]⟩,.bool false,.string ⟨#[]⟩,.bool false,.string ⟨#[]⟩,.bool false,.string ⟨#[]⟩]from rfl]
end Go.Sky
theorem Go.Proofs.Tryz.ti189:Go.Proofs.Tryz.prog.info? 189=some Go.Proofs.Tryz.t189:=Go.Sky.O7
namespace Go.Sky
open Go.Proofs
def Zm2{a b c:Value}(d:a.oneCell'=true)(e:b.oneCell'=true)(f:c.oneCell'=true):Tryz.prog.built 189 [(0,a),(1,b),(2,c)]=some #[a,b,c]:=by refine Qo _ Tryz.ti189 Tryz.underlying189 rfl (pl:=[(0,1),(1,1),(2,1)]) (by simp [Tryz.ti3,Tryz.ti33];try decide) ?_;simp [Instr.fill,Yb d,Yb e,Yb f,show(Value.agg #[.slice none 0 0,.slice none 0 0,.int .i64 0]).cells=#[.slice none 0 0,.slice none 0 0,.int .i64 0]from rfl]
end Go.Sky
theorem Go.Proofs.Tryz.ti219:Go.Proofs.Tryz.prog.info? 219=some Go.Proofs.Tryz.t219:=Go.Sky.O7
namespace Go.Sky
open Go.Proofs
end Go.Sky
theorem Go.Proofs.Tryz.ti217:Go.Proofs.Tryz.prog.info? 217=some Go.Proofs.Tryz.t217:=Go.Sky.O7
namespace Go.Sky
open Go.Proofs
def Ky{a b:Value}(c:a.oneCell'=true)(d:b.oneCell'=true):Tryz.prog.built 219 [(0,a),(1,b)]=some #[a,b]:=by refine Qo _ Tryz.ti219 Tryz.underlying219 rfl (pl:=[(0,1),(1,1)]) (by simp [Tryz.ti217,Tryz.ti4];try decide) ?_;simp [Instr.fill,Yb c,Yb d,show(Value.agg #[.bool false,.slice none 0 0]).cells=#[.bool false,.slice none 0 0]from rfl]
end Go.Sky
theorem Go.Proofs.Tryz.ti276:Go.Proofs.Tryz.prog.info? 276=some Go.Proofs.Tryz.t276:=Go.Sky.O7
namespace Go.Sky
open Go.Proofs
variable{N:Nat}{sc:Nat->Prop}{o:Oper}{env:Pz}{r:Value}{t:TypeId}
theorem Ypw{a b c d e f g h:Value} : Tryz.prog.built 276 [(0,.agg #[a,b,c,d]),(1,.agg #[e,f,g,h])]=some #[a,b,c,d,e,f,g,h]:=by refine Qo _ Tryz.ti276 Tryz.underlying276 rfl (pl:=[(0,4),(4,4)]) (by simp [Tryz.ti82];try decide) ?_;simp [Instr.fill,show(Value.agg #[a,b,c,d]).cells=#[a,b,c,d]from rfl,show(Value.agg #[e,f,g,h]).cells=#[e,f,g,h]from rfl,show(Value.agg #[.bool false,.string ⟨#[]⟩,.bool false,.string ⟨#[]⟩,.bool false,.string ⟨#[]⟩,.bool false,.string ⟨#[]⟩]).cells=#[.bool false,.string ⟨#[]⟩,.bool false,.string ⟨#[]⟩,.bool false,.string ⟨#[]⟩,.bool false,.string ⟨#[]⟩]from rfl]
def J{α:Sort _}{a:α} : a=a:=rfl
abbrev Xy (P:Program) (f:FuncId) (a:Array Value) (p:List Pc) (v:Value):Prop:=Cal P f a p false (G:=Unit) (λ_=>True) (λ_=>v) (λ_=>[])
abbrev rX (x y:Int):Value:= .agg #[.bool (decide (x<0)),.string (Qv x.natAbs),.bool (decide (y<0)),.string (Qv y.natAbs)]
def vB{a b:Bool}(h:a=b):Value.bool a=Value.bool b:=aI _ h
def dF{P:Program}{H:Hp}(h:Mx P N sc o env H r)(e:r= .bool false):Mx P N sc o env H (.bool false):=Qh h e
def dT{P:Program}{H:Hp}(h:Mx P N sc o env H r)(e:r= .bool true):Mx P N sc o env H (.bool true):=Qh h e
def K1{t0:Sort _}{a:t0} : a=a/\True:=⟨rfl,aA⟩
def K2{t0:Sort _}{a:t0}{t1:Sort _}{b:t1} : a=a/\b=b/\True:=⟨rfl,rfl,aA⟩
def K3{t0:Sort _}{a:t0}{t1:Sort _}{b:t1}{t2:Sort _}{c:t2} : a=a/\b=b/\c=c/\True:=⟨rfl,rfl,rfl,aA⟩
def K4{t0:Sort _}{a:t0}{t1:Sort _}{b:t1}{t2:Sort _}{c:t2}{t3:Sort _}{d:t3} : a=a/\b=b/\c=c/\d=d/\True:=⟨rfl,rfl,rfl,rfl,aA⟩
def K6{t0:Sort _}{a:t0}{t1:Sort _}{b:t1}{t2:Sort _}{c:t2}{t3:Sort _}{d:t3}{t4:Sort _}{e:t4}{t5:Sort _}{f:t5} : a=a/\b=b/\c=c/\d=d/\e=e/\f=f/\True:=⟨rfl,rfl,rfl,rfl,rfl,rfl,aA⟩
def K8{t0:Sort _}{a:t0}{t1:Sort _}{b:t1}{t2:Sort _}{c:t2}{t3:Sort _}{d:t3}{t4:Sort _}{e:t4}{t5:Sort _}{f:t5}{t6:Sort _}{g:t6}{t7:Sort _}{h:t7} : a=a/\b=b/\c=c/\d=d/\e=e/\f=f/\g=g/\h=h/\True:=⟨rfl,rfl,rfl,rfl,rfl,rfl,rfl,rfl,aA⟩
def K12{t0:Sort _}{c:t0}{t1:Sort _}{d:t1}{t2:Sort _}{e:t2}{t3:Sort _}{f:t3}{t4:Sort _}{g:t4}{t5:Sort _}{h:t5}{t6:Sort _}{i:t6}{t7:Sort _}{j:t7}{t8:Sort _}{k:t8}{t9:Sort _}{l:t9}{t10:Sort _}{a:t10}{t11:Sort _}{b:t11} : c=c/\d=d/\e=e/\f=f/\g=g/\h=h/\i=i/\j=j/\k=k/\l=l/\a=a/\b=b/\True:=⟨rfl,rfl,rfl,rfl,rfl,rfl,rfl,rfl,rfl,rfl,rfl,rfl,aA⟩
def Lx:=@Go.Proofs.Tryz.call202
def iA3:=@Go.Proofs.Tryz.isAgg3
def Ks:=@Go.Proofs.Tryz.sizeOf232
def Ii:=@Go.Proofs.Tryz.sizeOf3
def Zcg:=@Go.Proofs.Tryz.sizeOf33
def Hj:=@Go.Proofs.Tryz.sizeOf35
def Kf:=@Go.Proofs.Tryz.sizeOf80
def Zaj:=@Go.Proofs.Tryz.sizeOf89
def Zat:=@Go.Proofs.Tryz.underlying121
def Yex:=@Go.Proofs.Tryz.underlying130
def Zns:=@Go.Proofs.Tryz.underlying166
def Ao:=@Go.Proofs.Tryz.underlying193
def Zij:=@Go.Proofs.Tryz.underlying197
def Oh:=@Go.Proofs.Tryz.underlying217
def Zas:=@Go.Proofs.Tryz.underlying232
def Zkg:=@Go.Proofs.Tryz.underlying242
def Znr:=@Go.Proofs.Tryz.underlying243
def Znq:=@Go.Proofs.Tryz.underlying268
def uT3:=@Go.Proofs.Tryz.underlying3
def Pq:=@Go.Proofs.Tryz.underlying33
def Bu:=@Go.Proofs.Tryz.underlying35
def Kn:=@Go.Proofs.Tryz.underlying38
def Ylz:=@Go.Proofs.Tryz.underlying39
def Mo:=@Go.Proofs.Tryz.underlying40
def Zhg:=@Go.Proofs.Tryz.underlying46
def Kc:=@Go.Proofs.Tryz.underlying47
def uT5:=@Go.Proofs.Tryz.underlying5
def Zvx:=@Go.Proofs.Tryz.underlying50
def Zkf:=@Go.Proofs.Tryz.underlying61
def uT9:=@Go.Proofs.Tryz.underlying9
open Go.ChangeShapes Go.WideShapes Go.ChangeAt Go.RowKit Go.Joins Go.Deep
variable {P:Program} {W:World} {H:Type} {enc:TypeId×Value->H}
theorem Zdd{α:Type}[Inhabited α]{p:Nat->α->Prop} : ∀n,(∀i,i<n->∃x,p i x)->∃xs:List α,xs.length=n/\∀i x,xs[i]? = some x->p i x
 | 0,_=>⟨[],rfl,λi x h=>by simp at h⟩
 | n+1,h=>by
  obtain⟨xs,c,d⟩:=Zdd n λi hi=>h i O;obtain⟨x,e⟩:=h n O;refine⟨xs ++ [x],by simp [c],λi y a=>?_⟩;rcases bA i n with hi|hi
  .rw [cW O]at a;exact d i y a
  .rw [dM O,c]at a;rcases aV (i-n)with b|b
   .rw [b]at a;simp at a;subst a;rw [show i=n by omega];exact e
   .rw [bF O8]at a;cases a
theorem Zli{r:Reach}{i:Nat}{e:TypeId}{a:Addr}{g c:Nat}(hs:P.underlying t=some (.slice e))(b:Value.okWide P W r i t (.slice (some a) g c)):a.spot=none/\a.block<W.heap.size:=by
 unfold Value.okWide at b;rw [hs]at b;simp only at b;unfold Cell.okWide at b;rw [hs]at b;simp only at b;unfold Cell.ok at b;rw [hs]at b;simp only at b;obtain⟨_,_,_,j,k,d,f,_⟩:=b;refine⟨j,?_⟩;unfold World.shape? at f;rcases bA a.block W.heap.size with h|h
 .exact h
 .rw [mK h]at f;simp at f
end Go.Sky
namespace Go.Sky
variable{P:Program}{f:FuncId}{args:Array Value}{pre:List Pc}{φ:Value×List (Int×SL)->Prop}{x:Int}{R:List Int}
theorem Cal.toS     {al:Bool} 
  (h:Cal P f args pre al (G:=Value×List (Int×SL)) φ (λr=>r.1) (λr=>[pp r.1 r.2])) :
  Cal P f args pre al (G:=SL×List (Int×SL)) (λr=>φ (Xn r.1,r.2)) (λr=>Xn r.1) (λr=>[pp (Xn r.1) r.2]):=λw l=>by
 refine(h w l).mono λe n ⟨g,k,m,j,hi⟩=>?_;obtain⟨v,z⟩:=g;have b:=(hi _ (bR ..)).1;obtain⟨a,c,d,_⟩:=Zc n b;have i:v=Xn (a,z.length,c):=d;subst i;exact⟨((a,z.length,c),z),k,m,j,hi⟩
abbrev qT (z:SL×List (Int×SL)):Pc:=pp (Xn z.1) z.2
abbrev T0:SL×List (Int×SL):=((none,0,0),[])
abbrev Cw (zs:List (SL×List (Int×SL))):List (List Int):=zs.map λz=>Zb z.2
set_option maxRecDepth 20000
theorem Zrr{K:Nat}{f:Nat->Int}{n:Nat}(h:∀i,i<n->bl (f i).natAbs<=K)(a:n<=1023):bl (Yf f n).natAbs<=K+10:=by rw [Qm];have b:=Zx6 h;have c:n*(2^K-1)<=1023*(2^K-1):=aK _ a;have d:0<2^K:=dL K;rw [bW];omega
theorem La(zs:List (Int×SL))(z:Int×SL):Zb (zs ++ [z])=Zb zs ++ [z.1]:=by simp [Zb]
def Yne(p q:List Int):tzl (mk (max p.length q.length) λt=>cf p t+cf q t)=Fg p q:=rfl
theorem Zwn(p:List Int)(c:Int):tzl (mk p.length λt=>cf p t*c)=Zs p c:=by rw [Zqf p (· * c)];rfl
def Ym9(p q:List Int):tzl (mk (p.length+q.length-1) λt=>Yf (λk=>cf p k*cf q (t-k)) (t+1))=Qn p q:=rfl
theorem Aq{m:Nat}(h:bl x.natAbs<=m)(n:Nat):bl (x^n).natAbs<=n*m+1:=by
 rcases aV n with a|a
 .rw [a,cL];have:bl (1:Int).natAbs=1:=O3;omega
 .have:=Fa x h n a;omega
theorem Pt(p:List Int)(c:Int):(Zs p c).length<=p.length:=by unfold Zs;have:=Mp (p.map (· * c));rwa [aP]at this
theorem Yhi(p q:List Int):(Fg p q).length<=max p.length q.length:=by unfold Fg;have:=Mp (mk (max p.length q.length) λi=>cf p i+cf q i);rwa [Yu]at this
theorem bl_i1{i:Nat}(h:i<=1000):bl ((i:Int)+1).natAbs<=1000000000:=by have a:=Og (show((i:Int)+1).natAbs<=1001 by omega);have b:bl 1001<=10:=O3;omega
theorem ev_tb{p:List Int}{y:Int}(hs:Sz 1000000 p)(a:∀k,bl (x^k).natAbs<=k*1000000+1)(b:∀k,bl (y^k).natAbs<=k*1000000+1)(l:p.length<=30)(t:Nat):bl (cf p t*(x^t*y^(p.length-1-t))).natAbs<=100000000:=by
 rcases bA t p.length with h|h
 .have c:=a t;have d:=b (p.length-1-t);have e:=Yq (x^t) (y^(p.length-1-t));have g:=Yq (cf p t) (x^t*y^(p.length-1-t));have i:=hs t;have j:t*1000000+(p.length-1-t)*1000000<=30*1000000:=by rw [<-bH];exact aK _ O
  omega
 .rw [Yg h,cN];exact bG _
theorem Nn{y:Int}(h:y≠0):∀n:Nat,y^n≠0
 | 0=>by rw [cL];omega
 | n+1=>by rw [dA];exact bK (Nn h n) h
theorem Zw2(xs ys:List Int):xs.map wr=ys.map wr↔xs=ys:=by refine⟨λh=>?_,λh=>by rw [h]⟩;exact List.map_inj_right (λx y h=>Yeo (aI Prod.fst h) (aI Prod.snd h)) |>.1 h
theorem Cal.imp2{m p q:Pc}{al:Bool}{G:Type}{φ:G->Prop}{Yr:G->Value}{i:G->List Pc}(h:Cal P f args (m::p::pre) al φ Yr i)(y:∀w,q.holds w->p.holds w)(u:∀b,p.fp b->q.fp b) :
  Cal P f args (m::q::pre) al φ Yr i:=λw k=>by
 refine(h w λr a=>?_).mono ?_
 .rcases bQ.1 a with rfl|a
  .exact k _ (bR ..)
  .rcases bQ.1 a with rfl|a
   .exact y w (k q (bI _ (bR ..)))
   .exact k r (bI _ (bI _ a))
 .rintro e B ⟨g,t,v,j,d⟩;refine⟨g,t,v,j,λz l=>?_⟩;obtain⟨n,o,s⟩:=d z l;refine⟨n,o,λb j=>?_⟩;rcases s b j with h|⟨h,r,a,c⟩
  .exact .inl h
  .refine .inr ⟨h,?_⟩;rcases bQ.1 a with rfl|a
   .exact⟨r,bR ..,c⟩
   .rcases bQ.1 a with rfl|a
    .exact⟨q,bI _ (bR ..),u b c⟩
    .exact⟨r,bI _ (bI _ a),c⟩
def shm(q:List Int)(c:Int)(s i:Nat):List Int:=mk (s+i) λt=>if t<s then 0 else c*cf q (t-s)
theorem Zfw(q:List Int)(c:Int)(s:Nat):List.replicate s 0=shm q c s 0:=by rw [Zpq];unfold shm;exact Hy λi hi=>by rw [aF hi]
theorem Zfx(q:List Int)(c:Int)(s i:Nat):shm q c s i ++ [c*cf q i]=shm q c s (i+1):=by unfold shm;rw [show s+(i+1)=s+i+1 by omega,Gy,aD O,show s+i-s=i by omega]
theorem Zrn(q:List Int)(c:Int)(s t:Nat):cf (shm q c s q.length) t=if s<=t/\t<s+q.length then c*cf q (t-s)else 0:=by
 unfold shm;rw [Nq];by_cases b:t<s
 .rw [aD (by omega:¬(s<=t/\t<s+q.length))];split
  .rfl
  .rfl
 .by_cases a:t<s+q.length
  .rw [aF a,aD b,aF (show s<=t/\t<s+q.length by omega)]
  .rw [aD a,aD (show ¬(s<=t/\t<s+q.length) by omega)]
section
variable {p q:List Int}
theorem Ze6(c:0<q.length)(b:q.length<=p.length):∀j,j<=p.length-q.length+1->∀t,p.length-j<=t->cf (Qk p q j) t=0
 | 0,_,t,d=>Yg (by unfold Qk;omega)
 | j+1,e,t,d=>by
  rcases bA t p.length with h|h
  .unfold Qk;rw [Zg4 (by rw [Pi];exact h)];by_cases a:t=p.length-1-j
   .subst a;rw [aF O,show p.length-1-j-(p.length-1-j-(q.length-1))=q.length-1 by omega];omega
   .rw [Ze6 c b j O t O,cN,aD O];rfl
  .exact Yg (by rw [Pi];omega)
theorem Zcq(d:0<q.length)(c:q.length<=p.length){j:Nat} : ∀k,j+k<=p.length-q.length+1->(∀t,p.length-(j+k)<=t->cf (Qk p q j) t=0)->∀t,cf (Qk p q (j+k)) t=cf (Qk p q j) t*cf q (q.length-1)^k
 | 0,_,_,t=>by rw [cL,fL];rfl
 | k+1,e,a,t=>by
  have b:=Zcq d c k O (λt g=>a t O);rcases bA t p.length with h|h
  .show cf (Zep q (Qk p q (j+k)) (p.length-1-(j+k))) t=_;rw [Zg4 (by rw [Pi];exact h),b t,b (p.length-1-(j+k)),a (p.length-1-(j+k)) O,cN,cN];split<;>rw [fU,dA,eE]
  .rw [Yg (by rw [Pi];omega),Yg (by rw [Pi];omega),cN]
def Ca(p q R:List Int)(j:Nat):Prop:=Tr R/\∀t,cf R t=cf (Qk p q j) t*cf q (q.length-1)^(p.length-q.length+1-j)
theorem Zpo:Ca p q (Zs p (cf q (q.length-1)^(p.length-q.length+1))) 0:=⟨Qe _ _,λt=>by rw [Yk];rfl⟩
theorem Zwf{j:Nat}(m:0<q.length)(l:q.length<=p.length)(b:cf q (q.length-1)≠0)(r:j<=p.length-q.length+1)(h:Ca p q R j)(o:q.length<=R.length):j<=p.length-R.length/\p.length-R.length<=p.length-q.length/\R.length<=p.length/\Ca p q R (p.length-R.length):=by
 have d:∀n,cf q (q.length-1)^n≠0:=λn=>Nn b n;have a:cf R (R.length-1)≠0:=h.1.mem (λe=>by rw [e,eX]at o;omega);have g:R.length-1<p.length-j:=by
  rcases bA (R.length-1) (p.length-j)with g|g
  .exact g
  .rw [h.2,Ze6 m l j r _ g,cN]at a;exact absurd rfl a
 have k:j<=p.length-R.length:=O;refine⟨k,O,O,h.1,λt=>?_⟩;have s:∀t,p.length-(j+(p.length-R.length-j))<=t->cf (Qk p q j) t=0:=λt u=>by
  have c:=h.2 t;rw [Yg O]at c;rcases eJ.1 c.symm with i|i
  .exact i
  .exact absurd i (d _)
 have c:=Zcq m l (j:=j) (p.length-R.length-j) O s t;rw [show j+(p.length-R.length-j)=p.length-R.length by omega]at c;rw [c,h.2,eE,<-Int.pow_add];congr 2;omega
theorem Zis(a:cf q (q.length-1)≠0)(h:Ca p q R (p.length-R.length))(d:0<q.length)(b:q.length<=R.length)(c:R.length<=p.length):cf R (R.length-1)/cf q (q.length-1)=cf (Qk p q (p.length-R.length)) (R.length-1)*cf q (q.length-1)^(p.length-q.length-(p.length-R.length)):=by rw [h.2,show p.length-q.length+1-(p.length-R.length)=p.length-q.length-(p.length-R.length)+1 by omega,dA,<-eE];exact kY _ a
theorem Zpp(a:cf q (q.length-1)≠0)(h:Ca p q R (p.length-R.length))(e:0<q.length)(c:q.length<=R.length)(d:R.length<=p.length) :
  Ca p q (Dc R (shm q (cf R (R.length-1)/cf q (q.length-1)) (R.length-q.length) q.length)) (p.length-R.length+1):=by
 refine⟨Ap _ _,λt=>?_⟩;rw [Ix,Zrn,Zis a h e c d,h.2];rcases bA t p.length with b|b
 .show _=cf (Zep q (Qk p q (p.length-R.length)) (p.length-1-(p.length-R.length))) t*_;rw [Zg4 (by rw [Pi];exact b),show p.length-1-(p.length-R.length)=R.length-1 by omega,show R.length-1-(q.length-1)=R.length-q.length by omega];rw [show p.length-q.length+1-(p.length-R.length)=p.length-q.length-(p.length-R.length)+1 by omega,show p.length-q.length+1-(p.length-R.length+1)=p.length-q.length-(p.length-R.length) by omega,dA];split<;>grind
 .rw [Yg (p:=Qk p q (p.length-R.length)) (by rw [Pi];exact b),Yg (p:=Qk p q (p.length-R.length+1)) (by rw [Pi];exact b),aD O];simp
theorem Ztc{j:Nat}(e:0<q.length)(d:q.length<=p.length)(a:cf q (q.length-1)≠0)(k:j<=p.length-q.length+1)(h:Ca p q R j)(i:R.length<q.length):R=Xv p q:=by
 unfold Xv;rw [aD O];refine h.1.ext (Qg _) λt=>?_;have g:∀t,p.length-(j+(p.length-q.length+1-j))<=t->cf (Qk p q j) t=0:=λt l=>by
  have b:=h.2 t;rw [Yg O]at b;rcases eJ.1 b.symm with c|c
  .exact c
  .exact absurd c (Nn a _)
 have b:=Zcq e d (j:=j) (p.length-q.length+1-j) O g t;rw [show j+(p.length-q.length+1-j)=p.length-q.length+1 by omega]at b;rw [Mv,b,h.2]
theorem Zwg{j:Nat}(g:j<=p.length-q.length+1)(h:Ca p q R j):Sz (Xm p+(p.length-q.length+1)*(Xm q+1)+1) R:=λt=>by
 rw [h.2];have a:=Bo p q j t;have b:=Aq (Qz q (q.length-1)) (p.length-q.length+1-j);have c:=Yq (cf (Qk p q j) t) (cf q (q.length-1)^(p.length-q.length+1-j));have d:(p.length-q.length+1-j)*Xm q<=(p.length-q.length+1-j)*(Xm q+1):=aX _ O;have e:j*(Xm q+1)+(p.length-q.length+1-j)*(Xm q+1)=(p.length-q.length+1)*(Xm q+1):=by rw [<-bH];congr 1;omega
 omega
theorem Ztb{j:Nat}(h:Ca p q R j):R.length<=p.length:=by
 rcases bA p.length R.length with a|a
 .have b:=h.1.mem (λe=>by rw [e]at a;simp at a);rw [h.2,Yg (by rw [Pi];omega),cN]at b;exact absurd rfl b
 .exact a
end
end Go.Sky
namespace Go.Sky
variable{c:Int}{p q R:List Int}
section
variable {P:Program} {N:Nat} {sc:Nat->Prop} {env env':Pz} {H H':Hp}
theorem Bx(n k:Nat):∀a w,Sat N sc env H a w->Sat N sc env ((n,Me qI (List.replicate k I0))::H) a w:=λa w hs=>by
 have e:∀z,z∈List.replicate k I0->z=I0:=λz e=>(nP.1 e).2;refine hs.add n _ (λz h=>by rw [e z h];exact Dg 1 Kt w) (λj l _ _ Ic b g i=>?_) (λb g=>?_)
 .obtain⟨z,f,d⟩:=g;rw [e z f]at d;cases d.2
 .obtain⟨z,f,d⟩:=g;rw [e z f]at d;cases d.2
end
theorem Yb3{r l:Int}{n A B:Nat}(h:c=r*l^n)(e:bl r.natAbs<=A)(b:bl l.natAbs<=B):bl c.natAbs<=A+(n*B+1):=by
 rw [h];have d:=Yq r (l^n);rcases aV n with a|a
 .rw [a,cL];rw [fL];omega
 .have:=Fa l b n a;omega
theorem Ymz(f:q.length<=R.length)(d:q.length<=p.length)(e:R.length<=p.length) :
  Xm p+(p.length-R.length)*(Xm q+1)+((p.length-q.length-(p.length-R.length))*Xm q+1)<=Xm p+(p.length-q.length+1)*(Xm q+1):=by
 have a:(p.length-q.length-(p.length-R.length))*Xm q<=(p.length-q.length-(p.length-R.length))*(Xm q+1):=aX _ O;have b:(p.length-R.length)*(Xm q+1)+(p.length-q.length-(p.length-R.length))*(Xm q+1)=(p.length-q.length)*(Xm q+1):=by rw [<-bH];congr 1;omega
 rw [dB];omega
theorem Ygg{r:Int}(h:c=r*cf q (q.length-1)^(p.length-q.length-(p.length-R.length)))(a:bl r.natAbs<=Xm p+(p.length-R.length)*(Xm q+1))(hs:Sz (Xm q) q)(k:q.length<=R.length)(i:q.length<=p.length)(j:R.length<=p.length)(t:Nat) :
  bl (c*cf q t).natAbs<=Xm p+(p.length-q.length+1)*(Xm q+1)+1:=by
 have b:=Yb3 h a (hs _);have d:=Yq c (cf q t);have e:=hs t;have f:(p.length-q.length-(p.length-R.length))*Xm q<=(p.length-q.length-(p.length-R.length))*(Xm q+1):=aX _ O;have g:(p.length-R.length)*(Xm q+1)+(p.length-q.length-(p.length-R.length))*(Xm q+1)=(p.length-q.length)*(Xm q+1):=by rw [<-bH];congr 1;omega
 rw [dB];omega
theorem Zpd{s i n:Nat}(h:∀t,bl (c*cf q t).natAbs<=n):Sz n (shm q c s i):=by
 unfold shm;refine Cv λt _=>?_;split
 .exact bG _
 .exact h _
end Go.Sky
namespace Go.Sky
variable{D a b s c:List Int}{k M m i F:Nat}{x:Int}{P:Program}{sc:Nat->Prop}{ops:Array Oper}{rest:List (Nat×Nat)}
theorem Yim(zs:List (Int×SL))(k:Nat)(z:Int×SL):Zb (zs.set k z)=(Zb zs).set k z.1:=by simp [Zb,List.map_set]
theorem Yoo{q:List Int}(h:k+q.length<=D.length):Dc (tzl D) (tzl (shm q (cf D (k+q.length-1)/cf q (q.length-1)) k q.length))=tzl (Zev q D k):=by
 refine(Ap _ _).ext (Qg _) λt=>?_;rw [Ix,Mv,Mv,Mv,Zrn];unfold Zev;rw [Nq];by_cases d:t<D.length
 .rw [aF d];rfl
 .rw [aD d,aD O,Yg O];rfl
theorem div_c{q:List Int}{A:Nat}(f:cf q (q.length-1)≠0)(e:x%cf q (q.length-1)=0)(d:bl x.natAbs<=A)(t:Nat):bl (x/cf q (q.length-1)*cf q t).natAbs<=A+(Xm q+1):=by have g:=Iv (gE e) d;have h:=Yq (x/cf q (q.length-1)) (cf q t);have j:=Qz q t;omega
def Zus(p q:List Int)(j:Nat):Xf p q (j+1)=Zev q (Xf p q j) (p.length-q.length-j):=rfl
theorem Yjs{p q:List Int}{j:Nat}(h:q.length<=p.length)(d:j<=p.length-q.length):Dc (tzl (Xf p q j)) (tzl (shm q (cf (Xf p q j) (p.length-q.length-j+q.length-1)/cf q (q.length-1)) (p.length-q.length-j) q.length))=tzl (Xf p q (j+1)):=by rw [Zus];exact Yoo (by rw [Gt];omega)
def Yea{p q:List Int}{j:Nat}(d:j<p.length-q.length+1):(Zc8 p q j).set (p.length-q.length-j) (cf (Xf p q j) (p.length-q.length-j+q.length-1)/cf q (q.length-1))=Zc8 p q (j+1):=Zut d
theorem div_sz{p q:List Int}{j:Nat}(d:j<=p.length-q.length+1)(e:∀k,p.length-q.length<k+j->k<=p.length-q.length->Mj p q k)(h:Xm p+(p.length-q.length+1)*(Xm q+1)<=M)(t:Nat):bl (cf (Xf p q j) t).natAbs<=M:=by have f:=Zau p q j d e t;have g:j*(Xm q+1)<=(p.length-q.length+1)*(Xm q+1):=aK _ d;omega
theorem Yon{p q:List Int}{j:Nat}(h:j<=p.length-q.length)(e:∀k,p.length-q.length<k+j->k<=p.length-q.length->Mj p q k)(g:Xm p+(p.length-q.length+1)*(Xm q+1)<=M)(t:Nat):bl (cf (Xf p q j) t).natAbs+(Xm q+1)<=M:=by have f:=Zau p q j O e t;have d:(j+1)*(Xm q+1)<=(p.length-q.length+1)*(Xm q+1):=aK _ O;rw [dB]at d;omega
theorem Yol{p q:List Int}(f:Xm p+(p.length-q.length+1)*(Xm q+1)<=M)(d:∀k,k<=p.length-q.length->Mj p q k)(j:Nat):Sz M (Zc8 p q j):=by
 refine Cv λt h=>?_;split
 .unfold Zu2 dq;have e:=div_sz (p:=p) (q:=q) (j:=p.length-q.length-t) O (λk _ g=>d k g) f (t+q.length-1);exact Iv (gE (d t O)) e
 .simp [Ll]
theorem Ync{p q:List Int}(f:p≠[])(d:q.length<=p.length)(g:∀k,k<=p.length-q.length->Mj p q k){n:Nat}(e:n=(tzl (Xf p q (p.length-q.length+1))).length):decide (n=0)=decide (pdv p q):=by
 subst e;refine bJ.2 ⟨λh=> .inr ⟨d,g,aC h⟩,λh=>?_⟩;rcases h with h|⟨_,_,h⟩
 .exact absurd h f
 .rw [h];rfl
theorem pdv_no{p q:List Int}(j:p≠[])(g:k<=p.length-q.length)(h:¬Mj p q k):decide (pdv p q)=false:=aM λf=>by
 rcases f with d|⟨_,e,_⟩
 .exact j d
 .exact h (e k g)
theorem Ynb{p q:List Int}(f:p≠[])(h:p.length<q.length):decide (pdv p q)=false:=aM λe=>by
 rcases e with d|⟨g,_,_⟩
 .exact f d
 .omega
def Yna{p q:List Int}(d:p=[]):decide (pdv p q)=true:=aN (.inl d)
def Hf(a b:Int):Nat->List Int
 | 0=>[1]
 | i+1=>Qn (Hf a b i) (tzl [a,b])
def Zpf(p:List Int)(a b d:Int):Nat->List Int
 | 0=>[]
 | i+1=>Fg (Zpf p a b d i) (Zs (Hf a b i) (cf p i*d^(p.length-1-i)))
def hs(f:Nat->PS):Nat->PS
 | 0=>0
 | n+1=>hs f n+f n
theorem Zl2{f g:Nat->PS} : ∀{n:Nat},(∀k,k<n->f k=g k)->hs f n=hs g n
 | 0,_=>rfl
 | n+1,h=>by show hs f n+f n=hs g n+g n;rw [Zl2 λk d=>h k O,h n O]
theorem Zug(f:Nat->PS):∀n,hs f (n+1)=f 0+hs (λk=>f (k+1)) n
 | 0=>by show(0:PS)+f 0=f 0+0;rw [PS.zero_add',PS.add_zero']
 | n+1=>by show hs f (n+1)+f (n+1)=f 0+(hs (λk=>f (k+1)) n+f (n+1));rw [Zug f n,PS.add_assoc']
theorem Yir(f:Nat->PS)(c:PS):∀n,hs (λk=>f k*c) n=hs f n*c
 | 0=>by show(0:PS)=0*c;rw [PS.zero_mul']
 | n+1=>by show hs (λk=>f k*c) n+f n*c=(hs f n+f n)*c;rw [Yir f c n,PS.distrib_r]
def Zpw(p:List Int):ps (tzl p)=ps p:=PS.ext' λi=>Mv p i
theorem Ypi(a b:Int)(i:Nat):cf [a,b] i=if i=0 then a else if i=1 then b else 0:=by
 rcases i with _|_|i
 .rfl
 .rfl
 .rw [Yg O5,aD O,aD O]
theorem Zsm{f:Nat->Int} : ∀{n:Nat},(∀k,k<n->f k=0)->Yf f n=0
 | 0,_=>rfl
 | n+1,h=>by rw [Yi,Zsm λk d=>h k O,h n O];rfl
theorem Zz6(f:PS)(a b:Int)(t:Nat):(f*ps [a,b]).c t=f.c t*a+if t=0 then 0 else f.c (t-1)*b:=by
 rw [PS.mul_c];simp only [Ol,Ypi];rw [Yi,gX,aF rfl];rcases t with _|t
 .simp [Yf]
 .rw [Yi,show t+1-t=1 by omega,aD (by omega:¬1=0),aF rfl,Zsm λk d=>by rw [aD O,aD O,dO],eT,aD (by omega:¬t+1=0)];omega
theorem Yg1:ps [1]=1:=PS.ext' λi=>by
 rw [Ol,PS.one_c];rcases i with _|i
 .rfl
 .rw [Yg O5,aD O]
theorem ps_nil:ps []=0:=PS.ext' λi=>by rw [Ol,PS.zero_c];exact Yg O5
theorem C_c(n:Int)(i:Nat):(PS.C n).c i=if i=0 then n else 0:=by have h:=PS.C_mul_c n 1 i;rw [show PS.C n*1=PS.C n from PS.mul_one' _,PS.one_c]at h;rw [h];split<;>simp
theorem Zeq(a b:Int)(i:Nat):ps (Hf a b (i+1))=ps (Hf a b i)*ps [a,b]:=by show ps (Qn _ _)=_;rw [Zjo,Zpw]
theorem Zpx(p:List Int)(a b d:Int)(j:Nat):ps (Mu p a b d (j+1))=ps (Mu p a b d j)*ps [a,b]+PS.C (cf p (p.length-2-j)*d^(j+1)):=PS.ext' λt=>by
 rw [PS.add_c,Zz6,C_c,Ol,Zov,Nq,Ol,Ol];by_cases h:t<(Mu p a b d j).length+1
 .rw [aF h];by_cases e:t=0
  .rw [aF e,aF e,aF e];omega
  .rw [aD e,aD e,aD e];omega
 .rw [aD h,Yg O,Yg O,aD O,aD O];simp
theorem Zzp(p:List Int)(a b d:Int):∀j,j<=p.length-1->ps (Mu p a b d j)=hs (λk=>PS.C (cf p (p.length-1-j+k)*d^(j-k))*ps (Hf a b k)) (j+1)
 | 0,_=>by
  rw [Ft];show _=(0:PS)+PS.C (cf p (p.length-1)*d^0)*ps [1];rw [Yg1,cL,fL,show(0:PS)+PS.C (cf p (p.length-1))*1=PS.C (cf p (p.length-1)) by rw [PS.mul_one',PS.zero_add']];refine PS.ext' λt=>?_;rw [Ol,C_c];rcases t with _|t
  .rfl
  .rw [Yg O5,aD O]
 | j+1,h=>by
  rw [Zpx,Zzp p a b d j O,<-Yir,Zug _ (j+1)];have e:hs (λk=>PS.C (cf p (p.length-1-j+k)*d^(j-k))*ps (Hf a b k)*ps [a,b]) (j+1)=hs (λk=>PS.C (cf p (p.length-1-(j+1)+(k+1))*d^(j+1-(k+1)))*ps (Hf a b (k+1))) (j+1):=Zl2 λk f=>by rw [Zeq,show p.length-1-(j+1)+(k+1)=p.length-1-j+k by omega,show j+1-(k+1)=j-k by omega,PS.mul_assoc']
  rw [e];show _+_=PS.C (cf p (p.length-1-(j+1)+0)*d^(j+1))*ps [1]+_;rw [Yg1,show p.length-1-(j+1)+0=p.length-2-j by omega];rw [PS.mul_one',PS.add_comm']
theorem Zzo(p:List Int)(a b d:Int):∀n,ps (Zpf p a b d n)=hs (λk=>PS.C (cf p k*d^(p.length-1-k))*ps (Hf a b k)) n
 | 0=>ps_nil
 | n+1=>by show ps (Fg _ _)=hs _ n+_;rw [Ym8,Zzo p a b d n,Zht]
def Yl2(p:List Int)(a b d:Int):∀n,Tr (Zpf p a b d n)
 | 0=>Tr.nil
 | n+1=>Zyl _ _
theorem Ymq(p:List Int)(a b d:Int):Zpf p a b d p.length=Le p a b d:=by
 unfold Le;split
 .rename_i h;rw [h];rfl
 .rename_i h;refine(Yl2 p a b d _).ps_inj (Qg _) ?_;rw [Zpw,Zzo,Zzp p a b d _ (aH _),show p.length-1+1=p.length by omega];exact Zl2 λk e=>by rw [gX,bZ]
theorem Zho(a b:Int):∀i,(Hf a b i).length<=i+1
 | 0=>aH _
 | i+1=>by have d:=Zho a b i;have e:(tzl [a,b]).length<=2:=Mp _;have f:(Hf a b (i+1)).length<=(Hf a b i).length+(tzl [a,b]).length-1:=aB (Mp _) (by rw [Yu];exact aH _);omega
theorem Zkw{a b:Int}{m:Nat}(e:bl a.natAbs<=m)(f:bl b.natAbs<=m):∀i,Sz (i*(m+1)+1) (Hf a b i)
 | 0=>λt=>by
  rcases t with _|t
  .show bl 1<=_;rw [Yk0];omega
  .show bl (cf [1] (t+1)).natAbs<=_;rw [Yg O5];simp [Ll]
 | i+1=>λt=>by
  have d:=Zkw e f i;rw [<-Ol,Zeq,Zz6,Ol,Ol,dB];have g:=d t;have h:=d (t-1);have j:=Yq (cf (Hf a b i) t) a;have l:=Yq (cf (Hf a b i) (t-1)) b;have n:=Kx (cf (Hf a b i) t*a) (if t=0 then 0 else cf (Hf a b i) (t-1)*b);have o:bl (if t=0 then 0 else cf (Hf a b i) (t-1)*b).natAbs<=i*(m+1)+1+m:=by
   split
   .simp [Ll]
   .omega
  omega
theorem Zrw{d:Int}{A:Nat}(f:bl x.natAbs<=A)(g:bl d.natAbs<=m):bl (x*d^k).natAbs<=A+k*m:=by
 have h:=Zg7 (a:=x) (n:=1) (d:=d) (A:=A) (m:=max m 1) (i:=0) (j:=k) f (by show bl 1<=_;rw [Yk0];omega) O;rcases aV k with e|e
 .subst e;simp;exact f
 .have l:=Yq x (d^k);have o:=Fa d g k e;omega
theorem Zn4{p:List Int}{a b d:Int}(e:bl a.natAbs<=m)(f:bl b.natAbs<=m)(g:bl d.natAbs<=m)(hi:i<p.length)(t:Nat) :
  bl (cf (Zs (Hf a b i) (cf p i*d^(p.length-1-i))) t).natAbs<=Xm p+p.length*(m+1)+1:=by
 rw [Yk];have h:=Yq (cf (Hf a b i) t) (cf p i*d^(p.length-1-i));have j:=Zkw e f i t;have l:=Zrw (k:=p.length-1-i) (Qz p i) g;have n:i*(m+1)+(p.length-1-i)*(m+1)+(m+1)=p.length*(m+1):=by rw [<-bH,<-dB];congr 1;omega
 have q:i*(m+1)+(p.length-1-i)*(m+1)<=p.length*(m+1):=O;have o:(p.length-1-i)*m<=(p.length-1-i)*(m+1):=aX _ O;omega
theorem Zy2{p:List Int}{a b d:Int}{m:Nat}(e:bl a.natAbs<=m)(f:bl b.natAbs<=m)(g:bl d.natAbs<=m):∀i,i<=p.length->Sz (Xm p+p.length*(m+1)+1+i) (Zpf p a b d i)
 | 0,_=>Sz.nil _
 | i+1,h=>λt=>by have j:=Zy2 (p:=p) e f g i O t;have l:=Zn4 (p:=p) e f g (i:=i) O t;show bl (cf (Fg _ _) t).natAbs<=_;rw [Dw];have n:=Kx (cf (Zpf p a b d i) t) (cf (Zs (Hf a b i) (cf p i*d^(p.length-1-i))) t);omega
theorem Zs2{p:List Int}{a b d:Int} : ∀i,(Zpf p a b d i).length<=i+1
 | 0=>bG _
 | i+1=>by have e:=Yhi (Zpf p a b d i) (Zs (Hf a b i) (cf p i*d^(p.length-1-i)));have f:=Zs2 (p:=p) (a:=a) (b:=b) (d:=d) i;have g:=Zho a b i;have h:(Zs (Hf a b i) (cf p i*d^(p.length-1-i))).length<=(Hf a b i).length:=aB (Mp _) O5;show(Fg _ _).length<=_;omega
abbrev RW:=List (Bool×ByteArray)
abbrev qR (z:SL×RW):Pc:=Yw 2 Zxi (Xn z.1) z.2
abbrev qZ (z:SL×List Int):Pc:=Yw 2 wv (Xn z.1) z.2
abbrev R0:SL×RW:=((none,0,0),[])
def short1(r:RW):Bool:=(decide (r.length<=14) || decide (r.length=26)) && r.all λc=>decide (c.2.size<=16)
def shortb(d:List RW):Bool:=d.all short1
def Zk6  {N:Nat}  {M:Nat->Prop} {env:Pz} {H:Hp}  {F:Pz->Hp->Prop}   {o:Oper} {G:Type} {φ:G->Prop} {d:G->Pz} {l:G->Hp} {j e:Nat} {b:Bool} (r:ops[i]? = some o) (p:o.guard=some (j,b)) (q:(ops[j]?).bind (·.dst)=some e) (n:lk env e=some (.bool b)) (f:Nat.blt e N=true) (t:T P N sc M o env H φ d l)
  (h:∀g,φ g->LD P N sc M ops F rest (d g) (l g)) :
  LD P N sc M ops F ((i,1)::rest) env H:=r1g t r p q n f h
theorem Bv{f:Nat->Int}{k:Nat} : ∀{n:Nat},k<n->(∀i,i<n->i≠k->f i=0)->Yf f n=f k
 | 0,d,_=>absurd d (bT _)
 | n+1,d,h=>by
  rw [Yi];by_cases e:k=n
  .subst e;rw [Gf λi hi=>h i O O,kB]
  .rw [h n O (λx=>e x.symm),Bv O (λi hi=>h i O),fC]
theorem Ah{p q:List Int}{a b:Nat}(d:∀i,a<i->cf p i=0)(e:∀i,b<i->cf q i=0):(ps p*ps q).c (a+b)=cf p a*cf q b:=by
 rw [PS.mul_c,Bv (k:=a) O λi hi f=>?_]
 .rw [Ol,Ol,show a+b-a=b by omega]
 .rw [Ol,Ol];rcases bA a i with h|h
  .rw [d i h,cN]
  .rw [e (a+b-i) O,dO]
theorem Zgg(s e:List Int)(c d:Int)(f:PS)(t:Nat):(ps (Dc (Zs s c) (Zs e d))*f).c t=c*(ps s*f).c t-d*(ps e*f).c t:=by rw [PS.mul_c,PS.mul_c,PS.mul_c,<-Nr,fH,<-oI,<-Nr,<-Fk];refine Xa λk _=>?_;rw [Ol,Ol,Ol,Ix,Yk,Yk];grind
theorem Zty(f:PS)(q d:List Int)(u v:Int)(h:∀i,u*cf q i=v*cf d i)(t:Nat):u*(f*ps q).c t=v*(f*ps d).c t:=by rw [PS.mul_c,PS.mul_c,<-Nr,<-Nr];refine Xa λk _=>?_;rw [Ol,Ol];have:=h (t-k);grind
theorem Zz5{q r:List Int}(v:Tr q)(e:q≠[])(h:∀t,(ps s*ps q).c t=cf r t)(w:∀t,q.length-1<=t->cf r t=0):∀t,cf s t=0:=by
 have d:=v.mem e;have n:0<q.length:=aE.2 e;have hs:tzl s=[]:=by
  rcases Zjf (tzl s)with f|⟨B,y,f⟩
  .exact f
  .exfalso;have z:=Qg s;have j:tzl s≠[]:=by rw [f];simp
   have o:=z.mem j;have l:=Ah (p:=tzl s) (q:=q) (a:=(tzl s).length-1) (b:=q.length-1) (λi hi=>Yg O) (λi hi=>Yg O);have u:ps (tzl s)=ps s:=PS.ext' λi=>Mv s i;rw [u,h,w _ O]at l;rcases eJ.1 l.symm with g|g
   .exact o g
   .exact d g
 exact(Kg s).1 hs
theorem Lu(h:∀t,cf s t=0)(f:PS)(t:Nat):(ps s*f).c t=0:=by rw [PS.mul_c];exact Gf λk _=>by rw [Ol,h,cN]
theorem Ov{p q:List Int}(f:Tr p)(g:Tr q)(d:p≠[])(e:q≠[]):(Qn p q).length=p.length+q.length-1:=by have h:=aE.2 d;have j:=aE.2 e;unfold Qn;rw [Zak,Yu];right;rw [Yu,Nq,aF O,show p.length+q.length-1-1=(p.length-1)+(q.length-1) by omega,Ah (λi hi=>Yg O) (λi hi=>Yg O)];exact bK (f.mem d) (g.mem e)
def mono(s:Nat)(c:Int):List Int:=List.replicate s 0 ++ [c]
theorem Zj2(s:Nat)(c:Int)(i:Nat):cf (mono s c) i=if i=s then c else 0:=by
 unfold mono;rw [Zef,aT];split
 .rw [aD O];unfold cf;simp [aG,iH];split<;>rfl
 .rename_i h;split
  .rename_i d;subst d;simp [cf]
  .exact Yg O8
theorem Zln(s:Nat)(c:Int)(f:PS)(t:Nat):(ps (mono s c)*f).c t=if s<=t then c*f.c (t-s)else 0:=by
 rw [PS.mul_c];split
 .rw [Bv (k:=s) O λi _ d=>by rw [Ol,Zj2,aD d,cN],Ol,Zj2,aF rfl]
 .exact Gf λk e=>by rw [Ol,Zj2,aD O,cN]
theorem Zhp{p q:List Int}(v:0<q.length)(u:q.length<=p.length):∀j,j<=p.length-q.length+1->∃s:List Int,∀t,cf q (q.length-1)^j*cf p t=(ps s*ps q).c t+cf (Qk p q j) t
 | 0,_=>⟨[],λt=>by rw [Lu (λt=>Yg (bG _)),cL];unfold Qk;omega⟩
 | j+1,G=>by
  obtain⟨s,w⟩:=Zhp v u j O;refine⟨Dc (Zs s (cf q (q.length-1))) (Zs (mono (p.length-1-j-(q.length-1)) (cf (Qk p q j) (p.length-1-j))) (-1)),λt=>?_⟩;rw [Zgg,Zln];have d:=w t;show _=_+cf (Zep q (Qk p q j) (p.length-1-j)) t;rw [dA];rcases bA t p.length with h|h
  .rw [Zg4 (by rw [Pi];exact h)];generalize p.length-1-j-(q.length-1)=g;generalize cf (Qk p q j) (p.length-1-j)=R;generalize cf (Qk p q j) t=o at d ⊢;generalize (ps s*ps q).c t=X at d ⊢;generalize cf q (q.length-1)^j=L at d ⊢;generalize cf q (q.length-1)=l at d ⊢;have e:L*l*cf p t=l*X+o*l:=by rw [eE,cQ l,<-eE,d];grind
   rw [e];by_cases f:g<=t
   .rw [aF f,Ol];by_cases r:t<g+q.length
    .rw [aF ⟨f,r⟩];omega
    .rw [aD O,Yg (p:=q) (i:=t-_) O];omega
   .rw [aD f,aD O];omega
  .have n:cf p t=0:=Yg h;have y:cf (Qk p q j) t=0:=Yg (by rw [Pi];exact h);have z:cf (Zep q (Qk p q j) (p.length-1-j)) t=0:=Yg (by rw [Zgl,Pi];exact h);have B:cf q (t-(p.length-1-j-(q.length-1)))=0:=Yg O;rw [n,y,dO,fC]at d;rw [n,z,aF O,Ol,B,<-d];simp
theorem Cf(p:List Int){q:List Int}(e:q≠[]):∃(k:Nat) (s:List Int),∀t,cf q (q.length-1)^k*cf p t=(ps s*ps q).c t+cf (Xv p q) t:=by
 have d:0<q.length:=aE.2 e;rcases bA p.length q.length with h|h
 .refine⟨0,[],λt=>?_⟩;rw [Lu (λt=>Yg (bG _)),cL];unfold Xv;rw [aF h];omega
 .obtain⟨s,hs⟩:=Zhp d h _ (aH _);refine⟨p.length-q.length+1,s,λt=>?_⟩;rw [hs t];unfold Xv;rw [aD O,Mv]
theorem Pd(p:List Int){q:List Int}(e:q≠[]):(Xv p q).length<q.length:=by
 have d:0<q.length:=aE.2 e;unfold Xv;split
 .assumption
 .have:=Zbm (p:=Qk p q (p.length-q.length+1)) (n:=q.length-1) λi hi=>Ze6 d O _ (aH _) i O;omega
theorem Ki{p q:List Int}(d:Tr p):Tr (Xv p q):=by
 unfold Xv;split
 .exact d
 .exact Qg _
def Sim(a b:List Int):Prop:=∃m n:Int,m≠0/\n≠0/\∀i,m*cf a i=n*cf b i
def Sim.refl(a:List Int):Sim a a:=⟨1,1,O3,O3,λ_=>rfl⟩
def Sim.symm : Sim a b->Sim b a:=λ⟨m,n,d,e,h⟩=>⟨n,m,e,d,λi=>(h i).symm⟩
theorem Sim.trans : Sim a b->Sim b c->Sim a c:=λ⟨m,n,d,e,h⟩ ⟨u,v,f,g,k⟩=>
 ⟨m*u,n*v,bK d f,bK e g,λi=>by have j:=h i;have l:=k i;grind⟩
theorem Sim.zero(h:Sim a b)(hi:cf a i=0):cf b i=0:=by
 obtain⟨m,n,e,d,h⟩:=h;have:=h i;rw [hi,dO]at this;rcases eJ.1 this.symm with h|h
 .exact absurd h d
 .exact h
theorem Sim.len_le(h:Sim a b)(f:Tr b):b.length<=a.length:=by
 rcases bA a.length b.length with e|e
 .exfalso;have d:b≠[]:=aE.1 O;exact f.mem d (h.zero (Yg O))
 .exact e
def Sim.len(h:Sim a b)(d:Tr a)(e:Tr b):a.length=b.length:=jU (h.symm.len_le d) (h.len_le e)
theorem Sim.nil(h:Sim a b)(e:Tr b)(d:a=[]):b=[]:=by have:=h.len_le e;rw [d]at this;exact aC (by simpa using this)
theorem Ydb{f d:List Int}(ha:Tr a)(a0:Tr f)(G:Tr b)(h:Tr d)(q:b≠[])(h1:Sim a f)(y:Sim b d):Sim (Xv a b) (Xv f d):=by
 have g:d≠[]:=λe=>q (y.symm.nil G e);have Q:=y.len G h;obtain⟨k,s,hs⟩:=Cf a q;obtain⟨H,S,l⟩:=Cf f g;have hL:cf b (b.length-1)^k≠0:=Nn (G.mem q) k;have B:cf d (d.length-1)^H≠0:=Nn (h.mem g) H;generalize cf b (b.length-1)^k=L at hs hL;generalize cf d (d.length-1)^H=j at l B;obtain⟨m,n,hm,hn,V⟩:=h1;obtain⟨u,v,hu,hv,W⟩:=y;have l1:=Pd a q;have l2:=Pd f g;have o:∀t,(ps (Dc (Zs s (j*m*v)) (Zs S (L*n*u)))*ps d).c t=cf (Dc (Zs (Xv f d) (L*n*u)) (Zs (Xv a b) (j*m*u))) t:=λt=>by rw [Zgg,Ix,Yk,Yk];have r:=hs t;have w:=l t;have I:=V t;have N:=Zty (ps s) b d u v W t;generalize (ps s*ps b).c t=X at r N;generalize (ps s*ps d).c t=Y at N;generalize (ps S*ps d).c t=Z at w;generalize cf a t=A at r I;generalize cf f t=A' at w I;generalize cf (Xv a b) t=R at r;generalize cf (Xv f d) t=R' at w;have:j*m*v*Y=j*m*u*X:=O4;grind
 have z:=Zz5 h g o λt ht=>by rw [Ix,Yk,Yk,Yg (p:=Xv f d) O,Yg (p:=Xv a b) O];omega
 refine⟨j*m*u,L*n*u,by simp [*],by simp [*],λt=>?_⟩;have:=o t;rw [Lu z,Ix,Yk,Yk]at this;grind
theorem Zcb(c:Int):∀(p:List Int) (g:Int),0<=g->(p.map (· * c)).foldl (λg c=>(Int.gcd g c:Int)) (g*c.natAbs)=p.foldl (λg c=>(Int.gcd g c:Int)) g*c.natAbs
 | [],g,_=>rfl
 | x::p,g,hg=>by
  rw [cK,gQ,gQ,<-Zcb c p _ O];congr 1;have:Int.gcd (g*(c.natAbs:Int)) (x*c)=Int.gcd g x*c.natAbs:=by unfold Int.gcd;rw [cH,cH,dD,Nat.gcd_mul_right]
  rw [this];push_cast;rfl
theorem Zhv(p:List Int)(c:Int):Ys (p.map (· * c))=Ys p*c.natAbs:=by have:=Zcb c p 0 (fA _);rw [cN]at this;exact this
theorem Fn(p:List Int)(i:Nat):cf (Zx p) i*Ys p=cf p i:=by rw [Zbf];exact iD (Ln p i)
def Ydc:Zx []=[]:=rfl
def Ch{p:List Int}(h:Tr p)(d:p≠[]):Ys p≠0:=λe=>h.mem d ((Zcv p).1 e _)
theorem Kj{p:List Int}(h:Tr p)(e:p≠[]):Ys (Zx p)=1:=by
 have j:=Ch h e;have d:=Zhv (Zx p) (Ys p);rw [show(Zx p).map (· * Ys p)=p from Ib (by rw [aP,Zw]) λi _=>by rw [Zde _ _ O5];exact Fn p i]at d;have l:=Nk p;have f:Ys p*(Ys (Zx p)-1)=0:=by rw [Int.mul_sub,fL,cQ];have:((Ys p).natAbs:Int)=Ys p:=O;rw [this]at d;omega
 rcases eJ.1 f with g|g<;>omega
theorem Zf7{p:List Int}(h:Ys p=1):Zx p=p:=Ib (Zw p) λi _=>by rw [Zbf,h,Int.ediv_one]
theorem Ae{p:List Int}(h:Tr p):Zx (Zx p)=Zx p:=by
 by_cases d:p=[]
 .subst d;rfl
 .exact Zf7 (Kj h d)
theorem Qf{p:List Int}(h:Tr p):Sim (Zx p) p:=by
 by_cases d:p=[]
 .subst d;exact Sim.refl _
 .exact⟨Ys p,1,Ch h d,O3,λi=>by rw [eQ,cQ];exact Fn p i⟩
def Yz(p:List Int):List Int:=Lm (Zx p)
theorem Zkp{x y:List Int}(r:Tr x)(t:Tr y)(u:x≠[])(f:Ys x=1)(g:Ys y=1)(h:Sim x y):x=y\/∀i,cf x i=- cf y i:=by
 have d:=h.len r t;obtain⟨m,n,p,q,e⟩:=h;have j:=Zhv x m;have l:=Zhv y n;rw [show x.map (· * m)=y.map (· * n)from Ib (by simp [d]) λi _=>by rw [Zde _ _ O5,Zde _ _ O5,cQ,cQ (cf y i)];exact e i,l,f,g]at j
 have o:m=n\/m=-n:=O;rcases o with rfl|rfl
 .exact .inl (Ib d λi _=>gP p (e i))
 .exact .inr λi=>gP q (by have:=e i;grind)
theorem El(g:List Int)(i:Nat):cf (Lm g) i=if g.length≠0/\cf g (g.length-1)<0 then-cf g i else cf g i:=by
 unfold Lm;split
 .rw [Yk];omega
 .rfl
theorem Oy{g:List Int}(h:Tr g):Tr (Lm g):=by
 unfold Lm;split
 .exact Qe _ _
 .exact h
theorem Hd(g:List Int):Sim (Lm g) g:=by
 by_cases h:g.length≠0/\cf g (g.length-1)<0
 .exact⟨-1,1,O3,O3,λi=>by rw [El,aF h];omega⟩
 .exact⟨1,1,O3,O3,λi=>by rw [El,aD h]⟩
theorem Zqb(g:Tr a)(j:Tr b)(h:Sim a b):Yz a=Yz b:=by
 by_cases f:a=[]
 .rw [h.nil j f,f]
 .have o:b≠[]:=λe=>f (h.symm.nil g e);have hs:Sim (Zx a) (Zx b):=(Qf g).trans (h.trans (Qf j).symm);have r:=Yv g;have l:=Yv j;have p:=hs.len r l;have d:Zx a≠[]:=λe=>f (aC (by rw [<-Zw,e];rfl));rcases Zkp r l d (Kj g f) (Kj j o) hs with e|e
  .unfold Yz;rw [e]
  .unfold Yz;refine(Oy r).ext (Oy l) λi=>?_;rw [El,El,<-p,e i,e ((Zx a).length-1)];have u:cf (Zx b) ((Zx a).length-1)≠0:=by rw [p];exact l.mem (λn=>d (aC (by rw [p,n];rfl)))
   have q:(Zx a).length≠0:=λn=>d (aC n);by_cases t:cf (Zx b) ((Zx a).length-1)<0
   .rw [aD O,aF ⟨q,t⟩]
   .rw [aF O,aD O];omega
theorem Zxf:∀(f:Nat) {a b n g:List Int},Tr a->Tr n->Tr b->Tr g->Sim a n->Sim b g->Sim (eu f a b) (eu f n g)
 | 0,_,_,_,_,_,_,_,_,h,_=>h
 | f+1,a,b,n,g,t,l,p,d,r,o=>by
  unfold eu;by_cases j:b=[]
  .rw [aF j,aF (o.nil d j)];exact r
  .rw [aD j,aD (λe=>j (o.symm.nil p e))];have t1:=Ki (q:=b) t;have t2:=Ki (q:=g) l;exact Zxf f p d (Yv t1) (Yv t2) o ((Qf t1).trans ((Ydb t l p d j r o).trans (Qf t2).symm))
theorem Zmd:∀(f:Nat) {a b:List Int},Tr a->Tr b->Tr (eu f a b)
 | 0,_,_,h,_=>h
 | f+1,a,b,d,e=>by
  unfold eu;split
  .exact d
  .exact Zmd f e (Yv (Ki d))
theorem Zgr:∀(f k:Nat) {a b:List Int},eok f a b->eu (f+k) a b=eu f a b
 | 0,k,a,b,h=>by rw [show b=[]from h,Di,Di]
 | f+1,k,a,b,h=>by
  rcases h with h|h
  .rw [h,Di,Di]
  .by_cases d:b=[]
   .rw [d,Di,Di]
   .rw [show f+1+k=f+k+1 by omega];unfold eu;rw [aD d,aD d];exact Zgr f k h.2
theorem Yau:∀(f:Nat) {a b:List Int},Tr a->Tr b->Zx a=a->Zx b=b->Zx (eu f a b)=eu f a b
 | 0,_,_,_,_,h,_=>h
 | f+1,a,b,d,j,e,g=>by
  unfold eu;split
  .exact e
  .exact Yau f j (Yv (Ki d)) g (Ae (Ki d))
theorem Zil{p q:List Int}(d:Tr p)(e:Tr q):Tr (gA p q):=by unfold gA;split<;>exact Yv ‹_›
theorem Zik{p q:List Int}(d:Tr p)(e:Tr q):Tr (gB p q):=by unfold gB;split<;>exact Yv ‹_›
theorem Ztr{p q:List Int}(d:Tr p)(e:Tr q):Na F p q=Yz (eu F (gA p q) (gB p q)):=by
 unfold Na Yz;rw [Yau F (Zil d e) (Zik d e)]
 .unfold gA;split
  .exact Ae e
  .exact Ae d
 .unfold gB;split
  .exact Ae d
  .exact Ae e
theorem Yn6{G:Nat}{p q:List Int}(e:Tr p)(d:Tr q)(f:eok F p q)(j:eok G (gA p q) (gB p q)):Lm (Zx (eu F p q))=Na G p q:=by
 rw [Ztr e d];show Yz (eu F p q)=_;rw [<-Zgr F (G+1) f,<-Zgr G F j];refine Zqb (Zmd _ e d) (Zmd _ (Zil e d) (Zik e d)) ?_;rcases bA p.length q.length with h|h
 .rw [show gA p q=Zx q from aF h,show gB p q=Zx p from aF h];rw [show F+(G+1)=F+G+1 by omega,show G+F=F+G by omega];have g:q≠[]:=aE.1 O;have:eu (F+G+1) p q=eu (F+G) q (Zx p):=by
   conv=>lhs;unfold eu
   rw [aD g,show Xv p q=p from aF h]
  rw [this];exact Zxf _ d (Yv d) (Yv e) (Yv e) (Qf d).symm (Sim.refl _)
 .rw [show gA p q=Zx p from aD O,show gB p q=Zx q from aD O];have l:eu (F+(G+1)) p q=eu (F+G) p q:=by rw [Zgr F (G+1) f,Zgr F G f]
  rw [l,show G+F=F+G by omega];exact Zxf _ e (Yv e) d (Yv d) (Qf e).symm (Qf d).symm
def chk:Nat->Nat->Nat->Nat->Nat->Bool
 | 0,_,d,_,_=>Nat.beq d 0
 | f+1,e,d,A,B=>Nat.beq d 0 || (bif Nat.blt e d then chk f d e B A else
   Nat.ble (A+(e-d+1)*B) 65537 && (List.range d).all λl=>chk f d l B (bif Nat.ble l 1 then 2 else A+(e-d+1)*B))
theorem cp_nf{p:List Int}{y z:Int}{n:Nat}(d:Sz n p)(l:bl x.natAbs<=m)(o:bl y.natAbs<=m)(q:bl z.natAbs<=m)(j:p.length<=25)(h:n+24*(m+1)+8<=65536):Xm p+(p.length-1)*(Xm [x,y,z]+1)+8<=65536:=by
 have e:=Qq d;have f:Xm [x,y,z]<=m:=by simp only [Xm];omega
 have g:(p.length-1)*(Xm [x,y,z]+1)<=24*(m+1):=aR O O;omega
theorem cp_not{p:List Int}{y z:Int}(h:Xm p+(p.length-1)*(Xm [x,y,z]+1)+8<=65536):¬Zmj p x y z:=λd=>by have:=d.2;omega
theorem Zfc(p:List Int)(x y z:Int):(Le p x y z).length<=p.length:=by
 unfold Le;split
 .exact bG _
 .refine aB (Mp _) ?_;rw [Zc0];omega
theorem Zt4(x y:Int):Lv x y∣x:=by
 unfold Lv;split
 .exact Int.neg_dvd.2 (kN ..)
 .exact kN ..
theorem Zlu(x y:Int):Lv x y∣y:=by
 unfold Lv;split
 .exact Int.neg_dvd.2 (jB ..)
 .exact jB ..
def s8(l:List Int):Prop:=∀x∈l,(Qv x.natAbs).size<=8
abbrev Z0:SL×List Int:=((none,0,0),[])
theorem vp_eu:∀(f:Nat) {a b:List Int},Vp a->Vp b->eok f a b->Vp (eu f a b)
 | 0,_,_,h,_,_=>h
 | f+1,a,b,d,e,h=>by
  unfold eu;split
  .exact d
  .rcases h with h|h
   .contradiction
   .exact vp_eu f e (Lp (Zar d h.1)) h.2
theorem Yes{g:List Int}(h:Vp g):Vp (Lm g):=by
 unfold Lm;split
 .refine⟨λi=>by rw [Yk];exact Zb7 h.sz i,Qe _ _,aB (Pt _ _) h.len⟩
 .exact h
def Zyh{p q:List Int}(d:Vp p)(e:Vp q)(h:eok F (gA p q) (gB p q)):Vp (Na F p q):=Yes (vp_eu F (vp_gA d e) (vp_gB d e) h)
def pevn(p:List Int)(x y:Int)(n:Nat):Int:=Yf (λi=>cf p i*(x^i*y^(n-1-i))) n
def dn(p:List Int)(y:Int):Int:=y^(p.length-1)
def Ff(q:List Int):Qn [] q=[]:=Za1 (.inl rfl)
def Zbw(p:List Int):Qn p []=[]:=Za1 (.inr rfl)
theorem Yii(N D:Int):N/Lv N D*D=N*(D/Lv N D):=by have e:=iD (Zt4 N D);have f:=iD (Zlu N D);generalize N/Lv N D=n at *;generalize D/Lv N D=d at *;generalize Lv N D=g at *;subst e f;grind
theorem Ydr{N D:Int}(h:0<D):0<D/Lv N D:=by
 have f:Lv N D=(Int.gcd N D:Int):=aD O;have g:=iD (Zlu N D);rw [f]at g ⊢;generalize D/(Int.gcd N D:Int)=d at *;rcases gY 0 d with e|e
 .exact e
 .exfalso;have:d*(Int.gcd N D:Int)<=0:=gN e O;omega
section
variable {p q:List Int}
theorem Zfg(w:Tr p)(n:Tr q)(h:p≠[])(e:q≠[]):∀j,j<=p.length->∀t,cf (Xf (Qn p q) q j) t=(ps (p.take (p.length-j))*ps q).c t
 | 0,_,t=>by rw [jK,bM];exact Hh p q t
 | j+1,H,t=>by
  have y:=Zfg w n h e j O;have I:=aE.2 h;have N:=aE.2 e;have v:=Ov w n h e;have B:Xf (Qn p q) q (j+1)=Zev q (Xf (Qn p q) q j) (p.length-1-j):=by show Zev q _ _=_;rw [v];congr 1;omega
  have o:=n.mem e;have d:cf (Xf (Qn p q) q j) (p.length-1-j+q.length-1)=cf p (p.length-1-j)*cf q (q.length-1):=by rw [y,show p.length-1-j+q.length-1=(p.length-1-j)+(q.length-1) by omega,Ah (λi hi=>by rw [Ej,aD O]) (λi hi=>Yg O),Ej,aF O]
  have l:dq q (Xf (Qn p q) q j) (p.length-1-j)=cf p (p.length-1-j):=by unfold dq;rw [d];exact kY _ o
  have G:(ps (p.take (p.length-j))*ps q).c t=(ps (p.take (p.length-(j+1)))*ps q).c t+(ps (mono (p.length-1-j) (cf p (p.length-1-j)))*ps q).c t:=by
   rw [PS.mul_c,PS.mul_c,PS.mul_c,<-Fk];refine Xa λk _=>?_;rw [Ol,Ol,Ol,Ol,Ej,Ej,Zj2];by_cases f:k=p.length-1-j
   .rw [aF O,aD O,aF f,<-f];omega
   .rw [aD f];by_cases r:k<p.length-j
    .rw [aF r,aF O];omega
    .rw [aD r,aD O];omega
  rw [B];unfold Zev;rw [Nq,Gt,v,l,y,G,Zln,Ol];by_cases u:t<p.length+q.length-1
  .rw [aF u];by_cases g:p.length-1-j<=t
   .rw [aF g];by_cases z:t<p.length-1-j+q.length
    .rw [aF ⟨g,z⟩];omega
    .rw [aD O,Yg (p:=q) O];omega
   .rw [aD g,aD O];omega
  .rw [aD u,PS.mul_c];refine(Gf λk _=>?_).symm;rw [Ol,Ol,Ej];split
   .rw [Yg (p:=q) O,dO]
   .rw [cN]
theorem Zp4(j:Tr p)(l:Tr q)(e:q≠[]):pdv (Qn p q) q/\Lq (Qn p q) q=p:=by
 by_cases d:p=[]
 .subst d;rw [Ff];exact⟨.inl rfl,rfl⟩
 have v:=aE.2 d;have w:=aE.2 e;have u:=Ov j l d e;have o:=l.mem e;have r:∀k,k<=p.length-1->cf (Xf (Qn p q) q (p.length-1-k)) (k+q.length-1)=cf p k*cf q (q.length-1):=λk f=>by rw [Zfg j l d e _ O,show k+q.length-1=k+(q.length-1) by omega,Ah (λi hi=>by rw [Ej,aD O]) (λi hi=>Yg O),Ej,aF O]
 have h:(Qn p q).length-q.length=p.length-1:=O;have n:Qn p q≠[]:=aE.1 O;refine⟨.inr ⟨O,λk f=>?_,?_⟩,?_⟩
 .unfold Mj;rw [h]at f ⊢;rw [r k f];exact Int.mul_emod_left _ _
 .rw [h,show p.length-1+1=p.length by omega];refine(Kg _).2 λi=>?_;rw [Zfg j l d e _ (aH _),gX,dV];exact Lu (λt=>Yg (bG _)) _ _
 .rw [Zlc n];unfold Yg4;rw [h,show p.length-1+1=p.length by omega,Hy (g:=cf p) λk f=>?_,Zd6,Zak j];unfold Zu2 dq;rw [h,r k O];exact kY _ o
end
def Dv(g a:List Int):Prop:=∃(k:Int) (s:List Int),k≠0/\∀t,k*cf a t=(ps s*ps g).c t
theorem Ztt(f:PS)(t:Nat):(ps [1]*f).c t=f.c t:=by rw [PS.mul_c,Bv (k:=0) O λi _ d=>by rw [Ol,Yg (p:=[1]) O8,cN],Ol,show cf [1] 0=1 from rfl,eQ,jK]
theorem Dv.refl(a:List Int):Dv a a:=⟨1,[1],O3,λt=>by rw [Ztt,eQ,Ol]⟩
theorem Dv.nil(g:List Int):Dv g []:=⟨1,[],O3,λt=>by rw [Lu (λt=>Yg (bG _)),Yg (bG _)];rfl⟩
theorem Dv.sim{g:List Int} : Dv g a->Sim a b->Dv g b:=λ⟨k,s,d,h⟩ ⟨m,n,j,f,e⟩=>
 ⟨k*n,Zs s m,bK d f,λt=>by rw [PS.mul_c,show(λi=>(ps (Zs s m)).c i*(ps g).c (t-i))=λi=>m*((ps s).c i*(ps g).c (t-i))from funext λi=>by rw [Ol,Ol,Ol,Yk];grind,Nr,<-PS.mul_c,<-h,Int.mul_assoc,<-e];grind⟩
theorem Dv.lin{g:List Int}(r:Dv g a)(w:Dv g b)(s:List Int)(L:Int)(o:L≠0)(h:∀t,L*cf c t=(ps s*ps a).c t+cf b t):Dv g c:=by
 obtain⟨k,u,y,j⟩:=r;obtain⟨m,v,z,l⟩:=w;refine⟨L*(k*m),Fg (Zs (Qn s u) m) (Zs v k),bK o (bK y z),λt=>?_⟩;have G:ps g=ps g:=rfl;have d:k*(ps s*ps a).c t=(ps (Qn s u)*ps g).c t:=by rw [Zjo,PS.mul_assoc',PS.mul_c,PS.mul_c,<-Nr];refine Xa λi _=>?_;rw [<-j,Ol,Ol];grind
 have e:(ps (Fg (Zs (Qn s u) m) (Zs v k))*ps g).c t=m*(ps (Qn s u)*ps g).c t+k*(ps v*ps g).c t:=by rw [PS.mul_c,PS.mul_c,PS.mul_c,<-Nr,<-Nr,<-Fk];refine Xa λi _=>?_;rw [Ol,Ol,Ol,Ol,Dw,Yk,Yk];grind
 have f:=h t;have n:=l t;rw [e,<-d,<-n];generalize (ps s*ps a).c t=X at *;generalize cf c t=C at *;generalize cf b t=B at *;have:L*(k*m)*C=k*m*(L*C):=O4;rw [this,f];grind
theorem eu_dv:∀(f:Nat) {a b:List Int},Tr a->Tr b->eok f a b->Dv (eu f a b) a/\Dv (eu f a b) b
 | 0,a,b,l,g,h=>by rw [show b=[]from h];exact⟨Dv.refl _,Dv.nil _⟩
 | f+1,a,b,l,g,h=>by
  by_cases d:b=[]
  .subst d;rw [Di];exact⟨Dv.refl _,Dv.nil _⟩
  .rcases h with h|h
   .exact absurd h d
   .have e:eu (f+1) a b=eu f b (Zx (Xv a b)):=by
     conv=>lhs;unfold eu
     rw [aD d]
    rw [e];have t1:=Ki (q:=b) l;obtain⟨j,n⟩:=eu_dv f g (Yv t1) h.2;obtain⟨k,s,hs⟩:=Cf a d;exact⟨j.lin (n.sim (Qf t1)) s _ (Nn (g.mem d) k) hs,j⟩
theorem Dv.of_sim{g d:List Int} : Dv g a->Sim g d->Dv d a:=λ⟨k,s,f,h⟩ ⟨m,n,j,l,e⟩=>
 ⟨m*k,Zs s n,bK j f,λt=>by rw [eE,h,PS.mul_c,PS.mul_c,<-Nr];refine Xa λi _=>?_;rw [Ol,Ol,Ol,Ol,Yk];have:=e (t-i);grind⟩
theorem Dv.zero(f:Tr a)(h:Dv [] a):a=[]:=by
 obtain⟨k,s,g,h⟩:=h;rw [<-Zak f,Kg];intro i;have e:=h i;rw [PS.mul_comm',Lu (λt=>Yg (bG _))]at e;rcases eJ.1 e with d|d
 .exact absurd d g
 .exact d
theorem Zd1{p q:List Int}(g:Tr p)(j:Tr q)(h:eok F (gA p q) (gB p q)):Dv (Na F p q) p/\Dv (Na F p q) q:=by
 have l:=Zil g j;have n:=Zik g j;obtain⟨d,e⟩:=eu_dv F l n h;have hs:Sim (eu F (gA p q) (gB p q)) (Na F p q):=(Hd _).symm;have d:=d.of_sim hs;have e:=e.of_sim hs;by_cases f:p.length<q.length
 .rw [show gA p q=Zx q from aF f]at d;rw [show gB p q=Zx p from aF f]at e;exact⟨e.sim (Qf g),d.sim (Qf j)⟩
 .rw [show gA p q=Zx p from aD f]at d;rw [show gB p q=Zx q from aD f]at e;exact⟨d.sim (Qf g),e.sim (Qf j)⟩
def Zdq{p q:List Int}(d:Tr p)(e:Tr q):Tr (Na F p q):=Oy (Zmd F (Zil d e) (Zik d e))
theorem Ze4(p:List Int){c:Int}(h:c≠0):Sim p (Zs p c):=⟨c,1,h,O3,λi=>by rw [Yk];grind⟩
def fin8(d A:Nat):Bool:=Nat.ble d 2 || Nat.ble (64+(9-d)*A) 65536
def chk2:Nat->Nat->Nat->Nat->Nat->Bool
 | 0,d,_,A,_=>fin8 d A
 | f+1,d,e,A,B=>bif Nat.beq e 0 then fin8 d A else bif Nat.blt d e then chk2 f e d B A else
   (List.range e).all λl=>chk2 f e l B (bif Nat.ble l 1 then 2 else A+(d-e+1)*B)
def Zb0{g:List Int}(h:Tr g):(Lm g).length=g.length:=(Hd g).len (Oy h) h
theorem Ziw(g:List Int):Ys (Lm g)=Ys g:=by
 have d:Ys (Lm g)∣Ys g:=Fr λi=>by
  have h:=Ln (Lm g) i;rw [El]at h;split at h
  .exact mA.1 h
  .exact h
 have e:Ys g∣Ys (Lm g):=Fr λi=>by
  rw [El];split
  .exact mA.2 (Ln g i)
  .exact Ln g i
 exact Int.dvd_antisymm (Nk _) (Nk _) d e
theorem Zlh{p q:List Int}(f:Tr p)(g:Tr q)(d:Na F p q≠[]):Ys (Na F p q)=1:=by rw [Ztr f g]at d ⊢;unfold Yz at d ⊢;rw [Ziw];refine Kj (Zmd F (Zil f g) (Zik f g)) λe=>d ?_;rw [e];rfl
end Go.Sky
namespace Go.Sky
variable{a p xs:List Int}{P:Nat->Prop}
def Zaw(xs:List Int):Prop:=xs.length=0\/(xs.length+2)*(xs.length+2)*(Xm xs+16)<=65536
instance (xs:List Int):Decidable (Zaw xs):=by unfold Zaw;infer_instance
def sqf(F:Nat)(xs:List Int):List Int:=Lq (Yz xs) (Na F (Yz xs) (Yx (Yz xs)))
def Yme(F:Nat)(xs:List Int):Prop:=(∀i,i<xs.length->bl (cf (Yz xs) (i+1)*((i:Int)+1)).natAbs<=65536)/\¬Zol (Yz xs) (Yx (Yz xs))/\eok F (gA (Yz xs) (Yx (Yz xs))) (gB (Yz xs) (Yx (Yz xs)))/\
 Bl (Yz xs) (Na F (Yz xs) (Yx (Yz xs)))=0/\pdv (Yz xs) (Na F (Yz xs) (Yx (Yz xs)))
def Ns(x y:List Int):List Int:=if cf y (y.length-1)<0/\(x.length-y.length+1)%2=1 then Zx (Xv x y)else Zs (Zx (Xv x y)) (-1)
def cok:Nat->List Int->List Int->Prop
 | 0,_,y=>y=[]
 | f+1,x,y=>y=[]\/(Bl x y=0/\y.length<=x.length/\cok f y (Ns x y))
def Nu:Nat->List Int->List Int->List (List Int)
 | 0,x,_=>[x]
 | f+1,x,y=>if y=[]then [x]else x::Nu f y (Ns x y)
theorem Ew(f:Nat)(x:List Int):Nu f x []=[x]:=by cases f<;>rfl
theorem Zg2{f:Nat}{b:List Int}(h:cok f a b)(c:b≠[]):∃g,f=g+1/\Bl a b=0/\b.length<=a.length/\cok g b (Ns a b)/\Nu f a b=a::Nu g b (Ns a b):=by
 cases f with
 | zero=>exact absurd h c
 | succ g=>
  rcases h with h|h
  .exact absurd h c
  .exact⟨g,rfl,h.1,h.2.1,h.2.2,by show(if b=[]then [a]else _)=_;rw [aD c]⟩
def chn(F:Nat)(xs:List Int):List (List Int):=Nu F (sqf F xs) (Zx (Yx (sqf F xs)))
def Ai(F:Nat)(xs:List Int):Prop:=Yme F xs/\(∀i,i<xs.length->bl (cf (sqf F xs) (i+1)*((i:Int)+1)).natAbs<=65536)/\cok F (sqf F xs) (Zx (Yx (sqf F xs)))
theorem Zvw(h:Vp p):Vp (Yz p):=by
 unfold Yz;have b:=Lp h;refine⟨λi=>?_,Oy b.tr,by rw [Zb0 b.tr];exact b.len⟩;rw [El];split
 .rw [dW];exact b.sz i
 .exact b.sz i
theorem Pm(h:Tr p):(Yz p).length=p.length:=by unfold Yz;rw [Zb0 (Yv h),Zw]
theorem Zkb{x y:List Int}(c:Vp x)(b:Bl x y=0):Vp (Ns x y):=by
 have h:=Lp (Zar c b);unfold Ns;split
 .exact h
 .exact⟨λi=>by rw [Yk];exact Zb7 h.sz i,Qe _ _,aB (Pt _ _) h.len⟩
def Nc(s:Int×Int)(x:Int):Int×Int:=if x=0 then s else(if x=-s.2 then s.1+1 else s.1,x)
def chg(l:List Int):Int:=(l.foldl Nc (0,0)).1
def Zb2{α β:Type}(f:α->β->α)(a:α)(l:List β)(x:β):(l ++ [x]).foldl f a=f (l.foldl f a) x:=O5
theorem chg1_n(s:Int×Int)(x:Int):(Nc s x).1=s.1\/(Nc s x).1=s.1+1:=by
 unfold Nc;split
 .exact .inl rfl
 .dsimp only;split
  .exact .inr rfl
  .exact .inl rfl
def sgs(b:List (List Int))(x y:Int):List Int:=b.map λp=>(pev p x y).sign
def sgr(b:List (List Int)):List Int:=b.map λp=>(cf p (p.length-1)).sign
def sgl(b:List (List Int)):List Int:=b.map λp=>if p.length%2=0 then-(cf p (p.length-1)).sign else(cf p (p.length-1)).sign
def smost(xs:List Int):Nat:=(xs.take (xs.length-1)).foldl (λm c=>max m c.natAbs) 0
def sbound(xs:List Int):Int:=((smost xs/(cf xs (xs.length-1)).natAbs:Nat):Int)+2
def Zxy(xs:List Int):Int:=if xs.length=0 then 3 else if Zaw xs then 0 else 7
def ef(z:Int×Int):Bool:=decide (512<bl z.1.natAbs) || decide (512<bl z.2.natAbs)
def chk2r(xs:List Int)(x y b c:Int):Int:=if xs.length=0 then 3 else if 0<x*c-b*y then 3 else if Zaw xs/\ef (x,y)=false/\ef (b,c)=false then 0 else 7
theorem Ype(b:xs≠[])(h:Zaw xs):Zxy xs=0:=by unfold Zxy;rw [aD (λe=>b (aC e)),aF h]
theorem Zjr(h:¬cf (Zx xs) ((Zx xs).length-1)<0):Yz xs=Zx xs:=by unfold Yz Lm;rw [aD O]
theorem Zjs(b:(Zx xs).length≠0)(h:cf (Zx xs) ((Zx xs).length-1)<0):Yz xs=Zs (Zx xs) (-1):=by unfold Yz Lm;rw [aF ⟨b,h⟩]
theorem Zfe : ∀n,P n->∃m,P m/\∀k,k<m->¬P k:=by
 intro n
 induction n using Nat.strongRecOn with
 | _ n e=>
  intro h;by_cases d:∃k,k<n/\P k
  .obtain⟨k,c,b⟩:=d;exact e k c b
  .exact⟨n,h,λk c b=>d ⟨k,c,b⟩⟩
theorem Ydt{n:Nat}(h:2<=n):∃p,2<=p/\p∣n/\∀d,2<=d->d∣n->p<=d:=by
 obtain⟨p,⟨e,f⟩,g⟩:=Zfe (P:=λd=>2<=d/\d∣n) n ⟨h,Nat.dvd_refl n⟩;exact⟨p,e,f,λd i c=>by
  rcases bA d p with b|b
  .exact absurd ⟨i,c⟩ (g d b)
  .exact b⟩
theorem Zuc{n p:Nat}(m:2<=p)(g:p∣n)(i:∀d,2<=d->d∣n->p<=d)(r:0<n){x y:Int}(h:(p:Int)∣x*y):(p:Int)∣x\/(p:Int)∣y:=by
 by_cases f:(p:Int)∣x
 .exact .inl f
 .right;have k:Nat.gcd p x.natAbs=1:=by
   have e:=mJ p x.natAbs;have l:0<Nat.gcd p x.natAbs:=Nat.gcd_pos_of_pos_left _ O;rcases bA (Nat.gcd p x.natAbs) 2 with b|b
   .omega
   .have o:=i _ b (Nat.dvd_trans e g);have q:=mD O e;exfalso;refine f (fN.1 ?_);rw [dD];have j:Nat.gcd p x.natAbs=p:=O;rw [<-j];exact oD _ _
  have c:=fN.2 h;rw [dD,cH]at c;refine fN.1 ?_;rw [dD];exact(show Nat.Coprime p x.natAbs from k).dvd_of_dvd_mul_left c
theorem gauss{g:List Int}(hg:Ys g=1):∀(n:Nat) (k:Int) (s:List Int),k.natAbs=n->k≠0->(∀t,k*cf a t=(ps s*ps g).c t)->∃q:List Int,∀t,cf a t=(ps q*ps g).c t:=by
 intro n
 induction n using Nat.strongRecOn with
 | _ n ih=>
  intro k s l S h;rcases bA n 2 with N|N
  .have F:k*k=1:=by have:k=1\/k=-1:=O;rcases this with e|e<;>subst e<;>rfl
   refine⟨Zs s k,λt=>?_⟩;have e:(ps (Zs s k)*ps g).c t=k*(ps s*ps g).c t:=by rw [PS.mul_c,PS.mul_c,<-Nr];exact Xa λi _=>by rw [Ol,Ol,Ol,Yk];grind
   rw [e,<-h,<-eE,F,eQ]
  .obtain⟨p,V,W,pm⟩:=Ydt N;have H:∀{x y:Int},(p:Int)∣x*y->(p:Int)∣x\/(p:Int)∣y:=Zuc V W pm O;have o:(p:Int)∣k:=fN.1 (by rw [dD,l];exact W);have v:∃j,¬(p:Int)∣cf g j:=bN λr=>by have:(p:Int)∣Ys g:=Fr λi=>bN λhy=>r ⟨i,hy⟩;rw [hg]at this;have:=mG O3 this;omega
   obtain⟨j0,B⟩:=v;obtain⟨j,hj,D⟩:=Zfe (P:=λj=>¬(p:Int)∣cf g j) j0 B;have hs:∀i,(p:Int)∣cf s i:=λi0=>bN λw=>by
    obtain⟨i,hi,z⟩:=Zfe (P:=λi=>¬(p:Int)∣cf s i) i0 w;have Q:=h (i+j);rw [PS.mul_c]at Q;have M:∀m,m<=i+j+1->(p:Int)∣Yf (λk=>if k=i then 0 else(ps s).c k*(ps g).c (i+j-k)) m:=λm=>by
     induction m with
     | zero=>intro _;exact jN _
     | succ m I=>
      intro hm;rw [Yi];refine Int.dvd_add (I O) ?_;split
      .exact jN _
      .rename_i a0;rw [Ol,Ol];rcases bA m i with u|u
       .exact iB (bN λr=>z m u r) (jC _ _)
       .exact iB (bN λr=>D (i+j-m) O r) (Int.dvd_mul_left _ _)
    have Y:Yf (λk=>(ps s).c k*(ps g).c (i+j-k)) (i+j+1)=Yf (λk=>if k=i then 0 else(ps s).c k*(ps g).c (i+j-k)) (i+j+1)+cf s i*cf g j:=by
     have Z:Yf (λk=>(ps s).c k*(ps g).c (i+j-k)) (i+j+1)=Yf (λk=>(if k=i then 0 else(ps s).c k*(ps g).c (i+j-k))+(if k=i then(ps s).c k*(ps g).c (i+j-k)else 0)) (i+j+1):=
      Xa λk _=>by split<;>omega
     rw [Z,Fk,Bv (f:=λk=>if k=i then(ps s).c k*(ps g).c (i+j-k)else 0) (k:=i) O (λq _ hq=>aD hq),aF rfl,Ol,Ol,show i+j-i=j by omega]
    rw [Y]at Q;have u:(p:Int)∣cf s i*cf g j:=by have d:cf s i*cf g j=k*cf a (i+j)-Yf (λk=>if k=i then 0 else(ps s).c k*(ps g).c (i+j-k)) (i+j+1):=O;rw [d];exact Int.dvd_sub (iB o (jC _ _)) (M _ (aH _))
    rcases H u with d|d
    .exact hi d
    .exact hj d
   obtain⟨c,b⟩:=o;have G:(p:Int)≠0:=O;refine ih c.natAbs ?_ c (s.map (· / (p:Int))) rfl ?_ ?_
   .rw [<-l,b,cH,dD];have:0<c.natAbs:=by
     rcases aV c.natAbs with R|R
     .rw [show c=0 by omega]at b;simp at b;exact absurd b S
     .exact R
    have:=aK c.natAbs V;omega
   .intro e;rw [e]at b;simp at b;exact S b
   .intro t;refine gP G ?_;rw [<-eE,<-b,h,PS.mul_c,PS.mul_c,<-Nr];refine Xa λi _=>?_;rw [Ol,Ol,Ol,Zde _ _ O5,<-eE,kQ (hs i)]
def ev1:List Int->Int->Int
 | [],_=>0
 | c::r,t=>c+t*ev1 r t
def sdv:List Int->Int->List Int
 | [],_=>[]
 | [_],_=>[]
 | _::c::r,t=>ev1 (c::r) t::sdv (c::r) t
theorem Zlx:∀(u:List Int) (t:Int),(sdv u t).length=u.length-1
 | [],_=>rfl
 | [_],_=>rfl
 | _::c::r,t=>by unfold sdv;rw [dI,Zlx (c::r) t];simp
theorem Yas:∀(u:List Int) (t x:Int),ev1 u x=ev1 u t+(x-t)*ev1 (sdv u t) x
 | [],t,x=>by simp [ev1,sdv]
 | [c],t,x=>by simp [ev1,sdv]
 | a::c::r,t,x=>by have b:=Yas (c::r) t x;show a+x*ev1 (c::r) x=a+t*ev1 (c::r) t+(x-t)*(ev1 (c::r) t+x*ev1 (sdv (c::r) t) x);rw [b];generalize ev1 (c::r) t=A;generalize ev1 (sdv (c::r) t) x=B;grind
theorem Dy(a:Int)(u:List Int)(i:Nat):cf (a::u) i=if i=0 then a else cf u (i-1):=by
 cases i with
 | zero=>rfl
 | succ i=>simp [cf]
def Zb6(i:Nat):cf [] i=0:=Yg (bG _)
theorem Ykt:∀(u:List Int) (t:Int) (i:Nat),cf u (i+1)=cf (sdv u t) i-t*cf (sdv u t) (i+1)
 | [],t,i=>by unfold sdv;simp [Zb6]
 | [c],t,i=>by unfold sdv;rw [Dy,aD O];simp [Zb6]
 | a::c::r,t,i=>by
  unfold sdv;rw [Dy,aD O,eT];cases i with
  | zero=>
   rw [Dy,aF rfl,Dy,aF rfl,Dy,aD O];show c=ev1 (c::r) t-t*cf (sdv (c::r) t) 0
   match r with
   | []=>simp [ev1,sdv,cf]
   | d::r'=>unfold sdv;rw [Dy,aF rfl];show c=(c+t*ev1 (d::r') t)-_;omega
  | succ i=>
   rw [Dy _ (sdv _ _) (i+1),aD O,Dy _ (sdv _ _),aD O,eT,eT];exact Ykt (c::r) t i
theorem Yph:∀(u:List Int) (t:Int),cf u 0=ev1 u t-t*cf (sdv u t) 0
 | [],t=>by simp [ev1,sdv,cf]
 | [c],t=>by simp [ev1,sdv,cf]
 | a::c::r,t=>by unfold sdv;rw [Dy,aF rfl,Dy,aF rfl];show a=(a+t*ev1 (c::r) t)-t*ev1 (c::r) t;omega
theorem Zs6:∀(n:Nat) (u:List Int) (R:List Int),u.length=n->(∃i,cf u i≠0)->R.Nodup->(∀t∈R,ev1 u t=0)->R.length<n
 | 0,u,R,d,b,_,_=>by obtain⟨i,hi⟩:=b;rw [aC d,Zb6]at hi;exact absurd rfl hi
 | n+1,u,[],d,b,_,_=>O5
 | n+1,u,t::R,d,b,hd,hR=>by
  have f:=hR t (bR ..);have l:=Zlx u t;have j:∃i,cf (sdv u t) i≠0:=bN λc=>by
   have e:∀i,cf (sdv u t) i=0:=λi=>bN λk=>c ⟨i,k⟩;obtain⟨i,hi⟩:=b;cases i with
   | zero=>rw [Yph u t,f,e]at hi;simp at hi
   | succ i=>rw [Ykt u t,e,e]at hi;simp at hi
  have:=Zs6 n (sdv u t) R O j (List.nodup_cons.1 hd).2 λx c=>by
   have g:=hR x (bI _ c);rw [Yas u t x,f,kB]at g;rcases eJ.1 g with h|h
   .exfalso;have:x=t:=O;subst this;exact(List.nodup_cons.1 hd).1 c
   .exact h
  simp;omega
def kk:Nat->Nat
 | 0=>0
 | d+1=>30*kk d+1
def pts:List Int:=[0,1,2,3,4,5,6,7,8,9,10,11,12,13,14]
end Go.Sky

