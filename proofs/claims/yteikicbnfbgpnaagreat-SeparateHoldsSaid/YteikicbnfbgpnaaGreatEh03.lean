/- Rules, arithmetic and contracts: part 4. No conditions but those that each theorem names. -/
import Derived.Test.YteikicbnfbgpnaaGreatEh02
import Derived.Test.YteikicbnfbgpnaaGreatProg
import Derived.Test.YteikicbnfbgpnaaGreatRows
import Derived.WalkKit
import Derived.ProofKit
import Derived.OpenShut
import Derived.ShutString
import Derived.ChangeOld
import Derived.Deep.Slices
import Derived.Lib.SmallJoins
set_option linter.all false
namespace Go.Sky
open Go.Proofs
def pU:Enc Tryz.prog 232 1 Mj:=Enc.flat Tryz.sizeOf232 Tryz.isAgg232 (λ_=>rfl)
def pB:Enc Tryz.prog 5 1 Ziv:=Enc.flat Tryz.sizeOf5 Tryz.isAgg5 (λ_=>rfl)
def pN:Enc Tryz.prog 3 1 Hb:=Enc.flat Tryz.sizeOf3 Tryz.isAgg3 (λ_=>rfl)
def pZ:Enc Tryz.prog 3 1 Yq:=Enc.flat Tryz.sizeOf3 Tryz.isAgg3 (λ_=>rfl)
def Zhx(args:Array Value)(w:World):(callFunc 269 args).run Tryz.prog w=((add64Entry args).run Tryz.prog w).andThen λv w'=> .ok (.value v) w':=
 run_callFunc_extern Tryz.func269 O7 O7 O7 O7 args w
def Yci(args:Array Value)(w:World):(callFunc 270 args).run Tryz.prog w=((Zec args).run Tryz.prog w).andThen λv w'=> .ok (.value v) w':=
 run_callFunc_extern Tryz.func270 O7 O7 O7 O7 args w
end Go.Sky
theorem Go.Proofs.Tryz.ti232:Go.Proofs.Tryz.prog.info? 232=some Go.Proofs.Tryz.t232:=Go.Sky.O7
namespace Go.Sky
open Go.Proofs
end Go.Sky
theorem Go.Proofs.Tryz.ti5:Go.Proofs.Tryz.prog.info? 5=some Go.Proofs.Tryz.t5:=Go.Sky.O7
namespace Go.Sky
open Go.Proofs
end Go.Sky
theorem Go.Proofs.Tryz.ti3:Go.Proofs.Tryz.prog.info? 3=some Go.Proofs.Tryz.t3:=Go.Sky.O7
namespace Go.Sky
open Go.Proofs
variable{a b:Bool}
def pW:Enc Tryz.prog 80 2 Zxc:=Enc.agg O3 Tryz.sizeOf80 Tryz.isAgg80 (λx=>⟨[.bool x.1,.string x.2],rfl,rfl,O11⟩)
def pV:Enc Tryz.prog 80 2 wv:=Enc.agg O3 Tryz.sizeOf80 Tryz.isAgg80 (λx=>⟨[.bool (decide (x<0)),.string (Qe x.natAbs)],rfl,rfl,O11⟩)
def pI:Enc Tryz.prog 89 2 Zbk:=Enc.agg O3 Tryz.sizeOf89 Tryz.isAgg89 (λx=>⟨[.bool (decide (x.1<0)),Xx x.2],rfl,rfl,O11⟩)
def pS{α:Type} : Enc Tryz.prog 40 1 (Ij (α:=α)):=Enc.flat Tryz.sizeOf40 Tryz.isAgg40 (λ_=>rfl)
def pY:Enc Tryz.prog 276 8 iq:=Enc.agg O3 Tryz.sizeOf276 Tryz.isAgg276 (λx=>⟨[.bool (decide (x.1.1<0)),.string (Qe x.1.1.natAbs),.bool (decide (x.1.2<0)),.string (Qe x.1.2.natAbs),.bool (decide (x.2.1<0)),.string (Qe x.2.1.natAbs),.bool (decide (x.2.2<0)),.string (Qe x.2.2.natAbs)],rfl,rfl,O11⟩)
def pQ:Enc Tryz.prog 82 4 rq:=Enc.agg O3 Tryz.sizeOf82 Tryz.isAgg82 (λx=>⟨[.bool (decide (x.1<0)),.string (Qe x.1.natAbs),.bool (decide (x.2<0)),.string (Qe x.2.natAbs)],rfl,rfl,O11⟩)
def pR:Enc Tryz.prog 82 4 encQ:=Enc.agg O3 Tryz.sizeOf82 Tryz.isAgg82 (λx=>⟨[.bool x.1.1,.string x.1.2,.bool x.2.1,.string x.2.2],rfl,rfl,O11⟩)
def sh80:Tryz.prog.stoodInHeld 80=false:=O7
def eg80:Tryz.prog.eqGuardType Tryz.prog.depth 80=false:=O7
theorem in80(d:Nat)(w:World)(a:Bool)(s:ByteArray)(b:Bool)(t:ByteArray):(Op.equalIn (d+2) 80 (.agg #[.bool a,.string s]) (.agg #[.bool b,.string t])).run Tryz.prog w= .ok (eqW a s b t) w:=by
 have c:Tryz.prog.underlying 80=some (.struct (Tryz.prog.fieldsOf 80)):=by unfold Program.fieldsOf;rw [Tryz.underlying80]
 rw [run_equalIn_agg w (d+1) 80 _ _ c sh80];unfold Program.fieldsOf;rw [Tryz.underlying80];simp [Op.eqFields,part,Tryz.isAgg4,Tryz.isAgg9,run_equalIn_bool' _ _ _ _ _ Tryz.underlying4,run_equalIn_string _ _ _ _ _ Tryz.underlying9];unfold eqW;cases hab:(a == b)
 .simp_all
 .by_cases h:s.toList=t.toList<;>simp_all
theorem eql80(w:World){s:ByteArray}{t:ByteArray}:(binOp .eql 80 (.agg #[.bool a,.string s]) (.agg #[.bool b,.string t])).run Tryz.prog w= .ok (.bool (eqW a s b t)) w:=by rw [run_eql_struct,in80];rfl
theorem neq80(w:World){s:ByteArray}{t:ByteArray}:(binOp .neq 80 (.agg #[.bool a,.string s]) (.agg #[.bool b,.string t])).run Tryz.prog w= .ok (.bool (!eqW a s b t)) w:=by rw [run_neq_struct,in80];rfl
end Go.Sky
theorem Go.Proofs.Tryz.ti33:Go.Proofs.Tryz.prog.info? 33=some Go.Proofs.Tryz.t33:=Go.Sky.O7
namespace Go.Sky
open Go.Proofs
end Go.Sky
theorem Go.Proofs.Tryz.ti35:Go.Proofs.Tryz.prog.info? 35=some Go.Proofs.Tryz.t35:=Go.Sky.O7
namespace Go.Sky
open Go.Proofs
end Go.Sky
theorem Go.Proofs.Tryz.ti38:Go.Proofs.Tryz.prog.info? 38=some Go.Proofs.Tryz.t38:=Go.Sky.O7
namespace Go.Sky
open Go.Proofs
end Go.Sky
theorem Go.Proofs.Tryz.ti40:Go.Proofs.Tryz.prog.info? 40=some Go.Proofs.Tryz.t40:=Go.Sky.O7
namespace Go.Sky
open Go.Proofs
end Go.Sky
theorem Go.Proofs.Tryz.ti80:Go.Proofs.Tryz.prog.info? 80=some Go.Proofs.Tryz.t80:=Go.Sky.O7
namespace Go.Sky
open Go.Proofs
end Go.Sky
theorem Go.Proofs.Tryz.ti82:Go.Proofs.Tryz.prog.info? 82=some Go.Proofs.Tryz.t82:=Go.Sky.O7
namespace Go.Sky
open Go.Proofs
end Go.Sky
theorem Go.Proofs.Tryz.ti89:Go.Proofs.Tryz.prog.info? 89=some Go.Proofs.Tryz.t89:=Go.Sky.O7
namespace Go.Sky
open Go.Proofs
end Go.Sky
theorem Go.Proofs.Tryz.ti91:Go.Proofs.Tryz.prog.info? 91=some Go.Proofs.Tryz.t91:=Go.Sky.O7
namespace Go.Sky
open Go.Proofs
end Go.Sky
theorem Go.Proofs.Tryz.ti130:Go.Proofs.Tryz.prog.info? 130=some Go.Proofs.Tryz.t130:=Go.Sky.O7
namespace Go.Sky
open Go.Proofs
end Go.Sky
theorem Go.Proofs.Tryz.ti23:Go.Proofs.Tryz.prog.info? 23=some Go.Proofs.Tryz.t23:=Go.Sky.O7
namespace Go.Sky
open Go.Proofs
variable{v0 v1:Value}
theorem Yp6{a:Value}(b:v0.oneCell'=true)(c:v1.oneCell'=true)(d:a.oneCell'=true):Tryz.prog.built 23 [(0,v0),(1,v1),(2,a)]=some #[v0,v1,a]:=by refine Qu Tryz.ti23 Tryz.underlying23 rfl (pl:=[(0,1),(1,1),(2,1)]) (by simp [Tryz.ti3];try decide) ?_;simp [Instr.fill,Yb b,Yb c,Yb d,show(Value.agg #[.int .i64 0,.int .i64 0,.int .i64 0]).cells=#[.int .i64 0,.int .i64 0,.int .i64 0]from rfl]
theorem b35_01(a:v0.oneCell'=true)(b:v1.oneCell'=true):Tryz.prog.built 35 [(0,v0),(1,v1)]=some #[v0,v1,.int .i64 0,.slice none 0 0,.slice none 0 0,.slice none 0 0]:=by refine Qu Tryz.ti35 Tryz.underlying35 rfl (pl:=[(0,1),(1,1),(2,1),(3,1),(4,1),(5,1)]) (by simp [Tryz.ti3,Tryz.ti33];try decide) ?_;simp [Instr.fill,Yb a,Yb b,show(Value.agg #[.int .i64 0,.int .i64 0,.int .i64 0,.slice none 0 0,.slice none 0 0,.slice none 0 0]).cells=#[.int .i64 0,.int .i64 0,.int .i64 0,.slice none 0 0,.slice none 0 0,.slice none 0 0]from rfl]
theorem Zx0{a b c d:Value}(e:v0.oneCell'=true)(f:v1.oneCell'=true)(g:a.oneCell'=true)(h:b.oneCell'=true)(i:c.oneCell'=true)(j:d.oneCell'=true):Tryz.prog.built 35 [(0,v0),(1,v1),(2,a),(3,b),(4,c),(5,d)]=some #[v0,v1,a,b,c,d]:=by refine Qu Tryz.ti35 Tryz.underlying35 rfl (pl:=[(0,1),(1,1),(2,1),(3,1),(4,1),(5,1)]) (by simp [Tryz.ti3,Tryz.ti33];try decide) ?_;simp [Instr.fill,Yb e,Yb f,Yb g,Yb h,Yb i,Yb j,show(Value.agg #[.int .i64 0,.int .i64 0,.int .i64 0,.slice none 0 0,.slice none 0 0,.slice none 0 0]).cells=#[.int .i64 0,.int .i64 0,.int .i64 0,.slice none 0 0,.slice none 0 0,.slice none 0 0]from rfl]
end Go.Sky
theorem Go.Proofs.Tryz.ti64:Go.Proofs.Tryz.prog.info? 64=some Go.Proofs.Tryz.t64:=Go.Sky.O7
namespace Go.Sky
open Go.Proofs
def b64_:Tryz.prog.built 64 []=some #[.int .i64 0,.int .i64 0,.int .i64 0,.int .i64 0]:=by refine Qu Tryz.ti64 Tryz.underlying64 rfl (pl:=[(0,1),(1,1),(2,1),(3,1)]) (by simp [Tryz.ti3];try decide) ?_;simp [Instr.fill,show(Value.agg #[.int .i64 0,.int .i64 0,.int .i64 0,.int .i64 0]).cells=#[.int .i64 0,.int .i64 0,.int .i64 0,.int .i64 0]from rfl]
def Zmh{a b c d:Value}(e:a.oneCell'=true)(f:b.oneCell'=true)(g:c.oneCell'=true)(h:d.oneCell'=true):Tryz.prog.built 64 [(0,a),(1,b),(2,c),(3,d)]=some #[a,b,c,d]:=by refine Qu Tryz.ti64 Tryz.underlying64 rfl (pl:=[(0,1),(1,1),(2,1),(3,1)]) (by simp [Tryz.ti3];try decide) ?_;simp [Instr.fill,Yb e,Yb f,Yb g,Yb h,show(Value.agg #[.int .i64 0,.int .i64 0,.int .i64 0,.int .i64 0]).cells=#[.int .i64 0,.int .i64 0,.int .i64 0,.int .i64 0]from rfl]
end Go.Sky
theorem Go.Proofs.Tryz.ti4:Go.Proofs.Tryz.prog.info? 4=some Go.Proofs.Tryz.t4:=Go.Sky.O7
namespace Go.Sky
open Go.Proofs
end Go.Sky
theorem Go.Proofs.Tryz.ti9:Go.Proofs.Tryz.prog.info? 9=some Go.Proofs.Tryz.t9:=Go.Sky.O7
namespace Go.Sky
open Go.Proofs
variable{v0 v1 c0_0 c0_1 c1_0 c1_1:Value}
theorem b80_:Tryz.prog.built 80 []=some #[.bool false,.string ⟨#[]⟩]:=by refine Qu Tryz.ti80 Tryz.underlying80 rfl (pl:=[(0,1),(1,1)]) (by simp [Tryz.ti4,Tryz.ti9];try decide) ?_;simp [Instr.fill,show(Value.agg #[.bool false,.string ⟨#[]⟩]).cells=#[.bool false,.string ⟨#[]⟩]from rfl]
theorem Zxz(a:v0.oneCell'=true)(b:v1.oneCell'=true):Tryz.prog.built 80 [(0,v0),(1,v1)]=some #[v0,v1]:=by refine Qu Tryz.ti80 Tryz.underlying80 rfl (pl:=[(0,1),(1,1)]) (by simp [Tryz.ti4,Tryz.ti9];try decide) ?_;simp [Instr.fill,Yb a,Yb b,show(Value.agg #[.bool false,.string ⟨#[]⟩]).cells=#[.bool false,.string ⟨#[]⟩]from rfl]
theorem Yd7:Tryz.prog.built 82 []=some #[.bool false,.string ⟨#[]⟩,.bool false,.string ⟨#[]⟩]:=by refine Qu Tryz.ti82 Tryz.underlying82 rfl (pl:=[(0,2),(2,2)]) (by simp [Tryz.ti80];try decide) ?_;simp [Instr.fill,show(Value.agg #[.bool false,.string ⟨#[]⟩,.bool false,.string ⟨#[]⟩]).cells=#[.bool false,.string ⟨#[]⟩,.bool false,.string ⟨#[]⟩]from rfl]
theorem Zmg : Tryz.prog.built 82 [(0,.agg #[c0_0,c0_1]),(1,.agg #[c1_0,c1_1])]=some #[c0_0,c0_1,c1_0,c1_1]:=by refine Qu Tryz.ti82 Tryz.underlying82 rfl (pl:=[(0,2),(2,2)]) (by simp [Tryz.ti80];try decide) ?_;simp [Instr.fill,show(Value.agg #[c0_0,c0_1]).cells=#[c0_0,c0_1]from rfl,show(Value.agg #[c1_0,c1_1]).cells=#[c1_0,c1_1]from rfl,show(Value.agg #[.bool false,.string ⟨#[]⟩,.bool false,.string ⟨#[]⟩]).cells=#[.bool false,.string ⟨#[]⟩,.bool false,.string ⟨#[]⟩]from rfl]
theorem Yk2:Tryz.prog.built 89 []=some #[.bool false,.slice none 0 0]:=by refine Qu Tryz.ti89 Tryz.underlying89 rfl (pl:=[(0,1),(1,1)]) (by simp [Tryz.ti33,Tryz.ti4];try decide) ?_;simp [Instr.fill,show(Value.agg #[.bool false,.slice none 0 0]).cells=#[.bool false,.slice none 0 0]from rfl]
theorem Yk1(a:v0.oneCell'=true)(b:v1.oneCell'=true):Tryz.prog.built 89 [(0,v0),(1,v1)]=some #[v0,v1]:=by refine Qu Tryz.ti89 Tryz.underlying89 rfl (pl:=[(0,1),(1,1)]) (by simp [Tryz.ti33,Tryz.ti4];try decide) ?_;simp [Instr.fill,Yb a,Yb b,show(Value.agg #[.bool false,.slice none 0 0]).cells=#[.bool false,.slice none 0 0]from rfl]
theorem Zbr : Tryz.prog.built 91 [(0,.agg #[c0_0,c0_1]),(1,.agg #[c1_0,c1_1])]=some #[c0_0,c0_1,c1_0,c1_1]:=by refine Qu Tryz.ti91 Tryz.underlying91 rfl (pl:=[(0,2),(2,2)]) (by simp [Tryz.ti89];try decide) ?_;simp [Instr.fill,show(Value.agg #[c0_0,c0_1]).cells=#[c0_0,c0_1]from rfl,show(Value.agg #[c1_0,c1_1]).cells=#[c1_0,c1_1]from rfl,show(Value.agg #[.bool false,.slice none 0 0,.bool false,.slice none 0 0]).cells=#[.bool false,.slice none 0 0,.bool false,.slice none 0 0]from rfl]
theorem Zvd{a:Value}(b:v0.oneCell'=true)(c:v1.oneCell'=true)(d:a.oneCell'=true):Tryz.prog.built 130 [(0,v0),(1,v1),(2,a)]=some #[v0,v1,a]:=by refine Qu Tryz.ti130 Tryz.underlying130 rfl (pl:=[(0,1),(1,1),(2,1)]) (by simp [Tryz.ti3,Tryz.ti40];try decide) ?_;simp [Instr.fill,Yb b,Yb c,Yb d,show(Value.agg #[.int .i64 0,.int .i64 0,.slice none 0 0]).cells=#[.int .i64 0,.int .i64 0,.slice none 0 0]from rfl]
end Go.Sky
theorem Go.Proofs.Tryz.ti162:Go.Proofs.Tryz.prog.info? 162=some Go.Proofs.Tryz.t162:=Go.Sky.O7
namespace Go.Sky
open Go.Proofs
def Zoh{a b c d e f g h:Value} : Tryz.prog.built 162 [(0,.agg #[a,b]),(1,.agg #[c,d]),(2,.agg #[e,f]),(3,.agg #[g,h])]=some #[a,b,c,d,e,f,g,h]:=by refine Qu Tryz.ti162 Tryz.underlying162 rfl (pl:=[(0,2),(2,2),(4,2),(6,2)]) (by simp [Tryz.ti80];try decide) ?_;simp [Instr.fill,show(Value.agg #[a,b]).cells=#[a,b]from rfl,show(Value.agg #[c,d]).cells=#[c,d]from rfl,show(Value.agg #[e,f]).cells=#[e,f]from rfl,show(Value.agg #[g,h]).cells=#[g,h]from rfl,show(Value.agg #[.bool false,.string ⟨#[]⟩,.bool false,.string ⟨#[]⟩,.bool false,.string ⟨#[]⟩,.bool false,.string ⟨#[]⟩]).cells=#[.bool false,.string ⟨#[]⟩,.bool false,.string ⟨#[]⟩,.bool false,.string ⟨#[]⟩,.bool false,.string ⟨#[]⟩]from rfl]
end Go.Sky
theorem Go.Proofs.Tryz.ti219:Go.Proofs.Tryz.prog.info? 219=some Go.Proofs.Tryz.t219:=Go.Sky.O7
namespace Go.Sky
open Go.Proofs
end Go.Sky
theorem Go.Proofs.Tryz.ti217:Go.Proofs.Tryz.prog.info? 217=some Go.Proofs.Tryz.t217:=Go.Sky.O7
namespace Go.Sky
open Go.Proofs
def Kn{a b:Value}(c:a.oneCell'=true)(d:b.oneCell'=true):Tryz.prog.built 219 [(0,a),(1,b)]=some #[a,b]:=by refine Qu Tryz.ti219 Tryz.underlying219 rfl (pl:=[(0,1),(1,1)]) (by simp [Tryz.ti217,Tryz.ti4];try decide) ?_;simp [Instr.fill,Yb c,Yb d,show(Value.agg #[.bool false,.slice none 0 0]).cells=#[.bool false,.slice none 0 0]from rfl]
end Go.Sky
theorem Go.Proofs.Tryz.ti276:Go.Proofs.Tryz.prog.info? 276=some Go.Proofs.Tryz.t276:=Go.Sky.O7
namespace Go.Sky
open Go.Proofs
variable{N:Nat}{sc:Nat->Prop}{o:Oper}{env:Qy}{r:Value}{t:TypeId}
theorem Yp5{a b c d e f g h:Value} : Tryz.prog.built 276 [(0,.agg #[a,b,c,d]),(1,.agg #[e,f,g,h])]=some #[a,b,c,d,e,f,g,h]:=by refine Qu Tryz.ti276 Tryz.underlying276 rfl (pl:=[(0,4),(4,4)]) (by simp [Tryz.ti82];try decide) ?_;simp [Instr.fill,show(Value.agg #[a,b,c,d]).cells=#[a,b,c,d]from rfl,show(Value.agg #[e,f,g,h]).cells=#[e,f,g,h]from rfl,show(Value.agg #[.bool false,.string ⟨#[]⟩,.bool false,.string ⟨#[]⟩,.bool false,.string ⟨#[]⟩,.bool false,.string ⟨#[]⟩]).cells=#[.bool false,.string ⟨#[]⟩,.bool false,.string ⟨#[]⟩,.bool false,.string ⟨#[]⟩,.bool false,.string ⟨#[]⟩]from rfl]
def J{α:Sort _}{a:α} : a=a:=rfl
abbrev Xy (P:Program) (f:FuncId) (a:Array Value) (p:List Pc) (v:Value):Prop:=Cal P f a p false (G:=Unit) (λ_=>True) (λ_=>v) (λ_=>[])
abbrev rX (x y:Int):Value:= .agg #[.bool (decide (x<0)),.string (Qe x.natAbs),.bool (decide (y<0)),.string (Qe y.natAbs)]
def vB{a b:Bool}(h:a=b):Value.bool a=Value.bool b:=aL _ h
def dF{P:Program}{H:Hp}(h:Mt P N sc o env H r)(e:r= .bool false):Mt P N sc o env H (.bool false):=Ys _ h e
def dT{P:Program}{H:Hp}(h:Mt P N sc o env H r)(e:r= .bool true):Mt P N sc o env H (.bool true):=Ys _ h e
def K1{t0:Sort _}{a:t0} : a=a/\True:=⟨rfl,aA⟩
def K2{t0:Sort _}{a:t0}{t1:Sort _}{b:t1} : a=a/\b=b/\True:=⟨rfl,rfl,aA⟩
def K3{t0:Sort _}{a:t0}{t1:Sort _}{b:t1}{t2:Sort _}{c:t2} : a=a/\b=b/\c=c/\True:=⟨rfl,rfl,rfl,aA⟩
def K4{t0:Sort _}{a:t0}{t1:Sort _}{b:t1}{t2:Sort _}{c:t2}{t3:Sort _}{d:t3} : a=a/\b=b/\c=c/\d=d/\True:=⟨rfl,rfl,rfl,rfl,aA⟩
def K5{t0:Sort _}{a:t0}{t1:Sort _}{b:t1}{t2:Sort _}{c:t2}{t3:Sort _}{d:t3}{t4:Sort _}{e:t4} : a=a/\b=b/\c=c/\d=d/\e=e/\True:=⟨rfl,rfl,rfl,rfl,rfl,aA⟩
def K6{t0:Sort _}{a:t0}{t1:Sort _}{b:t1}{t2:Sort _}{c:t2}{t3:Sort _}{d:t3}{t4:Sort _}{e:t4}{t5:Sort _}{f:t5} : a=a/\b=b/\c=c/\d=d/\e=e/\f=f/\True:=⟨rfl,rfl,rfl,rfl,rfl,rfl,aA⟩
def K7{t0:Sort _}{a:t0}{t1:Sort _}{b:t1}{t2:Sort _}{c:t2}{t3:Sort _}{d:t3}{t4:Sort _}{e:t4}{t5:Sort _}{f:t5}{t6:Sort _}{g:t6} : a=a/\b=b/\c=c/\d=d/\e=e/\f=f/\g=g/\True:=⟨rfl,rfl,rfl,rfl,rfl,rfl,rfl,aA⟩
def K8{t0:Sort _}{a:t0}{t1:Sort _}{b:t1}{t2:Sort _}{c:t2}{t3:Sort _}{d:t3}{t4:Sort _}{e:t4}{t5:Sort _}{f:t5}{t6:Sort _}{g:t6}{t7:Sort _}{h:t7} : a=a/\b=b/\c=c/\d=d/\e=e/\f=f/\g=g/\h=h/\True:=⟨rfl,rfl,rfl,rfl,rfl,rfl,rfl,rfl,aA⟩
def K10{t0:Sort _}{a:t0}{t1:Sort _}{b:t1}{t2:Sort _}{c:t2}{t3:Sort _}{d:t3}{t4:Sort _}{e:t4}{t5:Sort _}{f:t5}{t6:Sort _}{g:t6}{t7:Sort _}{h:t7}{t8:Sort _}{i:t8}{t9:Sort _}{j:t9} : a=a/\b=b/\c=c/\d=d/\e=e/\f=f/\g=g/\h=h/\i=i/\j=j/\True:=⟨rfl,rfl,rfl,rfl,rfl,rfl,rfl,rfl,rfl,rfl,aA⟩
def K12{t0:Sort _}{c:t0}{t1:Sort _}{d:t1}{t2:Sort _}{e:t2}{t3:Sort _}{f:t3}{t4:Sort _}{g:t4}{t5:Sort _}{h:t5}{t6:Sort _}{i:t6}{t7:Sort _}{j:t7}{t8:Sort _}{k:t8}{t9:Sort _}{l:t9}{t10:Sort _}{a:t10}{t11:Sort _}{b:t11} : c=c/\d=d/\e=e/\f=f/\g=g/\h=h/\i=i/\j=j/\k=k/\l=l/\a=a/\b=b/\True:=⟨rfl,rfl,rfl,rfl,rfl,rfl,rfl,rfl,rfl,rfl,rfl,rfl,aA⟩
def K13{t0:Sort _}{d:t0}{t1:Sort _}{e:t1}{t2:Sort _}{f:t2}{t3:Sort _}{g:t3}{t4:Sort _}{h:t4}{t5:Sort _}{i:t5}{t6:Sort _}{j:t6}{t7:Sort _}{k:t7}{t8:Sort _}{l:t8}{t9:Sort _}{m:t9}{t10:Sort _}{a:t10}{t11:Sort _}{b:t11}{t12:Sort _}{c:t12} : d=d/\e=e/\f=f/\g=g/\h=h/\i=i/\j=j/\k=k/\l=l/\m=m/\a=a/\b=b/\c=c/\True:=⟨rfl,rfl,rfl,rfl,rfl,rfl,rfl,rfl,rfl,rfl,rfl,rfl,rfl,aA⟩
def Zu8:=@Go.Proofs.Tryz.call202
def iA3:=@Go.Proofs.Tryz.isAgg3
def Kg:=@Go.Proofs.Tryz.sizeOf232
def Ly:=@Go.Proofs.Tryz.sizeOf3
def Zd5:=@Go.Proofs.Tryz.sizeOf33
def Fk:=@Go.Proofs.Tryz.sizeOf35
def Lm:=@Go.Proofs.Tryz.sizeOf80
def Zoj:=@Go.Proofs.Tryz.sizeOf89
def uT121:=@Go.Proofs.Tryz.underlying121
def Zm8:=@Go.Proofs.Tryz.underlying130
def Zm7:=@Go.Proofs.Tryz.underlying166
def Zr7:=@Go.Proofs.Tryz.underlying193
def Zhz:=@Go.Proofs.Tryz.underlying197
def Ps:=@Go.Proofs.Tryz.underlying217
def Zye:=@Go.Proofs.Tryz.underlying230
def Zab:=@Go.Proofs.Tryz.underlying232
def Zj3:=@Go.Proofs.Tryz.underlying242
def Zm6:=@Go.Proofs.Tryz.underlying243
def Zm5:=@Go.Proofs.Tryz.underlying268
def uT3:=@Go.Proofs.Tryz.underlying3
def Pf:=@Go.Proofs.Tryz.underlying33
def Dn:=@Go.Proofs.Tryz.underlying35
def Hs:=@Go.Proofs.Tryz.underlying38
def Ylz:=@Go.Proofs.Tryz.underlying39
def Mc:=@Go.Proofs.Tryz.underlying40
def Zgx:=@Go.Proofs.Tryz.underlying46
def Yce:=@Go.Proofs.Tryz.underlying47
def uT5:=@Go.Proofs.Tryz.underlying5
def Zon:=@Go.Proofs.Tryz.underlying50
def Ycd:=@Go.Proofs.Tryz.underlying61
def uT9:=@Go.Proofs.Tryz.underlying9
open Go.ChangeShapes Go.WideShapes Go.ChangeAt Go.RowKit Go.Joins Go.Deep
variable {P:Program} {W:World} {H:Type} {enc:TypeId×Value->H}
theorem Zik{α:Type}[Inhabited α]{p:Nat->α->Prop} : ∀n,(∀i,i<n->∃x,p i x)->∃xs:List α,xs.length=n/\∀i x,xs[i]? = some x->p i x
 | 0,_=>⟨[],rfl,λi x h=>by simp at h⟩
 | n+1,h=>by
  obtain⟨xs,c,d⟩:=Zik n λi hi=>h i O1;obtain⟨x,e⟩:=h n O1;refine⟨xs ++ [x],by simp [c],λi y a=>?_⟩;rcases bC i n with hi|hi
  .rw [cM O1]at a;exact d i y a
  .rw [cP O1,c]at a;rcases aS (i-n)with b|b
   .rw [b]at a;simp at a;subst a;rw [show i=n by omega];exact e
   .rw [bF O9]at a;cases a
theorem Zk1{r:Reach}{i:Nat}{e:TypeId}{a:Addr}{g c:Nat}(hs:P.underlying t=some (.slice e))(b:Value.okWide P W r i t (.slice (some a) g c)):a.spot=none/\a.block<W.heap.size:=by
 unfold Value.okWide at b;rw [hs]at b;simp only at b;unfold Cell.okWide at b;rw [hs]at b;simp only at b;unfold Cell.ok at b;rw [hs]at b;simp only at b;obtain⟨_,_,_,j,k,d,f,_⟩:=b;refine⟨j,?_⟩;unfold World.shape? at f;rcases bC a.block W.heap.size with h|h
 .exact h
 .rw [nC h]at f;simp at f
end Go.Sky
namespace Go.Sky
abbrev qT (z:SL×List (Int×SL)):Pc:=pp (Xx z.1) z.2
abbrev T0:SL×List (Int×SL):=((none,0,0),[])
abbrev intsT (zs:List (SL×List (Int×SL))):List (List Int):=zs.map λz=>Xt z.2
set_option maxRecDepth 20000
def Zrk{K:Nat}{f:Nat->Int}{n:Nat}(h:∀i,i<n->bl (f i).natAbs<=K)(a:n<=1023):bl (Yg f n).natAbs<=K+10:=by rw [Qi];have b:=Zxw h;have c:n*(2^K-1)<=1023*(2^K-1):=aN _ a;have d:0<2^K:=dY K;rw [bX];omega
def Zao(zs:List (Int×SL))(z:Int×SL):Xt (zs ++ [z])=Xt zs ++ [z.1]:=by simp [Xt]
def Bz{x:Int}{m:Nat}(h:bl x.natAbs<=m)(n:Nat):bl (x^n).natAbs<=n*m+1:=by
 rcases aS n with a|a
 .rw [a,cT];have:bl (1:Int).natAbs=1:=O3;omega
 .have:=Dm x h n a;omega
def Mw{p:List Int}{c:Int}:(Zm p c).length<=p.length:=by unfold Zm;have:=Ko (p.map (· * c));rwa [aP]at this
def ev_tb{p:List Int}{x y:Int}(hs:Sz 1000000 p)(a:∀k,bl (x^k).natAbs<=k*1000000+1)(b:∀k,bl (y^k).natAbs<=k*1000000+1)(j:p.length<=30)(t:Nat):bl (cf p t*(x^t*y^(p.length-1-t))).natAbs<=100000000:=by
 rcases bC t p.length with h|h
 .have c:=a t;have d:=b (p.length-1-t);have e:=Ya (x^t) (y^(p.length-1-t));have f:=Ya (cf p t) (x^t*y^(p.length-1-t));have g:=hs t;have i:t*1000000+(p.length-1-t)*1000000<=30*1000000:=by rw [<-bK];exact aN _ O1
  omega
 .rw [Yr h,dD];exact bJ _
def Lj{y:Int}(h:y≠0):∀n:Nat,y^n≠0
 | 0=>by rw [cT];omega
 | n+1=>by rw [dU];exact bE (Lj h n) h
def Zwt(xs ys:List Int):xs.map wr=ys.map wr↔xs=ys:=by refine⟨λh=>?_,λh=>by rw [h]⟩;exact List.map_inj_right (λx y h=>Yeh (aL Prod.fst h) (aL Prod.snd h)) |>.1 h
def Cal.imp2{P:Program}{f:FuncId}{args:Array Value}{m p q:Pc}{pre:List Pc}{al:Bool}{G:Type}{φ:G->Prop}{Yj:G->Value}{i:G->List Pc}(h:Cal P f args (m::p::pre) al φ Yj i)(x:∀w,q.holds w->p.holds w)(u:∀b,p.fp b->q.fp b) :
  Cal P f args (m::q::pre) al φ Yj i:=λw k=>by
 refine(h w λr a=>?_).mono ?_
 .rcases bB.1 a with rfl|a
  .exact k _ (bW ..)
  .rcases bB.1 a with rfl|a
   .exact x w (k q (bG _ (bW ..)))
   .exact k r (bG _ (bG _ a))
 .rintro e z ⟨g,t,v,j,d⟩;refine⟨g,t,v,j,λy l=>?_⟩;obtain⟨n,o,s⟩:=d y l;refine⟨n,o,λb j=>?_⟩;rcases s b j with h|⟨h,r,a,c⟩
  .exact .inl h
  .refine .inr ⟨h,?_⟩;rcases bB.1 a with rfl|a
   .exact⟨r,bW ..,c⟩
   .rcases bB.1 a with rfl|a
    .exact⟨q,bG _ (bW ..),u b c⟩
    .exact⟨r,bG _ (bG _ a),c⟩
def shm(q:List Int)(c:Int)(s i:Nat):List Int:=mk (s+i) λt=>if t<s then 0 else c*cf q (t-s)
def Yko(q:List Int)(c:Int)(s t:Nat):cf (shm q c s q.length) t=if s<=t/\t<s+q.length then c*cf q (t-s)else 0:=by
 unfold shm;rw [Nk];by_cases b:t<s
 .rw [aH (by omega:¬(s<=t/\t<s+q.length))];split
  .rfl
  .rfl
 .by_cases a:t<s+q.length
  .rw [aK a,aH b,aK (show s<=t/\t<s+q.length by omega)]
  .rw [aH a,aH (show ¬(s<=t/\t<s+q.length) by omega)]
section
variable {p q:List Int}
theorem Zkn(c:0<q.length)(b:q.length<=p.length):∀j,j<=p.length-q.length+1->∀t,p.length-j<=t->cf (Qw p q j) t=0
 | 0,_,t,d=>Yr (by unfold Qw;omega)
 | j+1,e,t,d=>by
  rcases bC t p.length with h|h
  .unfold Qw;rw [Zu6 (by rw [Le];exact h)];by_cases a:t=p.length-1-j
   .subst a;rw [aK O1,show p.length-1-j-(p.length-1-j-(q.length-1))=q.length-1 by omega];omega
   .rw [Zkn c b j O1 t O1,dD,aH O1];rfl
  .exact Yr (by rw [Le];omega)
def RestInv(p q R:List Int)(j:Nat):Prop:=Tr R/\∀t,cf R t=cf (Qw p q j) t*cf q (q.length-1)^(p.length-q.length+1-j)
end
end Go.Sky
namespace Go.Sky
section
variable {P:Program} {N:Nat} {sc:Nat->Prop} {env env':Qy} {H H':Hp}
end
end Go.Sky
namespace Go.Sky
variable{P:Program}{sc M:Nat->Prop}{ops:Array Oper}{rest:List (Nat×Nat)}{i:Nat}{b a s c:List Int}
def rterm(a b:Int):Nat->List Int
 | 0=>[1]
 | i+1=>Qn (rterm a b i) (tzl [a,b])
def rsum(p:List Int)(a b d:Int):Nat->List Int
 | 0=>[]
 | i+1=>Ax (rsum p a b d i) (Zm (rterm a b i) (cf p i*d^(p.length-1-i)))
def hs(f:Nat->PS):Nat->PS
 | 0=>0
 | n+1=>hs f n+f n
def Ygz(p:List Int):ps (tzl p)=ps p:=PS.ext' λi=>Il p i
abbrev RW:=List (Bool×ByteArray)
abbrev qR (z:SL×RW):Pc:=Yw 2 Zxc (Xx z.1) z.2
abbrev qZ (z:SL×List Int):Pc:=Yw 2 wv (Xx z.1) z.2
abbrev R0:SL×RW:=((none,0,0),[])
def short1(r:RW):Bool:=(decide (r.length<=14) || decide (r.length=26)) && r.all λc=>decide (c.2.size<=16)
def shortb(d:List RW):Bool:=d.all short1
def Zeh  {N:Nat}   {env:Qy} {H:Hp}  {F:Qy->Hp->Prop}   {o:Oper} {G:Type} {φ:G->Prop} {d:G->Qy} {k:G->Hp} {j e:Nat} {b:Bool} (p:ops[i]? = some o) (m:o.guard=some (j,b)) (n:(ops[j]?).bind (·.dst)=some e) (l:lk env e=some (.bool b)) (f:Nat.blt e N=true) (q:T P N sc M o env H φ d k)
  (h:∀g,φ g->LD P N sc M ops F rest (d g) (k g)) :
  LD P N sc M ops F ((i,1)::rest) env H:=r1g q p m n l f h
theorem Bb (k:Nat){f:Nat->Int} : ∀{n:Nat},k<n->(∀i,i<n->i≠k->f i=0)->Yg f n=f k
 | 0,d,_=>absurd d (bZ _)
 | n+1,d,h=>by
  rw [Yn];by_cases e:k=n
  .subst e;rw [Fn λi hi=>h i O1 O1,lS]
  .rw [h n O1 (λx=>e x.symm),Bb _ O1 (λi hi=>h i O1),fO]
theorem Bo (q:List Int){p:List Int}{a b:Nat}(d:∀i,a<i->cf p i=0)(e:∀i,b<i->cf q i=0):(ps p*ps q).c (a+b)=cf p a*cf q b:=by
 rw [PS.mul_c,Bb a O1 λi hi f=>?_]
 .rw [Nj,Nj,show a+b-a=b by omega]
 .rw [Nj,Nj];rcases bC a i with h|h
  .rw [d i h,dD]
  .rw [e (a+b-i) O1,eG]
theorem Zk7(s e:List Int)(c d:Int)(f:PS)(t:Nat):(ps (Aw (Zm s c) (Zm e d))*f).c t=c*(ps s*f).c t-d*(ps e*f).c t:=by rw [PS.mul_c,PS.mul_c,PS.mul_c,<-Mn,fK,<-pM,<-Mn,<-Eo];refine Yx λk _=>?_;rw [Nj,Nj,Nj,Ao,Xk,Xk];grind
theorem Yny{q r:List Int}(o:Tr q)(e:q≠[])(h:∀t,(ps s*ps q).c t=cf r t)(u:∀t,q.length-1<=t->cf r t=0):∀t,cf s t=0:=by
 have d:=o.mem e;have l:0<q.length:=aG.2 e;have hs:tzl s=[]:=by
  rcases Zi3 (tzl s)with f|⟨w,y,f⟩
  .exact f
  .exfalso;have v:=Qo s;have j:tzl s≠[]:=by rw [f];simp
   have m:=v.mem j;have k:=Bo q (p:=tzl s) (a:=(tzl s).length-1) (b:=q.length-1) (λi hi=>Yr O1) (λi hi=>Yr O1);have n:ps (tzl s)=ps s:=PS.ext' λi=>Il s i;rw [n,h,u _ O1]at k;rcases fN.1 k.symm with g|g
   .exact m g
   .exact d g
 exact(Ln s).1 hs
theorem Kd(h:∀t,cf s t=0)(f:PS)(t:Nat):(ps s*f).c t=0:=by rw [PS.mul_c];exact Fn λk _=>by rw [Nj,h,dD]
theorem Oj{p q:List Int}(f:Tr p)(g:Tr q)(d:p≠[])(e:q≠[]):(Qn p q).length=p.length+q.length-1:=by have h:=aG.2 d;have j:=aG.2 e;unfold Qn;rw [Ap,Yp];right;rw [Yp,Nk,aK O1,show p.length+q.length-1-1=(p.length-1)+(q.length-1) by omega,Bo _ (λi hi=>Yr O1) (λi hi=>Yr O1)];exact bE (f.mem d) (g.mem e)
def mono(s:Nat)(c:Int):List Int:=List.replicate s 0 ++ [c]
theorem Zjp(s:Nat)(c:Int)(i:Nat):cf (mono s c) i=if i=s then c else 0:=by
 unfold mono;rw [Zdr,aX];split
 .rw [aH O1];unfold cf;simp [aC,jC];split<;>rfl
 .rename_i h;split
  .rename_i d;subst d;simp [cf]
  .exact Yr O9
theorem Zk8(s:Nat)(c:Int)(f:PS)(t:Nat):(ps (mono s c)*f).c t=if s<=t then c*f.c (t-s)else 0:=by
 rw [PS.mul_c];split
 .rw [Bb s O1 λi _ d=>by rw [Nj,Zjp,aH d,dD],Nj,Zjp,aK rfl]
 .exact Fn λk e=>by rw [Nj,Zjp,aH O1,dD]
theorem Zha{p q:List Int}(r:0<q.length)(o:q.length<=p.length):∀j,j<=p.length-q.length+1->∃s:List Int,∀t,cf q (q.length-1)^j*cf p t=(ps s*ps q).c t+cf (Qw p q j) t
 | 0,_=>⟨[],λt=>by rw [Kd (λt=>Yr (bJ _)),cT];unfold Qw;omega⟩
 | j+1,y=>by
  obtain⟨s,u⟩:=Zha r o j O1;refine⟨Aw (Zm s (cf q (q.length-1))) (Zm (mono (p.length-1-j-(q.length-1)) (cf (Qw p q j) (p.length-1-j))) (-1)),λt=>?_⟩;rw [Zk7,Zk8];have d:=u t;show _=_+cf (Zh7 q (Qw p q j) (p.length-1-j)) t;rw [dU];rcases bC t p.length with h|h
  .rw [Zu6 (by rw [Le];exact h)];generalize p.length-1-j-(q.length-1)=g;generalize cf (Qw p q j) (p.length-1-j)=R;generalize cf (Qw p q j) t=m at d ⊢;generalize (ps s*ps q).c t=X at d ⊢;generalize cf q (q.length-1)^j=L at d ⊢;generalize cf q (q.length-1)=l at d ⊢;have e:L*l*cf p t=l*X+m*l:=by rw [fF,dB l,<-fF,d];grind
   rw [e];by_cases f:g<=t
   .rw [aK f,Nj];by_cases n:t<g+q.length
    .rw [aK ⟨f,n⟩];omega
    .rw [aH O1,Yr (p:=q) (i:=t-_) O1];omega
   .rw [aH f,aH O1];omega
  .have k:cf p t=0:=Yr h;have v:cf (Qw p q j) t=0:=Yr (by rw [Le];exact h);have w:cf (Zh7 q (Qw p q j) (p.length-1-j)) t=0:=Yr (by rw [Zf8,Le];exact h);have x:cf q (t-(p.length-1-j-(q.length-1)))=0:=Yr O1;rw [k,v,eG,fO]at d;rw [k,w,aK O1,Nj,x,<-d];simp
theorem Zai(p:List Int){q:List Int}(e:q≠[]):∃(k:Nat) (s:List Int),∀t,cf q (q.length-1)^k*cf p t=(ps s*ps q).c t+cf (Qk p q) t:=by
 have d:0<q.length:=aG.2 e;rcases bC p.length q.length with h|h
 .refine⟨0,[],λt=>?_⟩;rw [Kd (λt=>Yr (bJ _)),cT];unfold Qk;rw [aK h];omega
 .obtain⟨s,hs⟩:=Zha d h _ (aI _);refine⟨p.length-q.length+1,s,λt=>?_⟩;rw [hs t];unfold Qk;rw [aH O1,Il]
theorem Pw(p:List Int){q:List Int}(e:q≠[]):(Qk p q).length<q.length:=by
 have d:0<q.length:=aG.2 e;unfold Qk;split
 .assumption
 .have:=Za4 (p:=Qw p q (p.length-q.length+1)) (n:=q.length-1) λi hi=>Zkn d O1 _ (aI _) i O1;omega
theorem Ip (q:List Int){p:List Int}(d:Tr p):Tr (Qk p q):=by
 unfold Qk;split
 .exact d
 .exact Qo _
def Sim(a b:List Int):Prop:=∃m n:Int,m≠0/\n≠0/\∀i,m*cf a i=n*cf b i
def Sim.refl(a:List Int):Sim a a:=⟨1,1,O3,O3,λ_=>rfl⟩
def Sim.symm : Sim a b->Sim b a:=λ⟨m,n,d,e,h⟩=>⟨n,m,e,d,λi=>(h i).symm⟩
theorem Sim.trans : Sim a b->Sim b c->Sim a c:=λ⟨m,n,d,e,h⟩ ⟨u,v,f,g,k⟩=>
 ⟨m*u,n*v,bE d f,bE e g,λi=>by have j:=h i;have l:=k i;grind⟩
theorem Sim.zero(h:Sim a b)(hi:cf a i=0):cf b i=0:=by
 obtain⟨m,n,e,d,h⟩:=h;have:=h i;rw [hi,eG]at this;rcases fN.1 this.symm with h|h
 .exact absurd h d
 .exact h
theorem Sim.len_le(h:Sim a b)(f:Tr b):b.length<=a.length:=by
 rcases bC a.length b.length with e|e
 .exfalso;have d:b≠[]:=aG.1 O1;exact f.mem d (h.zero (Yr O1))
 .exact e
def Sim.len(h:Sim a b)(d:Tr a)(e:Tr b):a.length=b.length:=kH (h.symm.len_le d) (h.len_le e)
theorem Sim.nil(h:Sim a b)(e:Tr b)(d:a=[]):b=[]:=by have:=h.len_le e;rw [d]at this;exact aF (by simpa using this)
theorem Zbv(c:Int):∀(p:List Int) (g:Int),0<=g->(p.map (· * c)).foldl (λg c=>(Int.gcd g c:Int)) (g*c.natAbs)=p.foldl (λg c=>(Int.gcd g c:Int)) g*c.natAbs
 | [],g,_=>rfl
 | x::p,g,hg=>by
  rw [bT,iO,iO,<-Zbv c p _ O1];congr 1;have:Int.gcd (g*(c.natAbs:Int)) (x*c)=Int.gcd g x*c.natAbs:=by unfold Int.gcd;rw [cL,cL,dK,Nat.gcd_mul_right]
  rw [this];push_cast;rfl
theorem Zhf(p:List Int)(c:Int):Yz (p.map (· * c))=Yz p*c.natAbs:=by have:=Zbv c p 0 (eY _);rw [dD]at this;exact this
theorem Hx(p:List Int)(i:Nat):cf (Zx p) i*Yz p=cf p i:=by rw [Zav];exact gN (Lg p i)
def Yc2:Zx []=[]:=rfl
def Bi{p:List Int}(h:Tr p)(d:p≠[]):Yz p≠0:=λe=>h.mem d ((Zcc p).1 e _)
theorem Lu{p:List Int}(h:Tr p)(e:p≠[]):Yz (Zx p)=1:=by
 have j:=Bi h e;have d:=Zhf (Zx p) (Yz p);rw [show(Zx p).map (· * Yz p)=p from Kv (by rw [aP,Zz]) λi _=>by rw [Zct O8];exact Hx p i]at d;have k:=Ox p;have f:Yz p*(Yz (Zx p)-1)=0:=by rw [Int.mul_sub,gD,dB];have:((Yz p).natAbs:Int)=Yz p:=O1;rw [this]at d;omega
 rcases fN.1 f with g|g<;>omega
theorem Zft{p:List Int}(h:Yz p=1):Zx p=p:=Kv (Zz p) λi _=>by rw [Zav,h,Int.ediv_one]
theorem Bg{p:List Int}(h:Tr p):Zx (Zx p)=Zx p:=by
 by_cases d:p=[]
 .subst d;rfl
 .exact Zft (Lu h d)
theorem Qm{p:List Int}(h:Tr p):Sim (Zx p) p:=by
 by_cases d:p=[]
 .subst d;exact Sim.refl _
 .exact⟨Yz p,1,Bi h d,O3,λi=>by rw [fS,dB];exact Hx p i⟩
def Xb(p:List Int):List Int:=Hi (Zx p)
theorem Zkd{x y:List Int}(q:Tr x)(r:Tr y)(t:x≠[])(f:Yz x=1)(g:Yz y=1)(h:Sim x y):x=y\/∀i,cf x i=- cf y i:=by
 have d:=h.len q r;obtain⟨m,n,o,p,e⟩:=h;have j:=Zhf x m;have k:=Zhf y n;rw [show x.map (· * m)=y.map (· * n)from Kv (by simp [d]) λi _=>by rw [Zct O8,Zct O8,dB,dB (cf y i)];exact e i,k,f,g]at j
 have l:m=n\/m=-n:=O1;rcases l with rfl|rfl
 .exact .inl (Kv d λi _=>iM o (e i))
 .exact .inr λi=>iM p (by have:=e i;grind)
theorem Ee(g:List Int)(i:Nat):cf (Hi g) i=if g.length≠0/\cf g (g.length-1)<0 then-cf g i else cf g i:=by
 unfold Hi;split
 .rw [Xk];omega
 .rfl
theorem Ov{g:List Int}(h:Tr g):Tr (Hi g):=by
 unfold Hi;split
 .exact Qf
 .exact h
theorem Iv(g:List Int):Sim (Hi g) g:=by
 by_cases h:g.length≠0/\cf g (g.length-1)<0
 .exact⟨-1,1,O3,O3,λi=>by rw [Ee,aK h];omega⟩
 .exact⟨1,1,O3,O3,λi=>by rw [Ee,aH h]⟩
theorem Zzt(g:Tr a)(j:Tr b)(h:Sim a b):Xb a=Xb b:=by
 by_cases f:a=[]
 .rw [h.nil j f,f]
 .have m:b≠[]:=λe=>f (h.symm.nil g e);have hs:Sim (Zx a) (Zx b):=(Qm g).trans (h.trans (Qm j).symm);have p:=Yy g;have k:=Yy j;have n:=hs.len p k;have d:Zx a≠[]:=λe=>f (aF (by rw [<-Zz,e];rfl));rcases Zkd p k d (Lu g f) (Lu j m) hs with e|e
  .unfold Xb;rw [e]
  .unfold Xb;refine(Ov p).ext (Ov k) λi=>?_;rw [Ee,Ee,<-n,e i,e ((Zx a).length-1)];have r:cf (Zx b) ((Zx a).length-1)≠0:=by rw [n];exact k.mem (λl=>d (aF (by rw [n,l];rfl)))
   have o:(Zx a).length≠0:=λl=>d (aF l);by_cases q:cf (Zx b) ((Zx a).length-1)<0
   .rw [aH O1,aK ⟨o,q⟩]
   .rw [aK O1,aH O1];omega
theorem Zue:∀(f:Nat) {a b:List Int},Tr a->Tr b->Tr (eu f a b)
 | 0,_,_,h,_=>h
 | f+1,a,b,d,e=>by
  unfold eu;split
  .exact d
  .exact Zue f e (Yy (Ip _ d))
theorem Yaq:∀(f:Nat) {a b:List Int},Tr a->Tr b->Zx a=a->Zx b=b->Zx (eu f a b)=eu f a b
 | 0,_,_,_,_,h,_=>h
 | f+1,a,b,d,j,e,g=>by
  unfold eu;split
  .exact e
  .exact Yaq f j (Yy (Ip _ d)) g (Bg (Ip _ d))
theorem Zj5{p q:List Int}(d:Tr p)(e:Tr q):Tr (gA p q):=by unfold gA;split<;>exact Yy ‹_›
theorem Zj4{p q:List Int}(d:Tr p)(e:Tr q):Tr (gB p q):=by unfold gB;split<;>exact Yy ‹_›
theorem Yhg{F:Nat}{p q:List Int}(d:Tr p)(e:Tr q):Mg F p q=Xb (eu F (gA p q) (gB p q)):=by
 unfold Mg Xb;rw [Yaq F (Zj5 d e) (Zj4 d e)]
 .unfold gA;split
  .exact Bg e
  .exact Bg d
 .unfold gB;split
  .exact Bg d
  .exact Bg e
def chk:Nat->Nat->Nat->Nat->Nat->Bool
 | 0,_,d,_,_=>Nat.beq d 0
 | f+1,e,d,A,B=>Nat.beq d 0 || (bif Nat.blt e d then chk f d e B A else
   Nat.ble (A+(e-d+1)*B) 65537 && (List.range d).all λl=>chk f d l B (bif Nat.ble l 1 then 2 else A+(e-d+1)*B))
theorem cp_nf{p:List Int}{x y z:Int}{n m:Nat}(d:Sz n p)(k:bl x.natAbs<=m)(l:bl y.natAbs<=m)(o:bl z.natAbs<=m)(j:p.length<=25)(h:n+24*(m+1)+8<=65536):Qx p+(p.length-1)*(Qx [x,y,z]+1)+8<=65536:=by
 have e:=Pu d;have f:Qx [x,y,z]<=m:=by simp only [Qx];omega
 have g:(p.length-1)*(Qx [x,y,z]+1)<=24*(m+1):=bA O1 O1;omega
theorem cp_not{p:List Int}{x y z:Int}(h:Qx p+(p.length-1)*(Qx [x,y,z]+1)+8<=65536):¬Zl0 p x y z:=λd=>by have:=d.2;omega
theorem Zen(p:List Int)(x y z:Int):(Kt p x y z).length<=p.length:=by
 unfold Kt;split
 .exact bJ _
 .refine aB (Ko _) ?_;rw [Zci];omega
theorem Ztv(x y:Int):Xs x y∣x:=by
 unfold Xs;split
 .exact Int.neg_dvd.2 (jD ..)
 .exact jD ..
theorem Zlc(x y:Int):Xs x y∣y:=by
 unfold Xs;split
 .exact Int.neg_dvd.2 (iB ..)
 .exact iB ..
def s8(l:List Int):Prop:=∀x∈l,(Qe x.natAbs).size<=8
abbrev Z0:SL×List Int:=((none,0,0),[])
theorem vp_eu:∀(f:Nat) {a b:List Int},Vp a->Vp b->eok f a b->Vp (eu f a b)
 | 0,_,_,h,_,_=>h
 | f+1,a,b,d,e,h=>by
  unfold eu;split
  .exact d
  .rcases h with h|h
   .contradiction
   .exact vp_eu f e (Im (Zb2 d h.1)) h.2
theorem Yem{g:List Int}(h:Vp g):Vp (Hi g):=by
 unfold Hi;split
 .refine⟨λi=>by rw [Xk];exact Zbq h.sz i,Qf,aB Mw h.len⟩
 .exact h
def Ylu{F:Nat}{p q:List Int}(d:Vp p)(e:Vp q)(h:eok F (gA p q) (gB p q)):Vp (Mg F p q):=Yem (vp_eu F (vp_gA d e) (vp_gB d e) h)
def pevn(p:List Int)(x y:Int)(n:Nat):Int:=Yg (λi=>cf p i*(x^i*y^(n-1-i))) n
def dn(p:List Int)(y:Int):Int:=y^(p.length-1)
def Gy(q:List Int):Qn [] q=[]:=Zfv (.inl rfl)
def Zbb(p:List Int):Qn p []=[]:=Zfv (.inr rfl)
theorem Ztu(N D:Int):N/Xs N D*D=N*(D/Xs N D):=by have e:=gN (Ztv N D);have f:=gN (Zlc N D);generalize N/Xs N D=n at *;generalize D/Xs N D=d at *;generalize Xs N D=g at *;subst e f;grind
theorem Zn1{N D:Int}(h:0<D):0<D/Xs N D:=by
 have f:Xs N D=(Int.gcd N D:Int):=aH O1;have g:=gN (Zlc N D);rw [f]at g ⊢;generalize D/(Int.gcd N D:Int)=d at *;rcases iG 0 d with e|e
 .exact e
 .exfalso;have:d*(Int.gcd N D:Int)<=0:=iJ e O1;omega
section
variable {p q:List Int}
theorem Zet(v:Tr p)(m:Tr q)(h:p≠[])(e:q≠[]):∀j,j<=p.length->∀t,cf (Pd (Qn p q) q j) t=(ps (p.take (p.length-j))*ps q).c t
 | 0,_,t=>by rw [jJ,bO];exact Iz p q t
 | j+1,B,t=>by
  have w:=Zet v m h e j O1;have D:=aG.2 h;have F:=aG.2 e;have u:=Oj v m h e;have y:Pd (Qn p q) q (j+1)=Zlv q (Pd (Qn p q) q j) (p.length-1-j):=by show Zlv q _ _=_;rw [u];congr 1;omega
  have n:=m.mem e;have d:cf (Pd (Qn p q) q j) (p.length-1-j+q.length-1)=cf p (p.length-1-j)*cf q (q.length-1):=by rw [w,show p.length-1-j+q.length-1=(p.length-1-j)+(q.length-1) by omega,Bo _ (λi hi=>by rw [Eb,aH O1]) (λi hi=>Yr O1),Eb,aK O1]
  have l:dq q (Pd (Qn p q) q j) (p.length-1-j)=cf p (p.length-1-j):=by unfold dq;rw [d];exact oH _ n
  have z:(ps (p.take (p.length-j))*ps q).c t=(ps (p.take (p.length-(j+1)))*ps q).c t+(ps (mono (p.length-1-j) (cf p (p.length-1-j)))*ps q).c t:=by
   rw [PS.mul_c,PS.mul_c,PS.mul_c,<-Eo];refine Yx λk _=>?_;rw [Nj,Nj,Nj,Nj,Eb,Eb,Zjp];by_cases f:k=p.length-1-j
   .rw [aK O1,aH O1,aK f,<-f];omega
   .rw [aH f];by_cases o:k<p.length-j
    .rw [aK o,aK O1];omega
    .rw [aH o,aH O1];omega
  rw [y];unfold Zlv;rw [Nk,Ay,u,l,w,z,Zk8,Nj];by_cases r:t<p.length+q.length-1
  .rw [aK r];by_cases g:p.length-1-j<=t
   .rw [aK g];by_cases x:t<p.length-1-j+q.length
    .rw [aK ⟨g,x⟩];omega
    .rw [aH O1,Yr (p:=q) O1];omega
   .rw [aH g,aH O1];omega
  .rw [aH r,PS.mul_c];refine(Fn λk _=>?_).symm;rw [Nj,Nj,Eb];split
   .rw [Yr (p:=q) O1,eG]
   .rw [dD]
theorem Zpm(j:Tr p)(l:Tr q)(e:q≠[]):pdv (Qn p q) q/\Ks (Qn p q) q=p:=by
 by_cases d:p=[]
 .subst d;rw [Gy];exact⟨.inl rfl,rfl⟩
 have u:=aG.2 d;have v:=aG.2 e;have r:=Oj j l d e;have n:=l.mem e;have o:∀k,k<=p.length-1->cf (Pd (Qn p q) q (p.length-1-k)) (k+q.length-1)=cf p k*cf q (q.length-1):=λk f=>by rw [Zet j l d e _ O1,show k+q.length-1=k+(q.length-1) by omega,Bo _ (λi hi=>by rw [Eb,aH O1]) (λi hi=>Yr O1),Eb,aK O1]
 have h:(Qn p q).length-q.length=p.length-1:=O1;have m:Qn p q≠[]:=aG.1 O1;refine⟨.inr ⟨O1,λk f=>?_,?_⟩,?_⟩
 .unfold Iy;rw [h]at f ⊢;rw [o k f];exact Int.mul_emod_left _ _
 .rw [h,show p.length-1+1=p.length by omega];refine(Ln _).2 λi=>?_;rw [Zet j l d e _ (aI _),iF,fB];exact Kd (λt=>Yr (bJ _)) _ _
 .rw [Zs7 m];unfold Yg4;rw [h,show p.length-1+1=p.length by omega,Gh (g:=cf p) λk f=>?_,Zbd,Ap j];unfold Ya4 dq;rw [h,o k O1];exact oH _ n
end
def Dv(g a:List Int):Prop:=∃(k:Int) (s:List Int),k≠0/\∀t,k*cf a t=(ps s*ps g).c t
theorem Zth(f:PS)(t:Nat):(ps [1]*f).c t=f.c t:=by rw [PS.mul_c,Bb 0 O1 λi _ d=>by rw [Nj,Yr (p:=[1]) O9,dD],Nj,show cf [1] 0=1 from rfl,fS,jJ]
theorem Dv.refl(a:List Int):Dv a a:=⟨1,[1],O3,λt=>by rw [Zth,fS,Nj]⟩
theorem Dv.nil(g:List Int):Dv g []:=⟨1,[],O3,λt=>by rw [Kd (λt=>Yr (bJ _)),Yr (bJ _)];rfl⟩
theorem Dv.sim{g:List Int} : Dv g a->Sim a b->Dv g b:=λ⟨k,s,d,h⟩ ⟨m,n,j,f,e⟩=>
 ⟨k*n,Zm s m,bE d f,λt=>by rw [PS.mul_c,show(λi=>(ps (Zm s m)).c i*(ps g).c (t-i))=λi=>m*((ps s).c i*(ps g).c (t-i))from qA λi=>by rw [Nj,Nj,Nj,Xk];grind,Mn,<-PS.mul_c,<-h,Int.mul_assoc,<-e];grind⟩
theorem Dv.lin{g:List Int}(r:Dv g a)(w:Dv g b)(s:List Int)(L:Int)(o:L≠0)(h:∀t,L*cf c t=(ps s*ps a).c t+cf b t):Dv g c:=by
 obtain⟨k,u,x,j⟩:=r;obtain⟨m,v,y,l⟩:=w;refine⟨L*(k*m),Ax (Zm (Qn s u) m) (Zm v k),bE o (bE x y),λt=>?_⟩;have z:ps g=ps g:=rfl;have d:k*(ps s*ps a).c t=(ps (Qn s u)*ps g).c t:=by rw [Ync,PS.mul_assoc',PS.mul_c,PS.mul_c,<-Mn];refine Yx λi _=>?_;rw [<-j,Nj,Nj];grind
 have e:(ps (Ax (Zm (Qn s u) m) (Zm v k))*ps g).c t=m*(ps (Qn s u)*ps g).c t+k*(ps v*ps g).c t:=by rw [PS.mul_c,PS.mul_c,PS.mul_c,<-Mn,<-Mn,<-Eo];refine Yx λi _=>?_;rw [Nj,Nj,Nj,Nj,Zjo,Xk,Xk];grind
 have f:=h t;have n:=l t;rw [e,<-d,<-n];generalize (ps s*ps a).c t=X at *;generalize cf c t=C at *;generalize cf b t=B at *;have:L*(k*m)*C=k*m*(L*C):=O5;rw [this,f];grind
theorem eu_dv:∀(f:Nat) {a b:List Int},Tr a->Tr b->eok f a b->Dv (eu f a b) a/\Dv (eu f a b) b
 | 0,a,b,l,g,h=>by rw [show b=[]from h];exact⟨Dv.refl _,Dv.nil _⟩
 | f+1,a,b,l,g,h=>by
  by_cases d:b=[]
  .subst d;rw [Zhp];exact⟨Dv.refl _,Dv.nil _⟩
  .rcases h with h|h
   .exact absurd h d
   .have e:eu (f+1) a b=eu f b (Zx (Qk a b)):=by
     conv=>lhs;unfold eu
     rw [aH d]
    rw [e];have t1:=Ip b l;obtain⟨j,m⟩:=eu_dv f g (Yy t1) h.2;obtain⟨k,s,hs⟩:=Zai a d;exact⟨j.lin (m.sim (Qm t1)) s _ (Lj (g.mem d) k) hs,j⟩
theorem Dv.of_sim{g d:List Int} : Dv g a->Sim g d->Dv d a:=λ⟨k,s,f,h⟩ ⟨m,n,j,l,e⟩=>
 ⟨m*k,Zm s n,bE j f,λt=>by rw [fF,h,PS.mul_c,PS.mul_c,<-Mn];refine Yx λi _=>?_;rw [Nj,Nj,Nj,Nj,Xk];have:=e (t-i);grind⟩
theorem Dv.zero(f:Tr a)(h:Dv [] a):a=[]:=by
 obtain⟨k,s,g,h⟩:=h;rw [<-Ap f,Ln];intro i;have e:=h i;rw [PS.mul_comm',Kd (λt=>Yr (bJ _))]at e;rcases fN.1 e with d|d
 .exact absurd d g
 .exact d
theorem Zda{F:Nat}{p q:List Int}(g:Tr p)(j:Tr q)(h:eok F (gA p q) (gB p q)):Dv (Mg F p q) p/\Dv (Mg F p q) q:=by
 have k:=Zj5 g j;have l:=Zj4 g j;obtain⟨d,e⟩:=eu_dv F k l h;have hs:Sim (eu F (gA p q) (gB p q)) (Mg F p q):=(Iv _).symm;have d:=d.of_sim hs;have e:=e.of_sim hs;by_cases f:p.length<q.length
 .rw [show gA p q=Zx q from aK f]at d;rw [show gB p q=Zx p from aK f]at e;exact⟨e.sim (Qm g),d.sim (Qm j)⟩
 .rw [show gA p q=Zx p from aH f]at d;rw [show gB p q=Zx q from aH f]at e;exact⟨d.sim (Qm g),e.sim (Qm j)⟩
def Ze9 (F:Nat){p q:List Int}(d:Tr p)(e:Tr q):Tr (Mg F p q):=Ov (Zue F (Zj5 d e) (Zj4 d e))
theorem Zed(p:List Int){c:Int}(h:c≠0):Sim p (Zm p c):=⟨c,1,h,O3,λi=>by rw [Xk];grind⟩
def fin8(d A:Nat):Bool:=Nat.ble d 2 || Nat.ble (64+(9-d)*A) 65536
def chk2:Nat->Nat->Nat->Nat->Nat->Bool
 | 0,d,_,A,_=>fin8 d A
 | f+1,d,e,A,B=>bif Nat.beq e 0 then fin8 d A else bif Nat.blt d e then chk2 f e d B A else
   (List.range e).all λl=>chk2 f e l B (bif Nat.ble l 1 then 2 else A+(d-e+1)*B)
def Zbf{g:List Int}(h:Tr g):(Hi g).length=g.length:=(Iv g).len (Ov h) h
theorem Zib(g:List Int):Yz (Hi g)=Yz g:=by
 have d:Yz (Hi g)∣Yz g:=Fg λi=>by
  have h:=Lg (Hi g) i;rw [Ee]at h;split at h
  .exact mM.1 h
  .exact h
 have e:Yz g∣Yz (Hi g):=Fg λi=>by
  rw [Ee];split
  .exact mM.2 (Lg g i)
  .exact Lg g i
 exact mZ (Ox _) (Ox _) d e
theorem Zk0{F:Nat}{p q:List Int}(f:Tr p)(g:Tr q)(d:Mg F p q≠[]):Yz (Mg F p q)=1:=by rw [Yhg f g]at d ⊢;unfold Xb at d ⊢;rw [Zib];refine Lu (Zue F (Zj5 f g) (Zj4 f g)) λe=>d ?_;rw [e];rfl
end Go.Sky
namespace Go.Sky
variable{a p xs:List Int}
def Zaf(xs:List Int):Prop:=xs.length=0\/(xs.length+2)*(xs.length+2)*(Qx xs+16)<=65536
instance (xs:List Int):Decidable (Zaf xs):=by unfold Zaf;infer_instance
def sqf(F:Nat)(xs:List Int):List Int:=Ks (Xb xs) (Mg F (Xb xs) (Xa (Xb xs)))
def Ymd(F:Nat)(xs:List Int):Prop:=(∀i,i<xs.length->bl (cf (Xb xs) (i+1)*((i:Int)+1)).natAbs<=65536)/\¬Zn5 (Xb xs) (Xa (Xb xs))/\eok F (gA (Xb xs) (Xa (Xb xs))) (gB (Xb xs) (Xa (Xb xs)))/\
 Co (Xb xs) (Mg F (Xb xs) (Xa (Xb xs)))=0/\pdv (Xb xs) (Mg F (Xb xs) (Xa (Xb xs)))
def Ni(x y:List Int):List Int:=if cf y (y.length-1)<0/\(x.length-y.length+1)%2=1 then Zx (Qk x y)else Zm (Zx (Qk x y)) (-1)
def cok:Nat->List Int->List Int->Prop
 | 0,_,y=>y=[]
 | f+1,x,y=>y=[]\/(Co x y=0/\y.length<=x.length/\cok f y (Ni x y))
def Mu:Nat->List Int->List Int->List (List Int)
 | 0,x,_=>[x]
 | f+1,x,y=>if y=[]then [x]else x::Mu f y (Ni x y)
theorem Bf(f:Nat)(x:List Int):Mu f x []=[x]:=by cases f<;>rfl
theorem Zl3{f:Nat}{b:List Int}(h:cok f a b)(c:b≠[]):∃g,f=g+1/\Co a b=0/\b.length<=a.length/\cok g b (Ni a b)/\Mu f a b=a::Mu g b (Ni a b):=by
 cases f with
 | zero=>exact absurd h c
 | succ g=>
  rcases h with h|h
  .exact absurd h c
  .exact⟨g,rfl,h.1,h.2.1,h.2.2,by show(if b=[]then [a]else _)=_;rw [aH c]⟩
def chn(F:Nat)(xs:List Int):List (List Int):=Mu F (sqf F xs) (Zx (Xa (sqf F xs)))
def Bv(F:Nat)(xs:List Int):Prop:=Ymd F xs/\(∀i,i<xs.length->bl (cf (sqf F xs) (i+1)*((i:Int)+1)).natAbs<=65536)/\cok F (sqf F xs) (Zx (Xa (sqf F xs)))
theorem Yel(h:Vp p):Vp (Xb p):=by
 unfold Xb;have b:=Im h;refine⟨λi=>?_,Ov b.tr,by rw [Zbf b.tr];exact b.len⟩;rw [Ee];split
 .rw [eI];exact b.sz i
 .exact b.sz i
theorem Pj(h:Tr p):(Xb p).length=p.length:=by unfold Xb;rw [Zbf (Yy h),Zz]
theorem Zr3{x y:List Int}(c:Vp x)(b:Co x y=0):Vp (Ni x y):=by
 have h:=Im (Zb2 c b);unfold Ni;split
 .exact h
 .exact⟨λi=>by rw [Xk];exact Zbq h.sz i,Qf,aB Mw h.len⟩
def Ml(s:Int×Int)(x:Int):Int×Int:=if x=0 then s else(if x=-s.2 then s.1+1 else s.1,x)
def chg(l:List Int):Int:=(l.foldl Ml (0,0)).1
def Zep{α β:Type}(f:α->β->α)(a:α)(l:List β)(x:β):(l ++ [x]).foldl f a=f (l.foldl f a) x:=O8
theorem chg1_n(s:Int×Int)(x:Int):(Ml s x).1=s.1\/(Ml s x).1=s.1+1:=by
 unfold Ml;split
 .exact .inl rfl
 .dsimp only;split
  .exact .inr rfl
  .exact .inl rfl
def sgs(b:List (List Int))(x y:Int):List Int:=b.map λp=>(pev p x y).sign
def sgr(b:List (List Int)):List Int:=b.map λp=>(cf p (p.length-1)).sign
def sgl(b:List (List Int)):List Int:=b.map λp=>if p.length%2=0 then-(cf p (p.length-1)).sign else(cf p (p.length-1)).sign
def smost(xs:List Int):Nat:=(xs.take (xs.length-1)).foldl (λm c=>max m c.natAbs) 0
def sbound(xs:List Int):Int:=((smost xs/(cf xs (xs.length-1)).natAbs:Nat):Int)+2
def Zxo(xs:List Int):Int:=if xs.length=0 then 3 else if Zaf xs then 0 else 7
def ef(z:Int×Int):Bool:=decide (512<bl z.1.natAbs) || decide (512<bl z.2.natAbs)
def chk2r(xs:List Int)(x y b c:Int):Int:=if xs.length=0 then 3 else if 0<x*c-b*y then 3 else if Zaf xs/\ef (x,y)=false/\ef (b,c)=false then 0 else 7
theorem Ypq(b:xs≠[])(h:Zaf xs):Zxo xs=0:=by unfold Zxo;rw [aH (λe=>b (aF e)),aK h]
theorem Zps(h:¬cf (Zx xs) ((Zx xs).length-1)<0):Xb xs=Zx xs:=by unfold Xb Hi;rw [aH O1]
theorem Zpt(b:(Zx xs).length≠0)(h:cf (Zx xs) ((Zx xs).length-1)<0):Xb xs=Zm (Zx xs) (-1):=by unfold Xb Hi;rw [aK ⟨b,h⟩]
theorem Zeq (P:Nat->Prop) : ∀n,P n->∃m,P m/\∀k,k<m->¬P k:=by
 intro n
 induction n using Nat.strongRecOn with
 | _ n e=>
  intro h;by_cases d:∃k,k<n/\P k
  .obtain⟨k,c,b⟩:=d;exact e k c b
  .exact⟨n,h,λk c b=>d ⟨k,c,b⟩⟩
theorem Ydh{n:Nat}(h:2<=n):∃p,2<=p/\p∣n/\∀d,2<=d->d∣n->p<=d:=by
 obtain⟨p,⟨e,f⟩,g⟩:=Zeq (λd=>2<=d/\d∣n) n ⟨h,Nat.dvd_refl n⟩;exact⟨p,e,f,λd i c=>by
  rcases bC d p with b|b
  .exact absurd ⟨i,c⟩ (g d b)
  .exact b⟩
theorem Zt3{n p:Nat}(m:2<=p)(g:p∣n)(i:∀d,2<=d->d∣n->p<=d)(r:0<n){x y:Int}(h:(p:Int)∣x*y):(p:Int)∣x\/(p:Int)∣y:=by
 by_cases f:(p:Int)∣x
 .exact .inl f
 .right;have k:Nat.gcd p x.natAbs=1:=by
   have e:=mW p x.natAbs;have l:0<Nat.gcd p x.natAbs:=Nat.gcd_pos_of_pos_left _ O1;rcases bC (Nat.gcd p x.natAbs) 2 with b|b
   .omega
   .have o:=i _ b (Nat.dvd_trans e g);have q:=mQ O1 e;exfalso;refine f (gP.1 ?_);rw [dK];have j:Nat.gcd p x.natAbs=p:=O1;rw [<-j];exact pD _ _
  have c:=gP.2 h;rw [dK,cL]at c;refine gP.1 ?_;rw [dK];exact(show Nat.Coprime p x.natAbs from k).dvd_of_dvd_mul_left c
theorem gauss{g:List Int}(Z:Yz g=1):∀(n:Nat) (k:Int) (s:List Int),k.natAbs=n->k≠0->(∀t,k*cf a t=(ps s*ps g).c t)->∃q:List Int,∀t,cf a t=(ps q*ps g).c t:=by
 intro n
 induction n using Nat.strongRecOn with
 | _ n ih=>
  intro k s l R h;rcases bC n 2 with N|N
  .have F:k*k=1:=by have:k=1\/k=-1:=O1;rcases this with e|e<;>subst e<;>rfl
   refine⟨Zm s k,λt=>?_⟩;have e:(ps (Zm s k)*ps g).c t=k*(ps s*ps g).c t:=by rw [PS.mul_c,PS.mul_c,<-Mn];exact Yx λi _=>by rw [Nj,Nj,Nj,Xk];grind
   rw [e,<-h,<-fF,F,fS]
  .obtain⟨p,S,V,pm⟩:=Ydh N;have H:∀{x y:Int},(p:Int)∣x*y->(p:Int)∣x\/(p:Int)∣y:=Zt3 S V pm O1;have o:(p:Int)∣k:=gP.1 (by rw [dK,l];exact V);have v:∃j,¬(p:Int)∣cf g j:=bI λr=>by have:(p:Int)∣Yz g:=Fg λi=>bI λhy=>r ⟨i,hy⟩;rw [Z]at this;have:=mT O3 this;omega
   obtain⟨j0,B⟩:=v;obtain⟨j,hj,D⟩:=Zeq (λj=>¬(p:Int)∣cf g j) j0 B;have hs:∀i,(p:Int)∣cf s i:=λi0=>bI λw=>by
    obtain⟨i,hi,z⟩:=Zeq (λi=>¬(p:Int)∣cf s i) i0 w;have P:=h (i+j);rw [PS.mul_c]at P;have M:∀m,m<=i+j+1->(p:Int)∣Yg (λk=>if k=i then 0 else(ps s).c k*(ps g).c (i+j-k)) m:=λm=>by
     induction m with
     | zero=>intro _;exact iU _
     | succ m I=>
      intro hm;rw [Yn];refine pP (I O1) ?_;split
      .exact iU _
      .rename_i a0;rw [Nj,Nj];rcases bC m i with u|u
       .exact fC (bI λr=>z m u r) (jZ _ _)
       .exact fC (bI λr=>D (i+j-m) O1 r) (nA _ _)
    have W:Yg (λk=>(ps s).c k*(ps g).c (i+j-k)) (i+j+1)=Yg (λk=>if k=i then 0 else(ps s).c k*(ps g).c (i+j-k)) (i+j+1)+cf s i*cf g j:=by
     have Y:Yg (λk=>(ps s).c k*(ps g).c (i+j-k)) (i+j+1)=Yg (λk=>(if k=i then 0 else(ps s).c k*(ps g).c (i+j-k))+(if k=i then(ps s).c k*(ps g).c (i+j-k)else 0)) (i+j+1):=
      Yx λk _=>by split<;>omega
     rw [Y,Eo,Bb i (f:=λk=>if k=i then(ps s).c k*(ps g).c (i+j-k)else 0) O1 (λq _ hq=>aH hq),aK rfl,Nj,Nj,show i+j-i=j by omega]
    rw [W]at P;have u:(p:Int)∣cf s i*cf g j:=by have d:cf s i*cf g j=k*cf a (i+j)-Yg (λk=>if k=i then 0 else(ps s).c k*(ps g).c (i+j-k)) (i+j+1):=O1;rw [d];exact Int.dvd_sub (fC o (jZ _ _)) (M _ (aI _))
    rcases H u with d|d
    .exact hi d
    .exact hj d
   obtain⟨c,b⟩:=o;have G:(p:Int)≠0:=O1;refine ih c.natAbs ?_ c (s.map (· / (p:Int))) rfl ?_ ?_
   .rw [<-l,b,cL,dK];have:0<c.natAbs:=by
     rcases aS c.natAbs with Q|Q
     .rw [show c=0 by omega]at b;simp at b;exact absurd b R
     .exact Q
    have:=aN c.natAbs S;omega
   .intro e;rw [e]at b;simp at b;exact R b
   .intro t;refine iM G ?_;rw [<-fF,<-b,h,PS.mul_c,PS.mul_c,<-Mn];refine Yx λi _=>?_;rw [Nj,Nj,Nj,Zct O8,<-fF,lG (hs i)]
def ev1:List Int->Int->Int
 | [],_=>0
 | c::r,t=>c+t*ev1 r t
def sdv:List Int->Int->List Int
 | [],_=>[]
 | [_],_=>[]
 | _::c::r,t=>ev1 (c::r) t::sdv (c::r) t
theorem Zlf:∀(u:List Int) (t:Int),(sdv u t).length=u.length-1
 | [],_=>rfl
 | [_],_=>rfl
 | _::c::r,t=>by unfold sdv;rw [eA,Zlf (c::r) t];simp
theorem Yao:∀(u:List Int) (t x:Int),ev1 u x=ev1 u t+(x-t)*ev1 (sdv u t) x
 | [],t,x=>by simp [ev1,sdv]
 | [c],t,x=>by simp [ev1,sdv]
 | a::c::r,t,x=>by have b:=Yao (c::r) t x;show a+x*ev1 (c::r) x=a+t*ev1 (c::r) t+(x-t)*(ev1 (c::r) t+x*ev1 (sdv (c::r) t) x);rw [b];generalize ev1 (c::r) t=A;generalize ev1 (sdv (c::r) t) x=B;grind
theorem Dk(a:Int)(u:List Int)(i:Nat):cf (a::u) i=if i=0 then a else cf u (i-1):=by
 cases i with
 | zero=>rfl
 | succ i=>simp [cf]
def Zbo(i:Nat):cf [] i=0:=Yr (bJ _)
theorem Ykp:∀(u:List Int) (t:Int) (i:Nat),cf u (i+1)=cf (sdv u t) i-t*cf (sdv u t) (i+1)
 | [],t,i=>by unfold sdv;simp [Zbo]
 | [c],t,i=>by unfold sdv;rw [Dk,aH O1];simp [Zbo]
 | a::c::r,t,i=>by
  unfold sdv;rw [Dk,aH O1,fY];cases i with
  | zero=>
   rw [Dk,aK rfl,Dk,aK rfl,Dk,aH O1];show c=ev1 (c::r) t-t*cf (sdv (c::r) t) 0
   match r with
   | []=>simp [ev1,sdv,cf]
   | d::r'=>unfold sdv;rw [Dk,aK rfl];show c=(c+t*ev1 (d::r') t)-_;omega
  | succ i=>
   rw [Dk _ (sdv _ _) (i+1),aH O1,Dk _ (sdv _ _),aH O1,fY,fY];exact Ykp (c::r) t i
theorem Ypt:∀(u:List Int) (t:Int),cf u 0=ev1 u t-t*cf (sdv u t) 0
 | [],t=>by simp [ev1,sdv,cf]
 | [c],t=>by simp [ev1,sdv,cf]
 | a::c::r,t=>by unfold sdv;rw [Dk,aK rfl,Dk,aK rfl];show a=(a+t*ev1 (c::r) t)-t*ev1 (c::r) t;omega
theorem Zsy:∀(n:Nat) (u:List Int) (R:List Int),u.length=n->(∃i,cf u i≠0)->R.Nodup->(∀t∈R,ev1 u t=0)->R.length<n
 | 0,u,R,d,b,_,_=>by obtain⟨i,hi⟩:=b;rw [aF d,Zbo]at hi;exact absurd rfl hi
 | n+1,u,[],d,b,_,_=>O8
 | n+1,u,t::R,d,b,hd,hR=>by
  have f:=hR t (bW ..);have l:=Zlf u t;have j:∃i,cf (sdv u t) i≠0:=bI λc=>by
   have e:∀i,cf (sdv u t) i=0:=λi=>bI λk=>c ⟨i,k⟩;obtain⟨i,hi⟩:=b;cases i with
   | zero=>rw [Ypt u t,f,e]at hi;simp at hi
   | succ i=>rw [Ykp u t,e,e]at hi;simp at hi
  have:=Zsy n (sdv u t) R O1 j (List.nodup_cons.1 hd).2 λx c=>by
   have g:=hR x (bG _ c);rw [Yao u t x,f,lS]at g;rcases fN.1 g with h|h
   .exfalso;have:x=t:=O1;subst this;exact(List.nodup_cons.1 hd).1 c
   .exact h
  simp;omega
def kk:Nat->Nat
 | 0=>0
 | d+1=>30*kk d+1
def pts:List Int:=[0,1,2,3,4,5,6,7,8,9,10,11,12,13,14]
end Go.Sky

