/- Rules, arithmetic and contracts: part 4. No conditions but those that each theorem names. -/
import Derived.Test.YteikicbnfbgpnaaGreatEa02
import Derived.Test.YteikicbnfbgpnaaGreatProg
import Derived.Test.YteikicbnfbgpnaaGreatRows
import Derived.WalkKit
import Derived.ProofKit
import Derived.OpenShut
import Derived.ShutString
import Derived.ChangeOld
import Derived.Deep.Slices
import Derived.Lib.SmallJoins
set_option linter.all false
namespace Go.Sky
open Go.Proofs
def pU:Enc Tryz.prog 232 1 Mg:=Enc.flat Tryz.sizeOf232 Tryz.isAgg232 (λ_=>rfl)
def pB:Enc Tryz.prog 5 1 Zhs:=Enc.flat Tryz.sizeOf5 Tryz.isAgg5 (λ_=>rfl)
def pN:Enc Tryz.prog 3 1 Iy:=Enc.flat Tryz.sizeOf3 Tryz.isAgg3 (λ_=>rfl)
def pZ:Enc Tryz.prog 3 1 Zx:=Enc.flat Tryz.sizeOf3 Tryz.isAgg3 (λ_=>rfl)
def Zgx(args:Array Value)(w:World):(callFunc 269 args).run Tryz.prog w=((add64Entry args).run Tryz.prog w).andThen λv w'=> .ok (.value v) w':=
 run_callFunc_extern Tryz.func269 O5 O5 O5 O5 args w
def Zz5(args:Array Value)(w:World):(callFunc 270 args).run Tryz.prog w=((Zds args).run Tryz.prog w).andThen λv w'=> .ok (.value v) w':=
 run_callFunc_extern Tryz.func270 O5 O5 O5 O5 args w
end Go.Sky
theorem Go.Proofs.Tryz.ti232:Go.Proofs.Tryz.prog.info? 232=some Go.Proofs.Tryz.t232:=Go.Sky.O5
namespace Go.Sky
open Go.Proofs
end Go.Sky
theorem Go.Proofs.Tryz.ti5:Go.Proofs.Tryz.prog.info? 5=some Go.Proofs.Tryz.t5:=Go.Sky.O5
namespace Go.Sky
open Go.Proofs
end Go.Sky
theorem Go.Proofs.Tryz.ti3:Go.Proofs.Tryz.prog.info? 3=some Go.Proofs.Tryz.t3:=Go.Sky.O5
namespace Go.Sky
open Go.Proofs
def pW:Enc Tryz.prog 80 2 Zvm:=Enc.agg O3 Tryz.sizeOf80 Tryz.isAgg80 (λx=>⟨[.bool x.1,.string x.2],rfl,rfl,O11⟩)
def pV:Enc Tryz.prog 80 2 wv:=Enc.agg O3 Tryz.sizeOf80 Tryz.isAgg80 (λx=>⟨[.bool (decide (x<0)),.string (Xy x.natAbs)],rfl,rfl,O11⟩)
def pI:Enc Tryz.prog 89 2 Es:=Enc.agg O3 Tryz.sizeOf89 Tryz.isAgg89 (λx=>⟨[.bool (decide (x.1<0)),Yy x.2],rfl,rfl,O11⟩)
def pS{α:Type} : Enc Tryz.prog 40 1 (Lx (α:=α)):=Enc.flat Tryz.sizeOf40 Tryz.isAgg40 (λ_=>rfl)
def pY:Enc Tryz.prog 276 8 iq:=Enc.agg O3 Tryz.sizeOf276 Tryz.isAgg276 (λx=>⟨[.bool (decide (x.1.1<0)),.string (Xy x.1.1.natAbs),.bool (decide (x.1.2<0)),.string (Xy x.1.2.natAbs),.bool (decide (x.2.1<0)),.string (Xy x.2.1.natAbs),.bool (decide (x.2.2<0)),.string (Xy x.2.2.natAbs)],rfl,rfl,O11⟩)
def pQ:Enc Tryz.prog 82 4 rq:=Enc.agg O3 Tryz.sizeOf82 Tryz.isAgg82 (λx=>⟨[.bool (decide (x.1<0)),.string (Xy x.1.natAbs),.bool (decide (x.2<0)),.string (Xy x.2.natAbs)],rfl,rfl,O11⟩)
def pR:Enc Tryz.prog 82 4 encQ:=Enc.agg O3 Tryz.sizeOf82 Tryz.isAgg82 (λx=>⟨[.bool x.1.1,.string x.1.2,.bool x.2.1,.string x.2.2],rfl,rfl,O11⟩)
def sh80:Tryz.prog.stoodInHeld 80=false:=O5
def eg80:Tryz.prog.eqGuardType Tryz.prog.depth 80=false:=O5
def in80(d:Nat)(w:World)(a:Bool)(s:ByteArray)(b:Bool)(t:ByteArray):(Op.equalIn (d+2) 80 (.agg #[.bool a,.string s]) (.agg #[.bool b,.string t])).run Tryz.prog w= .ok (eqW a s b t) w:=by
 have c:Tryz.prog.underlying 80=some (.struct (Tryz.prog.fieldsOf 80)):=by unfold Program.fieldsOf;rw [Tryz.underlying80]
 rw [run_equalIn_agg w (d+1) 80 _ _ c sh80];unfold Program.fieldsOf;rw [Tryz.underlying80];simp [Op.eqFields,part,Tryz.isAgg4,Tryz.isAgg9,run_equalIn_bool' _ _ _ _ _ Tryz.underlying4,run_equalIn_string _ _ _ _ _ Tryz.underlying9];unfold eqW;cases hab:(a == b)
 .simp_all
 .by_cases h:s.toList=t.toList<;>simp_all
def eql80(w:World)(a:Bool)(s:ByteArray)(b:Bool)(t:ByteArray):(binOp .eql 80 (.agg #[.bool a,.string s]) (.agg #[.bool b,.string t])).run Tryz.prog w= .ok (.bool (eqW a s b t)) w:=by rw [run_eql_struct,in80];rfl
def neq80(w:World)(a:Bool)(s:ByteArray)(b:Bool)(t:ByteArray):(binOp .neq 80 (.agg #[.bool a,.string s]) (.agg #[.bool b,.string t])).run Tryz.prog w= .ok (.bool (!eqW a s b t)) w:=by rw [run_neq_struct,in80];rfl
end Go.Sky
theorem Go.Proofs.Tryz.ti33:Go.Proofs.Tryz.prog.info? 33=some Go.Proofs.Tryz.t33:=Go.Sky.O5
namespace Go.Sky
open Go.Proofs
end Go.Sky
theorem Go.Proofs.Tryz.ti35:Go.Proofs.Tryz.prog.info? 35=some Go.Proofs.Tryz.t35:=Go.Sky.O5
namespace Go.Sky
open Go.Proofs
end Go.Sky
theorem Go.Proofs.Tryz.ti38:Go.Proofs.Tryz.prog.info? 38=some Go.Proofs.Tryz.t38:=Go.Sky.O5
namespace Go.Sky
open Go.Proofs
end Go.Sky
theorem Go.Proofs.Tryz.ti40:Go.Proofs.Tryz.prog.info? 40=some Go.Proofs.Tryz.t40:=Go.Sky.O5
namespace Go.Sky
open Go.Proofs
end Go.Sky
theorem Go.Proofs.Tryz.ti47:Go.Proofs.Tryz.prog.info? 47=some Go.Proofs.Tryz.t47:=Go.Sky.O5
namespace Go.Sky
open Go.Proofs
end Go.Sky
theorem Go.Proofs.Tryz.ti80:Go.Proofs.Tryz.prog.info? 80=some Go.Proofs.Tryz.t80:=Go.Sky.O5
namespace Go.Sky
open Go.Proofs
end Go.Sky
theorem Go.Proofs.Tryz.ti82:Go.Proofs.Tryz.prog.info? 82=some Go.Proofs.Tryz.t82:=Go.Sky.O5
namespace Go.Sky
open Go.Proofs
end Go.Sky
theorem Go.Proofs.Tryz.ti89:Go.Proofs.Tryz.prog.info? 89=some Go.Proofs.Tryz.t89:=Go.Sky.O5
namespace Go.Sky
open Go.Proofs
end Go.Sky
theorem Go.Proofs.Tryz.ti130:Go.Proofs.Tryz.prog.info? 130=some Go.Proofs.Tryz.t130:=Go.Sky.O5
namespace Go.Sky
open Go.Proofs
end Go.Sky
theorem Go.Proofs.Tryz.ti23:Go.Proofs.Tryz.prog.info? 23=some Go.Proofs.Tryz.t23:=Go.Sky.O5
namespace Go.Sky
open Go.Proofs
variable{v0 v1:Value}
theorem Yna{a:Value}(b:v0.oneCell'=true)(c:v1.oneCell'=true)(d:a.oneCell'=true):Tryz.prog.built 23 [(0,v0),(1,v1),(2,a)]=some #[v0,v1,a]:=by refine Pb _ Tryz.ti23 Tryz.underlying23 rfl (pl:=[(0,1),(1,1),(2,1)]) (by simp [Tryz.ti3];try decide) ?_;simp [Instr.fill,Zy b,Zy c,Zy d,show(Value.agg #[.int .i64 0,.int .i64 0,.int .i64 0]).cells=#[.int .i64 0,.int .i64 0,.int .i64 0]from rfl]
theorem b35_01(a:v0.oneCell'=true)(b:v1.oneCell'=true):Tryz.prog.built 35 [(0,v0),(1,v1)]=some #[v0,v1,.int .i64 0,.slice none 0 0,.slice none 0 0,.slice none 0 0]:=by refine Pb _ Tryz.ti35 Tryz.underlying35 rfl (pl:=[(0,1),(1,1),(2,1),(3,1),(4,1),(5,1)]) (by simp [Tryz.ti3,Tryz.ti33];try decide) ?_;simp [Instr.fill,Zy a,Zy b,show(Value.agg #[.int .i64 0,.int .i64 0,.int .i64 0,.slice none 0 0,.slice none 0 0,.slice none 0 0]).cells=#[.int .i64 0,.int .i64 0,.int .i64 0,.slice none 0 0,.slice none 0 0,.slice none 0 0]from rfl]
theorem Zwe{a b c d:Value}(e:v0.oneCell'=true)(f:v1.oneCell'=true)(g:a.oneCell'=true)(h:b.oneCell'=true)(i:c.oneCell'=true)(j:d.oneCell'=true):Tryz.prog.built 35 [(0,v0),(1,v1),(2,a),(3,b),(4,c),(5,d)]=some #[v0,v1,a,b,c,d]:=by refine Pb _ Tryz.ti35 Tryz.underlying35 rfl (pl:=[(0,1),(1,1),(2,1),(3,1),(4,1),(5,1)]) (by simp [Tryz.ti3,Tryz.ti33];try decide) ?_;simp [Instr.fill,Zy e,Zy f,Zy g,Zy h,Zy i,Zy j,show(Value.agg #[.int .i64 0,.int .i64 0,.int .i64 0,.slice none 0 0,.slice none 0 0,.slice none 0 0]).cells=#[.int .i64 0,.int .i64 0,.int .i64 0,.slice none 0 0,.slice none 0 0,.slice none 0 0]from rfl]
end Go.Sky
theorem Go.Proofs.Tryz.ti64:Go.Proofs.Tryz.prog.info? 64=some Go.Proofs.Tryz.t64:=Go.Sky.O5
namespace Go.Sky
open Go.Proofs
def b64_:Tryz.prog.built 64 []=some #[.int .i64 0,.int .i64 0,.int .i64 0,.int .i64 0]:=by refine Pb _ Tryz.ti64 Tryz.underlying64 rfl (pl:=[(0,1),(1,1),(2,1),(3,1)]) (by simp [Tryz.ti3];try decide) ?_;simp [Instr.fill,show(Value.agg #[.int .i64 0,.int .i64 0,.int .i64 0,.int .i64 0]).cells=#[.int .i64 0,.int .i64 0,.int .i64 0,.int .i64 0]from rfl]
def Zle{a b c d:Value}(e:a.oneCell'=true)(f:b.oneCell'=true)(g:c.oneCell'=true)(h:d.oneCell'=true):Tryz.prog.built 64 [(0,a),(1,b),(2,c),(3,d)]=some #[a,b,c,d]:=by refine Pb _ Tryz.ti64 Tryz.underlying64 rfl (pl:=[(0,1),(1,1),(2,1),(3,1)]) (by simp [Tryz.ti3];try decide) ?_;simp [Instr.fill,Zy e,Zy f,Zy g,Zy h,show(Value.agg #[.int .i64 0,.int .i64 0,.int .i64 0,.int .i64 0]).cells=#[.int .i64 0,.int .i64 0,.int .i64 0,.int .i64 0]from rfl]
end Go.Sky
theorem Go.Proofs.Tryz.ti4:Go.Proofs.Tryz.prog.info? 4=some Go.Proofs.Tryz.t4:=Go.Sky.O5
namespace Go.Sky
open Go.Proofs
end Go.Sky
theorem Go.Proofs.Tryz.ti9:Go.Proofs.Tryz.prog.info? 9=some Go.Proofs.Tryz.t9:=Go.Sky.O5
namespace Go.Sky
open Go.Proofs
variable{v0 v1:Value}
theorem b80_:Tryz.prog.built 80 []=some #[.bool false,.string ⟨#[]⟩]:=by refine Pb _ Tryz.ti80 Tryz.underlying80 rfl (pl:=[(0,1),(1,1)]) (by simp [Tryz.ti4,Tryz.ti9];try decide) ?_;simp [Instr.fill,show(Value.agg #[.bool false,.string ⟨#[]⟩]).cells=#[.bool false,.string ⟨#[]⟩]from rfl]
theorem Zwd(a:v0.oneCell'=true)(b:v1.oneCell'=true):Tryz.prog.built 80 [(0,v0),(1,v1)]=some #[v0,v1]:=by refine Pb _ Tryz.ti80 Tryz.underlying80 rfl (pl:=[(0,1),(1,1)]) (by simp [Tryz.ti4,Tryz.ti9];try decide) ?_;simp [Instr.fill,Zy a,Zy b,show(Value.agg #[.bool false,.string ⟨#[]⟩]).cells=#[.bool false,.string ⟨#[]⟩]from rfl]
theorem Zwc:Tryz.prog.built 82 []=some #[.bool false,.string ⟨#[]⟩,.bool false,.string ⟨#[]⟩]:=by refine Pb _ Tryz.ti82 Tryz.underlying82 rfl (pl:=[(0,2),(2,2)]) (by simp [Tryz.ti80];try decide) ?_;simp [Instr.fill,show(Value.agg #[.bool false,.string ⟨#[]⟩,.bool false,.string ⟨#[]⟩]).cells=#[.bool false,.string ⟨#[]⟩,.bool false,.string ⟨#[]⟩]from rfl]
theorem Zld{a b c d:Value} : Tryz.prog.built 82 [(0,.agg #[a,b]),(1,.agg #[c,d])]=some #[a,b,c,d]:=by refine Pb _ Tryz.ti82 Tryz.underlying82 rfl (pl:=[(0,2),(2,2)]) (by simp [Tryz.ti80];try decide) ?_;simp [Instr.fill,show(Value.agg #[a,b]).cells=#[a,b]from rfl,show(Value.agg #[c,d]).cells=#[c,d]from rfl,show(Value.agg #[.bool false,.string ⟨#[]⟩,.bool false,.string ⟨#[]⟩]).cells=#[.bool false,.string ⟨#[]⟩,.bool false,.string ⟨#[]⟩]from rfl]
theorem Yib:Tryz.prog.built 89 []=some #[.bool false,.slice none 0 0]:=by refine Pb _ Tryz.ti89 Tryz.underlying89 rfl (pl:=[(0,1),(1,1)]) (by simp [Tryz.ti33,Tryz.ti4];try decide) ?_;simp [Instr.fill,show(Value.agg #[.bool false,.slice none 0 0]).cells=#[.bool false,.slice none 0 0]from rfl]
theorem Yia(a:v0.oneCell'=true)(b:v1.oneCell'=true):Tryz.prog.built 89 [(0,v0),(1,v1)]=some #[v0,v1]:=by refine Pb _ Tryz.ti89 Tryz.underlying89 rfl (pl:=[(0,1),(1,1)]) (by simp [Tryz.ti33,Tryz.ti4];try decide) ?_;simp [Instr.fill,Zy a,Zy b,show(Value.agg #[.bool false,.slice none 0 0]).cells=#[.bool false,.slice none 0 0]from rfl]
theorem Ztz{a:Value}(b:v0.oneCell'=true)(c:v1.oneCell'=true)(d:a.oneCell'=true):Tryz.prog.built 130 [(0,v0),(1,v1),(2,a)]=some #[v0,v1,a]:=by refine Pb _ Tryz.ti130 Tryz.underlying130 rfl (pl:=[(0,1),(1,1),(2,1)]) (by simp [Tryz.ti3,Tryz.ti40];try decide) ?_;simp [Instr.fill,Zy b,Zy c,Zy d,show(Value.agg #[.int .i64 0,.int .i64 0,.slice none 0 0]).cells=#[.int .i64 0,.int .i64 0,.slice none 0 0]from rfl]
end Go.Sky
theorem Go.Proofs.Tryz.ti162:Go.Proofs.Tryz.prog.info? 162=some Go.Proofs.Tryz.t162:=Go.Sky.O5
namespace Go.Sky
open Go.Proofs
def Ybv{a b c d e f g h:Value} : Tryz.prog.built 162 [(0,.agg #[a,b]),(1,.agg #[c,d]),(2,.agg #[e,f]),(3,.agg #[g,h])]=some #[a,b,c,d,e,f,g,h]:=by refine Pb _ Tryz.ti162 Tryz.underlying162 rfl (pl:=[(0,2),(2,2),(4,2),(6,2)]) (by simp [Tryz.ti80];try decide) ?_;simp [Instr.fill,show(Value.agg #[a,b]).cells=#[a,b]from rfl,show(Value.agg #[c,d]).cells=#[c,d]from rfl,show(Value.agg #[e,f]).cells=#[e,f]from rfl,show(Value.agg #[g,h]).cells=#[g,h]from rfl,show(Value.agg #[.bool false,.string ⟨#[]⟩,.bool false,.string ⟨#[]⟩,.bool false,.string ⟨#[]⟩,.bool false,.string ⟨#[]⟩]).cells=#[.bool false,.string ⟨#[]⟩,.bool false,.string ⟨#[]⟩,.bool false,.string ⟨#[]⟩,.bool false,.string ⟨#[]⟩]from rfl]
end Go.Sky
theorem Go.Proofs.Tryz.ti219:Go.Proofs.Tryz.prog.info? 219=some Go.Proofs.Tryz.t219:=Go.Sky.O5
namespace Go.Sky
open Go.Proofs
end Go.Sky
theorem Go.Proofs.Tryz.ti217:Go.Proofs.Tryz.prog.info? 217=some Go.Proofs.Tryz.t217:=Go.Sky.O5
namespace Go.Sky
open Go.Proofs
def Kq{a b:Value}(c:a.oneCell'=true)(d:b.oneCell'=true):Tryz.prog.built 219 [(0,a),(1,b)]=some #[a,b]:=by refine Pb _ Tryz.ti219 Tryz.underlying219 rfl (pl:=[(0,1),(1,1)]) (by simp [Tryz.ti217,Tryz.ti4];try decide) ?_;simp [Instr.fill,Zy c,Zy d,show(Value.agg #[.bool false,.slice none 0 0]).cells=#[.bool false,.slice none 0 0]from rfl]
end Go.Sky
theorem Go.Proofs.Tryz.ti276:Go.Proofs.Tryz.prog.info? 276=some Go.Proofs.Tryz.t276:=Go.Sky.O5
namespace Go.Sky
open Go.Proofs
variable{N b0:Nat}{sc:Nat->Prop}{o:Oper}{env:Pd}{r:Value}{t:TypeId}
theorem Ym9{a b c d e f g h:Value} : Tryz.prog.built 276 [(0,.agg #[a,b,c,d]),(1,.agg #[e,f,g,h])]=some #[a,b,c,d,e,f,g,h]:=by refine Pb _ Tryz.ti276 Tryz.underlying276 rfl (pl:=[(0,4),(4,4)]) (by simp [Tryz.ti82];try decide) ?_;simp [Instr.fill,show(Value.agg #[a,b,c,d]).cells=#[a,b,c,d]from rfl,show(Value.agg #[e,f,g,h]).cells=#[e,f,g,h]from rfl,show(Value.agg #[.bool false,.string ⟨#[]⟩,.bool false,.string ⟨#[]⟩,.bool false,.string ⟨#[]⟩,.bool false,.string ⟨#[]⟩]).cells=#[.bool false,.string ⟨#[]⟩,.bool false,.string ⟨#[]⟩,.bool false,.string ⟨#[]⟩,.bool false,.string ⟨#[]⟩]from rfl]
def J{α:Sort _}{a:α} : a=a:=rfl
abbrev Qi (P:Program) (f:FuncId) (a:Array Value) (p:List Pc) (v:Value):Prop:=Cal P f a p false (G:=Unit) (λ_=>True) (λ_=>v) (λ_=>[])
abbrev rX (x y:Int):Value:= .agg #[.bool (decide (x<0)),.string (Xy x.natAbs),.bool (decide (y<0)),.string (Xy y.natAbs)]
def vB{a b:Bool}(h:a=b):Value.bool a=Value.bool b:=congrArg _ h
def dF{P:Program}{H:Hp}(h:Mi P N sc o env H r)(e:r= .bool false):Mi P N sc o env H (.bool false):=Xf h e
def dT{P:Program}{H:Hp}(h:Mi P N sc o env H r)(e:r= .bool true):Mi P N sc o env H (.bool true):=Xf h e
def K1{t0:Sort _}{a:t0} : a=a/\True:=⟨rfl,trivial⟩
def K2{t0:Sort _}{a:t0}{t1:Sort _}{b:t1} : a=a/\b=b/\True:=⟨rfl,rfl,trivial⟩
def K3{t0:Sort _}{a:t0}{t1:Sort _}{b:t1}{t2:Sort _}{c:t2} : a=a/\b=b/\c=c/\True:=⟨rfl,rfl,rfl,trivial⟩
def K4{t0:Sort _}{a:t0}{t1:Sort _}{b:t1}{t2:Sort _}{c:t2}{t3:Sort _}{d:t3} : a=a/\b=b/\c=c/\d=d/\True:=⟨rfl,rfl,rfl,rfl,trivial⟩
def K5{t0:Sort _}{a:t0}{t1:Sort _}{b:t1}{t2:Sort _}{c:t2}{t3:Sort _}{d:t3}{t4:Sort _}{e:t4} : a=a/\b=b/\c=c/\d=d/\e=e/\True:=⟨rfl,rfl,rfl,rfl,rfl,trivial⟩
def K6{t0:Sort _}{a:t0}{t1:Sort _}{b:t1}{t2:Sort _}{c:t2}{t3:Sort _}{d:t3}{t4:Sort _}{e:t4}{t5:Sort _}{f:t5} : a=a/\b=b/\c=c/\d=d/\e=e/\f=f/\True:=⟨rfl,rfl,rfl,rfl,rfl,rfl,trivial⟩
def K7{t0:Sort _}{a:t0}{t1:Sort _}{b:t1}{t2:Sort _}{c:t2}{t3:Sort _}{d:t3}{t4:Sort _}{e:t4}{t5:Sort _}{f:t5}{t6:Sort _}{g:t6} : a=a/\b=b/\c=c/\d=d/\e=e/\f=f/\g=g/\True:=⟨rfl,rfl,rfl,rfl,rfl,rfl,rfl,trivial⟩
def K8{t0:Sort _}{a:t0}{t1:Sort _}{b:t1}{t2:Sort _}{c:t2}{t3:Sort _}{d:t3}{t4:Sort _}{e:t4}{t5:Sort _}{f:t5}{t6:Sort _}{g:t6}{t7:Sort _}{h:t7} : a=a/\b=b/\c=c/\d=d/\e=e/\f=f/\g=g/\h=h/\True:=⟨rfl,rfl,rfl,rfl,rfl,rfl,rfl,rfl,trivial⟩
def K10{t0:Sort _}{a:t0}{t1:Sort _}{b:t1}{t2:Sort _}{c:t2}{t3:Sort _}{d:t3}{t4:Sort _}{e:t4}{t5:Sort _}{f:t5}{t6:Sort _}{g:t6}{t7:Sort _}{h:t7}{t8:Sort _}{i:t8}{t9:Sort _}{j:t9} : a=a/\b=b/\c=c/\d=d/\e=e/\f=f/\g=g/\h=h/\i=i/\j=j/\True:=⟨rfl,rfl,rfl,rfl,rfl,rfl,rfl,rfl,rfl,rfl,trivial⟩
def K12{t0:Sort _}{c:t0}{t1:Sort _}{d:t1}{t2:Sort _}{e:t2}{t3:Sort _}{f:t3}{t4:Sort _}{g:t4}{t5:Sort _}{h:t5}{t6:Sort _}{i:t6}{t7:Sort _}{j:t7}{t8:Sort _}{k:t8}{t9:Sort _}{l:t9}{t10:Sort _}{a:t10}{t11:Sort _}{b:t11} : c=c/\d=d/\e=e/\f=f/\g=g/\h=h/\i=i/\j=j/\k=k/\l=l/\a=a/\b=b/\True:=⟨rfl,rfl,rfl,rfl,rfl,rfl,rfl,rfl,rfl,rfl,rfl,rfl,trivial⟩
def K13{t0:Sort _}{d:t0}{t1:Sort _}{e:t1}{t2:Sort _}{f:t2}{t3:Sort _}{g:t3}{t4:Sort _}{h:t4}{t5:Sort _}{i:t5}{t6:Sort _}{j:t6}{t7:Sort _}{k:t7}{t8:Sort _}{l:t8}{t9:Sort _}{m:t9}{t10:Sort _}{a:t10}{t11:Sort _}{b:t11}{t12:Sort _}{c:t12} : d=d/\e=e/\f=f/\g=g/\h=h/\i=i/\j=j/\k=k/\l=l/\m=m/\a=a/\b=b/\c=c/\True:=⟨rfl,rfl,rfl,rfl,rfl,rfl,rfl,rfl,rfl,rfl,rfl,rfl,rfl,trivial⟩
def On:=@Go.Proofs.Tryz.call182
def Ztt:=@Go.Proofs.Tryz.call202
def iA3:=@Go.Proofs.Tryz.isAgg3
def Dr:=@Go.Proofs.Tryz.isAgg33
def Kl:=@Go.Proofs.Tryz.sizeOf232
def Ha:=@Go.Proofs.Tryz.sizeOf3
def Nf:=@Go.Proofs.Tryz.sizeOf33
def Zbo:=@Go.Proofs.Tryz.sizeOf35
def Ln:=@Go.Proofs.Tryz.sizeOf80
def Zqb:=@Go.Proofs.Tryz.sizeOf89
def uT121:=@Go.Proofs.Tryz.underlying121
def Zl3:=@Go.Proofs.Tryz.underlying130
def Zl2:=@Go.Proofs.Tryz.underlying166
def Zwq:=@Go.Proofs.Tryz.underlying193
def Zgz:=@Go.Proofs.Tryz.underlying197
def Pq:=@Go.Proofs.Tryz.underlying217
def Zwp:=@Go.Proofs.Tryz.underlying230
def Zaa:=@Go.Proofs.Tryz.underlying232
def Ziw:=@Go.Proofs.Tryz.underlying242
def Zl1:=@Go.Proofs.Tryz.underlying243
def Zl0:=@Go.Proofs.Tryz.underlying268
def uT3:=@Go.Proofs.Tryz.underlying3
def Pk:=@Go.Proofs.Tryz.underlying33
def Zf6:=@Go.Proofs.Tryz.underlying35
def Di:=@Go.Proofs.Tryz.underlying38
def Yi9:=@Go.Proofs.Tryz.underlying39
def Nx:=@Go.Proofs.Tryz.underlying40
def Zt8:=@Go.Proofs.Tryz.underlying46
def Zdb:=@Go.Proofs.Tryz.underlying47
def uT5:=@Go.Proofs.Tryz.underlying5
def Zlj:=@Go.Proofs.Tryz.underlying50
def Zz0:=@Go.Proofs.Tryz.underlying61
def uT9:=@Go.Proofs.Tryz.underlying9
open Go.ChangeShapes Go.WideShapes Go.ChangeAt Go.RowKit Go.Joins Go.Deep
variable {P:Program} {W:World} {H:Type} {enc:TypeId×Value->H}
theorem Zu0{r:Reach}{e:TypeId}{a:Addr}{g c:Nat}(hs:P.underlying t=some (.slice e))(b:Value.okWide P W r b0 t (.slice (some a) g c)):a.spot=none/\a.block<W.heap.size:=by
 unfold Value.okWide at b;rw [hs]at b;simp only at b;unfold Cell.okWide at b;rw [hs]at b;simp only at b;unfold Cell.ok at b;rw [hs]at b;simp only at b;obtain⟨_,_,_,i,j,d,f,_⟩:=b;refine⟨i,?_⟩;unfold World.shape? at f;rcases Nat.lt_or_ge a.block W.heap.size with h|h
 .exact h
 .rw [Array.getElem?_eq_none h]at f;simp at f
theorem Zuz {e:TypeId} {v:Value} {d:DataW H} {p:List MemPlace} (hs:P.underlying t=some (.slice e)) (he:P.underlying e=some (.int .i64)) (Z:P.cellsOf e=1)
  {r:Reach}  (R:Value.okWide P W r b0 t v) (h:DataW.Trod enc P W 0 (λ_=>true) true t v d p) :
  ∃l:List Int,(Yl 1 Zx v l).holds W/\∀x∈l,Qe x:=by
 obtain⟨a0,f,n,rfl⟩:=okWide_slice hs R;obtain⟨Q,hf⟩:=h;rcases open_ints hs he Z hf with⟨c,_⟩|⟨a,S,M,I,c,_,hl,hm,hz,_,k,F⟩
 .simp [Value.cells]at c;obtain⟨rfl,rfl,rfl⟩:=c;exact⟨[],Zcx 1 Zx W,λx G=>by cases G⟩
 .simp [Value.cells]at c;obtain⟨rfl,rfl,rfl⟩:=c;obtain⟨g,w,V⟩:=a;obtain⟨s,D⟩:=Zu0 hs R;simp only at s;subst s;have a1:I.length=n:=by simpa using hz
  have m:(I.take f).length=f:=by rw [List.length_take];omega
  refine⟨I.take f,⟨⟨some ⟨g,w,none⟩,n,by rw [m],by rw [m];exact hl,hm,.inr ⟨g,w,rfl,λi x hi j u z=>?_⟩⟩,λb Y=>by cases Y.2;exact D⟩,λx G=>?_⟩
  .have y:i<f:=by
    rcases Nat.lt_or_ge i f with h|h
    .exact h
    .rw [List.getElem?_eq_none (by rw [m];exact h)]at hi;cases hi
   have B:j=0:=by
    rcases j with _|j
    .rfl
    .simp [Value.cells]at z
   subst B;have q:=k i O;rw [Ob]at q;rw [List.getElem?_take_of_lt y]at hi;rw [List.getD_eq_getElem?_getD,hi]at q;simp [Value.cells]at z;subst z;simpa using q
  .have q:=F x (List.mem_of_mem_take G);have h3:=bounds_i64 q;exact⟨O,O⟩
end Go.Sky
namespace Go.Sky
variable{P:Program}{f:FuncId}{args:Array Value}{pre:List Pc}{φ:Value×List (Int×SL)->Prop}
theorem Cal.toS     {al:Bool} 
  (h:Cal P f args pre al (G:=Value×List (Int×SL)) φ (λr=>r.1) (λr=>[pp r.1 r.2])) :
  Cal P f args pre al (G:=SL×List (Int×SL)) (λr=>φ (Yy r.1,r.2)) (λr=>Yy r.1) (λr=>[pp (Yy r.1) r.2]):=λw l=>by
 refine(h w l).mono λe n ⟨g,k,m,j,hi⟩=>?_;obtain⟨v,z⟩:=g;have b:=(hi _ (List.mem_cons_self ..)).1;obtain⟨a,c,d,_⟩:=Zg n b;have i:v=Yy (a,z.length,c):=d;subst i;exact⟨((a,z.length,c),z),k,m,j,hi⟩
abbrev qT (z:SL×List (Int×SL)):Pc:=pp (Yy z.1) z.2
abbrev T0:SL×List (Int×SL):=((none,0,0),[])
abbrev intsT (zs:List (SL×List (Int×SL))):List (List Int):=zs.map λz=>Yi z.2
set_option maxRecDepth 20000
theorem Ym4{K:Nat}{f:Nat->Int}{n:Nat}(h:∀i,i<n->bl (f i).natAbs<=K)(a:n<=1023):bl (Ye f n).natAbs<=K+10:=by rw [Qh];have b:=Zv8 h;have c:n*(2^K-1)<=1023*(2^K-1):=Nat.mul_le_mul_right _ a;have d:0<2^K:=Nat.two_pow_pos K;rw [Nat.pow_add];omega
theorem Eo(zs:List (Int×SL))(z:Int×SL):Yi (zs ++ [z])=Yi zs ++ [z.1]:=by simp [Yi]
def Ykr(p q:List Int):tzl (mk (max p.length q.length) λt=>cf p t+cf q t)=Fg p q:=rfl
theorem Zut(p:List Int)(c:Int):tzl (mk p.length λt=>cf p t*c)=Zq p c:=by rw [Zoj p (· * c)];rfl
def Yko(p q:List Int):tzl (mk (p.length+q.length-1) λt=>Ye (λk=>cf p k*cf q (t-k)) (t+1))=Qf p q:=rfl
theorem Nl(p:List Int)(c:Int):(Zq p c).length<=p.length:=by unfold Zq;have:=Ic (p.map (· * c));rwa [List.length_map]at this
theorem Kh{y:Int}(h:y≠0):∀n:Nat,y^n≠0
 | 0=>by rw [Int.pow_zero];omega
 | n+1=>by rw [Int.pow_succ];exact Int.mul_ne_zero (Kh h n) h
theorem Zu7(xs ys:List Int):xs.map wr=ys.map wr↔xs=ys:=by refine⟨λh=>?_,λh=>by rw [h]⟩;exact List.map_inj_right (λx y h=>Yb4 (congrArg Prod.fst h) (congrArg Prod.snd h)) |>.1 h
theorem Cal.imp2{m p q:Pc}{al:Bool}{G:Type}{φ:G->Prop}{Yf:G->Value}{i:G->List Pc}(h:Cal P f args (m::p::pre) al φ Yf i)(x:∀w,q.holds w->p.holds w)(u:∀b,p.fp b->q.fp b) :
  Cal P f args (m::q::pre) al φ Yf i:=λw k=>by
 refine(h w λr a=>?_).mono ?_
 .rcases List.mem_cons.1 a with rfl|a
  .exact k _ (List.mem_cons_self ..)
  .rcases List.mem_cons.1 a with rfl|a
   .exact x w (k q (List.mem_cons_of_mem _ (List.mem_cons_self ..)))
   .exact k r (List.mem_cons_of_mem _ (List.mem_cons_of_mem _ a))
 .rintro e z ⟨g,t,v,j,d⟩;refine⟨g,t,v,j,λy l=>?_⟩;obtain⟨n,o,s⟩:=d y l;refine⟨n,o,λb j=>?_⟩;rcases s b j with h|⟨h,r,a,c⟩
  .exact .inl h
  .refine .inr ⟨h,?_⟩;rcases List.mem_cons.1 a with rfl|a
   .exact⟨r,List.mem_cons_self ..,c⟩
   .rcases List.mem_cons.1 a with rfl|a
    .exact⟨q,List.mem_cons_of_mem _ (List.mem_cons_self ..),u b c⟩
    .exact⟨r,List.mem_cons_of_mem _ (List.mem_cons_of_mem _ a),c⟩
def shm(q:List Int)(c:Int)(s i:Nat):List Int:=mk (s+i) λt=>if t<s then 0 else c*cf q (t-s)
theorem Yhv(q:List Int)(c:Int)(s t:Nat):cf (shm q c s q.length) t=if s<=t/\t<s+q.length then c*cf q (t-s)else 0:=by
 unfold shm;rw [Lc];by_cases b:t<s
 .rw [if_neg (by omega:¬(s<=t/\t<s+q.length))];split
  .rfl
  .rfl
 .by_cases a:t<s+q.length
  .rw [if_pos a,if_neg b,if_pos (show s<=t/\t<s+q.length by omega)]
  .rw [if_neg a,if_neg (show ¬(s<=t/\t<s+q.length) by omega)]
section
variable {p q:List Int}
theorem Zjg(c:0<q.length)(b:q.length<=p.length):∀j,j<=p.length-q.length+1->∀t,p.length-j<=t->cf (Qw p q j) t=0
 | 0,_,t,d=>Yq (by unfold Qw;omega)
 | j+1,e,t,d=>by
  rcases Nat.lt_or_ge t p.length with h|h
  .unfold Qw;rw [Ztq (by rw [Lb];exact h)];by_cases a:t=p.length-1-j
   .subst a;rw [if_pos O,show p.length-1-j-(p.length-1-j-(q.length-1))=q.length-1 by omega];omega
   .rw [Zjg c b j O t O,Int.zero_mul,if_neg O];rfl
  .exact Yq (by rw [Lb];omega)
def RestInv(p q R:List Int)(j:Nat):Prop:=Tr R/\∀t,cf R t=cf (Qw p q j) t*cf q (q.length-1)^(p.length-q.length+1-j)
end
end Go.Sky
namespace Go.Sky
section
variable {P:Program} {N:Nat} {sc:Nat->Prop} {env env':Pd} {H H':Hp}
end
end Go.Sky
namespace Go.Sky
variable{P:Program}{sc M:Nat->Prop}{ops:Array Oper}{F i:Nat}{rest:List (Nat×Nat)}{b a s c:List Int}
def rterm(a b:Int):Nat->List Int
 | 0=>[1]
 | i+1=>Qf (rterm a b i) (tzl [a,b])
def rsum(p:List Int)(a b d:Int):Nat->List Int
 | 0=>[]
 | i+1=>Fg (rsum p a b d i) (Zq (rterm a b i) (cf p i*d^(p.length-1-i)))
def hs(f:Nat->PS):Nat->PS
 | 0=>0
 | n+1=>hs f n+f n
def Yeg(p:List Int):ps (tzl p)=ps p:=PS.ext' λi=>Kj p i
theorem C_c(n:Int)(i:Nat):(PS.C n).c i=if i=0 then n else 0:=by have h:=PS.C_mul_c n 1 i;rw [show PS.C n*1=PS.C n from PS.mul_one' _,PS.one_c]at h;rw [h];split<;>simp
abbrev RW:=List (Bool×ByteArray)
abbrev qR (z:SL×RW):Pc:=Yl 2 Zvm (Yy z.1) z.2
abbrev qZ (z:SL×List Int):Pc:=Yl 2 wv (Yy z.1) z.2
abbrev R0:SL×RW:=((none,0,0),[])
def short1(r:RW):Bool:=(decide (r.length<=14) || decide (r.length=26)) && r.all λc=>decide (c.2.size<=16)
def shortb(d:List RW):Bool:=d.all short1
def Zhm  {N:Nat}   {env:Pd} {H:Hp}  {F:Pd->Hp->Prop}   {o:Oper} {G:Type} {φ:G->Prop} {d:G->Pd} {k:G->Hp} {j e:Nat} {b:Bool} (p:ops[i]? = some o) (m:o.guard=some (j,b)) (n:(ops[j]?).bind (·.dst)=some e) (l:lk env e=some (.bool b)) (f:Nat.blt e N=true) (q:T P N sc M o env H φ d k)
  (h:∀g,φ g->LD P N sc M ops F rest (d g) (k g)) :
  LD P N sc M ops F ((i,1)::rest) env H:=r1g q p m n l f h
theorem Bc{f:Nat->Int}{k:Nat} : ∀{n:Nat},k<n->(∀i,i<n->i≠k->f i=0)->Ye f n=f k
 | 0,d,_=>absurd d (Nat.not_lt_zero _)
 | n+1,d,h=>by
  rw [Yn];by_cases e:k=n
  .subst e;rw [Gk λi hi=>h i O O,Int.zero_add]
  .rw [h n O (λx=>e x.symm),Bc O (λi hi=>h i O),Int.add_zero]
theorem Bn{p q:List Int}{a b:Nat}(d:∀i,a<i->cf p i=0)(e:∀i,b<i->cf q i=0):(ps p*ps q).c (a+b)=cf p a*cf q b:=by
 rw [PS.mul_c,Bc (k:=a) O λi hi f=>?_]
 .rw [Na,Na,show a+b-a=b by omega]
 .rw [Na,Na];rcases Nat.lt_or_ge a i with h|h
  .rw [d i h,Int.zero_mul]
  .rw [e (a+b-i) O,Int.mul_zero]
theorem Zjz(s e:List Int)(c d:Int)(f:PS)(t:Nat):(ps (Cj (Zq s c) (Zq e d))*f).c t=c*(ps s*f).c t-d*(ps e*f).c t:=by rw [PS.mul_c,PS.mul_c,PS.mul_c,<-Ml,Int.sub_eq_add_neg,<-Int.neg_mul,<-Ml,<-Ek];refine Xa λk _=>?_;rw [Na,Na,Na,Db,Yx,Yx];grind
theorem Yk4{q r:List Int}(o:Tr q)(e:q≠[])(h:∀t,(ps s*ps q).c t=cf r t)(u:∀t,q.length-1<=t->cf r t=0):∀t,cf s t=0:=by
 have d:=o.mem e;have l:0<q.length:=List.length_pos_iff.2 e;have hs:tzl s=[]:=by
  rcases Zh1 (tzl s)with f|⟨w,y,f⟩
  .exact f
  .exfalso;have v:=Xx s;have j:tzl s≠[]:=by rw [f];simp
   have m:=v.mem j;have k:=Bn (p:=tzl s) (q:=q) (a:=(tzl s).length-1) (b:=q.length-1) (λi hi=>Yq O) (λi hi=>Yq O);have n:ps (tzl s)=ps s:=PS.ext' λi=>Kj s i;rw [n,h,u _ O]at k;rcases Int.mul_eq_zero.1 k.symm with g|g
   .exact m g
   .exact d g
 exact(Lo s).1 hs
theorem Kg(h:∀t,cf s t=0)(f:PS)(t:Nat):(ps s*f).c t=0:=by rw [PS.mul_c];exact Gk λk _=>by rw [Na,h,Int.zero_mul]
theorem Ol{p q:List Int}(f:Tr p)(g:Tr q)(d:p≠[])(e:q≠[]):(Qf p q).length=p.length+q.length-1:=by have h:=List.length_pos_iff.2 d;have j:=List.length_pos_iff.2 e;unfold Qf;rw [Ao,Yw];right;rw [Yw,Lc,if_pos O,show p.length+q.length-1-1=(p.length-1)+(q.length-1) by omega,Bn (λi hi=>Yq O) (λi hi=>Yq O)];exact Int.mul_ne_zero (f.mem d) (g.mem e)
def mono(s:Nat)(c:Int):List Int:=List.replicate s 0 ++ [c]
theorem Zik(s:Nat)(c:Int)(i:Nat):cf (mono s c) i=if i=s then c else 0:=by
 unfold mono;rw [Zc9,List.length_replicate];split
 .rw [if_neg O];unfold cf;simp [List.getD_eq_getElem?_getD,List.getElem?_replicate];split<;>rfl
 .rename_i h;split
  .rename_i d;subst d;simp [cf]
  .exact Yq O8
theorem Zj0(s:Nat)(c:Int)(f:PS)(t:Nat):(ps (mono s c)*f).c t=if s<=t then c*f.c (t-s)else 0:=by
 rw [PS.mul_c];split
 .rw [Bc (k:=s) O λi _ d=>by rw [Na,Zik,if_neg d,Int.zero_mul],Na,Zik,if_pos rfl]
 .exact Gk λk e=>by rw [Na,Zik,if_neg O,Int.zero_mul]
theorem Zgh{p q:List Int}(r:0<q.length)(o:q.length<=p.length):∀j,j<=p.length-q.length+1->∃s:List Int,∀t,cf q (q.length-1)^j*cf p t=(ps s*ps q).c t+cf (Qw p q j) t
 | 0,_=>⟨[],λt=>by rw [Kg (λt=>Yq (Nat.zero_le _)),Int.pow_zero];unfold Qw;omega⟩
 | j+1,y=>by
  obtain⟨s,u⟩:=Zgh r o j O;refine⟨Cj (Zq s (cf q (q.length-1))) (Zq (mono (p.length-1-j-(q.length-1)) (cf (Qw p q j) (p.length-1-j))) (-1)),λt=>?_⟩;rw [Zjz,Zj0];have d:=u t;show _=_+cf (Zg6 q (Qw p q j) (p.length-1-j)) t;rw [Int.pow_succ];rcases Nat.lt_or_ge t p.length with h|h
  .rw [Ztq (by rw [Lb];exact h)];generalize p.length-1-j-(q.length-1)=g;generalize cf (Qw p q j) (p.length-1-j)=R;generalize cf (Qw p q j) t=m at d ⊢;generalize (ps s*ps q).c t=X at d ⊢;generalize cf q (q.length-1)^j=L at d ⊢;generalize cf q (q.length-1)=l at d ⊢;have e:L*l*cf p t=l*X+m*l:=by rw [Int.mul_assoc,Int.mul_comm l,<-Int.mul_assoc,d];grind
   rw [e];by_cases f:g<=t
   .rw [if_pos f,Na];by_cases n:t<g+q.length
    .rw [if_pos ⟨f,n⟩];omega
    .rw [if_neg O,Yq (p:=q) (i:=t-_) O];omega
   .rw [if_neg f,if_neg O];omega
  .have k:cf p t=0:=Yq h;have v:cf (Qw p q j) t=0:=Yq (by rw [Lb];exact h);have w:cf (Zg6 q (Qw p q j) (p.length-1-j)) t=0:=Yq (by rw [Zfg,Lb];exact h);have x:cf q (t-(p.length-1-j-(q.length-1)))=0:=Yq O;rw [k,v,Int.mul_zero,Int.add_zero]at d;rw [k,w,if_pos O,Na,x,<-d];simp
theorem Zaf(p:List Int){q:List Int}(e:q≠[]):∃(k:Nat) (s:List Int),∀t,cf q (q.length-1)^k*cf p t=(ps s*ps q).c t+cf (Qk p q) t:=by
 have d:0<q.length:=List.length_pos_iff.2 e;rcases Nat.lt_or_ge p.length q.length with h|h
 .refine⟨0,[],λt=>?_⟩;rw [Kg (λt=>Yq (Nat.zero_le _)),Int.pow_zero];unfold Qk;rw [if_pos h];omega
 .obtain⟨s,hs⟩:=Zgh d h _ (Nat.le_refl _);refine⟨p.length-q.length+1,s,λt=>?_⟩;rw [hs t];unfold Qk;rw [if_neg O,Kj]
theorem Pt(p:List Int){q:List Int}(e:q≠[]):(Qk p q).length<q.length:=by
 have d:0<q.length:=List.length_pos_iff.2 e;unfold Qk;split
 .assumption
 .have:=Za2 (p:=Qw p q (p.length-q.length+1)) (n:=q.length-1) λi hi=>Zjg d O _ (Nat.le_refl _) i O;omega
theorem Ip{p q:List Int}(d:Tr p):Tr (Qk p q):=by
 unfold Qk;split
 .exact d
 .exact Xx _
def Sim(a b:List Int):Prop:=∃m n:Int,m≠0/\n≠0/\∀i,m*cf a i=n*cf b i
def Sim.refl(a:List Int):Sim a a:=⟨1,1,O3,O3,λ_=>rfl⟩
def Sim.symm : Sim a b->Sim b a:=λ⟨m,n,d,e,h⟩=>⟨n,m,e,d,λi=>(h i).symm⟩
theorem Sim.trans : Sim a b->Sim b c->Sim a c:=λ⟨m,n,d,e,h⟩ ⟨u,v,f,g,k⟩=>
 ⟨m*u,n*v,Int.mul_ne_zero d f,Int.mul_ne_zero e g,λi=>by have j:=h i;have l:=k i;grind⟩
theorem Sim.zero(h:Sim a b)(hi:cf a i=0):cf b i=0:=by
 obtain⟨m,n,e,d,h⟩:=h;have:=h i;rw [hi,Int.mul_zero]at this;rcases Int.mul_eq_zero.1 this.symm with h|h
 .exact absurd h d
 .exact h
theorem Sim.len_le(h:Sim a b)(f:Tr b):b.length<=a.length:=by
 rcases Nat.lt_or_ge a.length b.length with e|e
 .exfalso;have d:b≠[]:=List.length_pos_iff.1 O;exact f.mem d (h.zero (Yq O))
 .exact e
def Sim.len(h:Sim a b)(d:Tr a)(e:Tr b):a.length=b.length:=Nat.le_antisymm (h.symm.len_le d) (h.len_le e)
theorem Sim.nil(h:Sim a b)(e:Tr b)(d:a=[]):b=[]:=by have:=h.len_le e;rw [d]at this;exact List.eq_nil_of_length_eq_zero (by simpa using this)
theorem Zbk(c:Int):∀(p:List Int) (g:Int),0<=g->(p.map (· * c)).foldl (λg c=>(Int.gcd g c:Int)) (g*c.natAbs)=p.foldl (λg c=>(Int.gcd g c:Int)) g*c.natAbs
 | [],g,_=>rfl
 | x::p,g,hg=>by
  rw [List.map_cons,List.foldl_cons,List.foldl_cons,<-Zbk c p _ O];congr 1;have:Int.gcd (g*(c.natAbs:Int)) (x*c)=Int.gcd g x*c.natAbs:=by unfold Int.gcd;rw [Int.natAbs_mul,Int.natAbs_mul,Int.natAbs_natCast,Nat.gcd_mul_right]
  rw [this];push_cast;rfl
theorem Zgl(p:List Int)(c:Int):Yo (p.map (· * c))=Yo p*c.natAbs:=by have:=Zbk c p 0 (Int.le_refl _);rw [Int.zero_mul]at this;exact this
theorem Hy(p:List Int)(i:Nat):cf (Zu p) i*Yo p=cf p i:=by rw [Zau];exact Int.ediv_mul_cancel (Ld p i)
def Yap:Zu []=[]:=rfl
def Bl{p:List Int}(h:Tr p)(d:p≠[]):Yo p≠0:=λe=>h.mem d ((Zbz p).1 e _)
theorem Lu{p:List Int}(h:Tr p)(e:p≠[]):Yo (Zu p)=1:=by
 have j:=Bl h e;have d:=Zgl (Zu p) (Yo p);rw [show(Zu p).map (· * Yo p)=p from Kv (by rw [List.length_map,Zw]) λi _=>by rw [Zcc _ _ O7];exact Hy p i]at d;have k:=Ov p;have f:Yo p*(Yo (Zu p)-1)=0:=by rw [Int.mul_sub,Int.mul_one,Int.mul_comm];have:((Yo p).natAbs:Int)=Yo p:=O;rw [this]at d;omega
 rcases Int.mul_eq_zero.1 f with g|g<;>omega
theorem Ze3{p:List Int}(h:Yo p=1):Zu p=p:=Kv (Zw p) λi _=>by rw [Zau,h,Int.ediv_one]
theorem Bj{p:List Int}(h:Tr p):Zu (Zu p)=Zu p:=by
 by_cases d:p=[]
 .subst d;rfl
 .exact Ze3 (Lu h d)
theorem Qr{p:List Int}(h:Tr p):Sim (Zu p) p:=by
 by_cases d:p=[]
 .subst d;exact Sim.refl _
 .exact⟨Yo p,1,Bl h d,O3,λi=>by rw [Int.one_mul,Int.mul_comm];exact Hy p i⟩
def Xg(p:List Int):List Int:=Hk (Zu p)
theorem Zi7{x y:List Int}(q:Tr x)(r:Tr y)(t:x≠[])(f:Yo x=1)(g:Yo y=1)(h:Sim x y):x=y\/∀i,cf x i=- cf y i:=by
 have d:=h.len q r;obtain⟨m,n,o,p,e⟩:=h;have j:=Zgl x m;have k:=Zgl y n;rw [show x.map (· * m)=y.map (· * n)from Kv (by simp [d]) λi _=>by rw [Zcc _ _ O7,Zcc _ _ O7,Int.mul_comm,Int.mul_comm (cf y i)];exact e i,k,f,g]at j
 have l:m=n\/m=-n:=O;rcases l with rfl|rfl
 .exact .inl (Kv d λi _=>Int.eq_of_mul_eq_mul_left o (e i))
 .exact .inr λi=>Int.eq_of_mul_eq_mul_left p (by have:=e i;grind)
theorem Fy(g:List Int)(i:Nat):cf (Hk g) i=if g.length≠0/\cf g (g.length-1)<0 then-cf g i else cf g i:=by
 unfold Hk;split
 .rw [Yx];omega
 .rfl
theorem Ot{g:List Int}(h:Tr g):Tr (Hk g):=by
 unfold Hk;split
 .exact Qb _ _
 .exact h
theorem Iu(g:List Int):Sim (Hk g) g:=by
 by_cases h:g.length≠0/\cf g (g.length-1)<0
 .exact⟨-1,1,O3,O3,λi=>by rw [Fy,if_pos h];omega⟩
 .exact⟨1,1,O3,O3,λi=>by rw [Fy,if_neg h]⟩
theorem Zxz(g:Tr a)(j:Tr b)(h:Sim a b):Xg a=Xg b:=by
 by_cases f:a=[]
 .rw [h.nil j f,f]
 .have m:b≠[]:=λe=>f (h.symm.nil g e);have hs:Sim (Zu a) (Zu b):=(Qr g).trans (h.trans (Qr j).symm);have p:=Xc g;have k:=Xc j;have n:=hs.len p k;have d:Zu a≠[]:=λe=>f (List.eq_nil_of_length_eq_zero (by rw [<-Zw,e];rfl));rcases Zi7 p k d (Lu g f) (Lu j m) hs with e|e
  .unfold Xg;rw [e]
  .unfold Xg;refine(Ot p).ext (Ot k) λi=>?_;rw [Fy,Fy,<-n,e i,e ((Zu a).length-1)];have r:cf (Zu b) ((Zu a).length-1)≠0:=by rw [n];exact k.mem (λl=>d (List.eq_nil_of_length_eq_zero (by rw [n,l];rfl)))
   have o:(Zu a).length≠0:=λl=>d (List.eq_nil_of_length_eq_zero l);by_cases q:cf (Zu b) ((Zu a).length-1)<0
   .rw [if_neg O,if_pos ⟨o,q⟩]
   .rw [if_pos O,if_neg O];omega
theorem Zsx:∀(f:Nat) {a b:List Int},Tr a->Tr b->Tr (eu f a b)
 | 0,_,_,h,_=>h
 | f+1,a,b,d,e=>by
  unfold eu;split
  .exact d
  .exact Zsx f e (Xc (Ip d))
theorem Zyo:∀(f:Nat) {a b:List Int},Tr a->Tr b->Zu a=a->Zu b=b->Zu (eu f a b)=eu f a b
 | 0,_,_,_,_,h,_=>h
 | f+1,a,b,d,j,e,g=>by
  unfold eu;split
  .exact e
  .exact Zyo f j (Xc (Ip d)) g (Bj (Ip d))
theorem Ziy{p q:List Int}(d:Tr p)(e:Tr q):Tr (gA p q):=by unfold gA;split<;>exact Xc ‹_›
theorem Zix{p q:List Int}(d:Tr p)(e:Tr q):Tr (gB p q):=by unfold gB;split<;>exact Xc ‹_›
theorem Yew{p q:List Int}(d:Tr p)(e:Tr q):Mb F p q=Xg (eu F (gA p q) (gB p q)):=by
 unfold Mb Xg;rw [Zyo F (Ziy d e) (Zix d e)]
 .unfold gA;split
  .exact Bj e
  .exact Bj d
 .unfold gB;split
  .exact Bj d
  .exact Bj e
def chk:Nat->Nat->Nat->Nat->Nat->Bool
 | 0,_,d,_,_=>Nat.beq d 0
 | f+1,e,d,A,B=>Nat.beq d 0 || (bif Nat.blt e d then chk f d e B A else
   Nat.ble (A+(e-d+1)*B) 65537 && (List.range d).all λl=>chk f d l B (bif Nat.ble l 1 then 2 else A+(e-d+1)*B))
theorem cp_nf{p:List Int}{x y z:Int}{n m:Nat}(d:Sz n p)(k:bl x.natAbs<=m)(l:bl y.natAbs<=m)(o:bl z.natAbs<=m)(j:p.length<=25)(h:n+24*(m+1)+8<=65536):Qx p+(p.length-1)*(Qx [x,y,z]+1)+8<=65536:=by
 have e:=Pr d;have f:Qx [x,y,z]<=m:=by simp only [Qx];omega
 have g:(p.length-1)*(Qx [x,y,z]+1)<=24*(m+1):=Nat.mul_le_mul O O;omega
theorem cp_not{p:List Int}{x y z:Int}(h:Qx p+(p.length-1)*(Qx [x,y,z]+1)+8<=65536):¬Zkw p x y z:=λd=>by have:=d.2;omega
theorem Zd1(p:List Int)(x y z:Int):(Ks p x y z).length<=p.length:=by
 unfold Ks;split
 .exact Nat.zero_le _
 .refine Nat.le_trans (Ic _) ?_;rw [Zb4];omega
theorem Zse(x y:Int):Mv x y∣x:=by
 unfold Mv;split
 .exact Int.neg_dvd.2 (Int.gcd_dvd_left ..)
 .exact Int.gcd_dvd_left ..
theorem Zj5(x y:Int):Mv x y∣y:=by
 unfold Mv;split
 .exact Int.neg_dvd.2 (Int.gcd_dvd_right ..)
 .exact Int.gcd_dvd_right ..
def s8(l:List Int):Prop:=∀x∈l,(Xy x.natAbs).size<=8
abbrev Z0:SL×List Int:=((none,0,0),[])
theorem vp_eu:∀(f:Nat) {a b:List Int},Vp a->Vp b->eok f a b->Vp (eu f a b)
 | 0,_,_,h,_,_=>h
 | f+1,a,b,d,e,h=>by
  unfold eu;split
  .exact d
  .rcases h with h|h
   .contradiction
   .exact vp_eu f e (Im (Zbr d h.1)) h.2
theorem Yb9{g:List Int}(h:Vp g):Vp (Hk g):=by
 unfold Hk;split
 .refine⟨λi=>by rw [Yx];exact Zbh h.sz i,Qb _ _,Nat.le_trans (Nl _ _) h.len⟩
 .exact h
def Yi4{p q:List Int}(d:Vp p)(e:Vp q)(h:eok F (gA p q) (gB p q)):Vp (Mb F p q):=Yb9 (vp_eu F (vp_gA d e) (vp_gB d e) h)
def pevn(p:List Int)(x y:Int)(n:Nat):Int:=Ye (λi=>cf p i*(x^i*y^(n-1-i))) n
def dn(p:List Int)(y:Int):Int:=y^(p.length-1)
def Gx(q:List Int):Qf [] q=[]:=Zai (.inl rfl)
def Za9(p:List Int):Qf p []=[]:=Zai (.inr rfl)
theorem Yfr(N D:Int):N/Mv N D*D=N*(D/Mv N D):=by have e:=Int.ediv_mul_cancel (Zse N D);have f:=Int.ediv_mul_cancel (Zj5 N D);generalize N/Mv N D=n at *;generalize D/Mv N D=d at *;generalize Mv N D=g at *;subst e f;grind
theorem Ya4{N D:Int}(h:0<D):0<D/Mv N D:=by
 have f:Mv N D=(Int.gcd N D:Int):=if_neg O;have g:=Int.ediv_mul_cancel (Zj5 N D);rw [f]at g ⊢;generalize D/(Int.gcd N D:Int)=d at *;rcases Int.lt_or_le 0 d with e|e
 .exact e
 .exfalso;have:d*(Int.gcd N D:Int)<=0:=Int.mul_nonpos_of_nonpos_of_nonneg e O;omega
section
variable {p q:List Int}
theorem Zd6(v:Tr p)(m:Tr q)(h:p≠[])(e:q≠[]):∀j,j<=p.length->∀t,cf (Pa (Qf p q) q j) t=(ps (p.take (p.length-j))*ps q).c t
 | 0,_,t=>by rw [Nat.sub_zero,List.take_length];exact Ix p q t
 | j+1,B,t=>by
  have w:=Zd6 v m h e j O;have D:=List.length_pos_iff.2 h;have G:=List.length_pos_iff.2 e;have u:=Ol v m h e;have y:Pa (Qf p q) q (j+1)=Zkr q (Pa (Qf p q) q j) (p.length-1-j):=by show Zkr q _ _=_;rw [u];congr 1;omega
  have n:=m.mem e;have d:cf (Pa (Qf p q) q j) (p.length-1-j+q.length-1)=cf p (p.length-1-j)*cf q (q.length-1):=by rw [w,show p.length-1-j+q.length-1=(p.length-1-j)+(q.length-1) by omega,Bn (λi hi=>by rw [Fw,if_neg O]) (λi hi=>Yq O),Fw,if_pos O]
  have l:dq q (Pa (Qf p q) q j) (p.length-1-j)=cf p (p.length-1-j):=by unfold dq;rw [d];exact Int.mul_ediv_cancel _ n
  have z:(ps (p.take (p.length-j))*ps q).c t=(ps (p.take (p.length-(j+1)))*ps q).c t+(ps (mono (p.length-1-j) (cf p (p.length-1-j)))*ps q).c t:=by
   rw [PS.mul_c,PS.mul_c,PS.mul_c,<-Ek];refine Xa λk _=>?_;rw [Na,Na,Na,Na,Fw,Fw,Zik];by_cases f:k=p.length-1-j
   .rw [if_pos O,if_neg O,if_pos f,<-f];omega
   .rw [if_neg f];by_cases o:k<p.length-j
    .rw [if_pos o,if_pos O];omega
    .rw [if_neg o,if_neg O];omega
  rw [y];unfold Zkr;rw [Lc,Aw,u,l,w,z,Zj0,Na];by_cases r:t<p.length+q.length-1
  .rw [if_pos r];by_cases g:p.length-1-j<=t
   .rw [if_pos g];by_cases x:t<p.length-1-j+q.length
    .rw [if_pos ⟨g,x⟩];omega
    .rw [if_neg O,Yq (p:=q) O];omega
   .rw [if_neg g,if_neg O];omega
  .rw [if_neg r,PS.mul_c];refine(Gk λk _=>?_).symm;rw [Na,Na,Fw];split
   .rw [Yq (p:=q) O,Int.mul_zero]
   .rw [Int.zero_mul]
theorem Zn7(j:Tr p)(l:Tr q)(e:q≠[]):pdv (Qf p q) q/\Kr (Qf p q) q=p:=by
 by_cases d:p=[]
 .subst d;rw [Gx];exact⟨.inl rfl,rfl⟩
 have u:=List.length_pos_iff.2 d;have v:=List.length_pos_iff.2 e;have r:=Ol j l d e;have n:=l.mem e;have o:∀k,k<=p.length-1->cf (Pa (Qf p q) q (p.length-1-k)) (k+q.length-1)=cf p k*cf q (q.length-1):=λk f=>by rw [Zd6 j l d e _ O,show k+q.length-1=k+(q.length-1) by omega,Bn (λi hi=>by rw [Fw,if_neg O]) (λi hi=>Yq O),Fw,if_pos O]
 have h:(Qf p q).length-q.length=p.length-1:=O;have m:Qf p q≠[]:=List.length_pos_iff.1 O;refine⟨.inr ⟨O,λk f=>?_,?_⟩,?_⟩
 .unfold Iv;rw [h]at f ⊢;rw [o k f];exact Int.mul_emod_left _ _
 .rw [h,show p.length-1+1=p.length by omega];refine(Lo _).2 λi=>?_;rw [Zd6 j l d e _ (Nat.le_refl _),Nat.sub_self,List.take_zero];exact Kg (λt=>Yq (Nat.zero_le _)) _ _
 .rw [Zrr m];unfold Yel;rw [h,show p.length-1+1=p.length by omega,Gh (g:=cf p) λk f=>?_,Zcz,Ao j];unfold Zyz dq;rw [h,o k O];exact Int.mul_ediv_cancel _ n
end
def Dv(g a:List Int):Prop:=∃(k:Int) (s:List Int),k≠0/\∀t,k*cf a t=(ps s*ps g).c t
theorem Zr0(f:PS)(t:Nat):(ps [1]*f).c t=f.c t:=by rw [PS.mul_c,Bc (k:=0) O λi _ d=>by rw [Na,Yq (p:=[1]) O8,Int.zero_mul],Na,show cf [1] 0=1 from rfl,Int.one_mul,Nat.sub_zero]
theorem Dv.refl(a:List Int):Dv a a:=⟨1,[1],O3,λt=>by rw [Zr0,Int.one_mul,Na]⟩
theorem Dv.nil(g:List Int):Dv g []:=⟨1,[],O3,λt=>by rw [Kg (λt=>Yq (Nat.zero_le _)),Yq (Nat.zero_le _)];rfl⟩
theorem Dv.sim{g:List Int} : Dv g a->Sim a b->Dv g b:=λ⟨k,s,d,h⟩ ⟨m,n,j,f,e⟩=>
 ⟨k*n,Zq s m,Int.mul_ne_zero d f,λt=>by rw [PS.mul_c,show(λi=>(ps (Zq s m)).c i*(ps g).c (t-i))=λi=>m*((ps s).c i*(ps g).c (t-i))from funext λi=>by rw [Na,Na,Na,Yx];grind,Ml,<-PS.mul_c,<-h,Int.mul_assoc,<-e];grind⟩
theorem Dv.lin{g:List Int}(r:Dv g a)(w:Dv g b)(s:List Int)(L:Int)(o:L≠0)(h:∀t,L*cf c t=(ps s*ps a).c t+cf b t):Dv g c:=by
 obtain⟨k,u,x,j⟩:=r;obtain⟨m,v,y,l⟩:=w;refine⟨L*(k*m),Fg (Zq (Qf s u) m) (Zq v k),Int.mul_ne_zero o (Int.mul_ne_zero x y),λt=>?_⟩;have z:ps g=ps g:=rfl;have d:k*(ps s*ps a).c t=(ps (Qf s u)*ps g).c t:=by rw [Znz,PS.mul_assoc',PS.mul_c,PS.mul_c,<-Ml];refine Xa λi _=>?_;rw [<-j,Na,Na];grind
 have e:(ps (Fg (Zq (Qf s u) m) (Zq v k))*ps g).c t=m*(ps (Qf s u)*ps g).c t+k*(ps v*ps g).c t:=by rw [PS.mul_c,PS.mul_c,PS.mul_c,<-Ml,<-Ml,<-Ek];refine Xa λi _=>?_;rw [Na,Na,Na,Na,Cq,Yx,Yx];grind
 have f:=h t;have n:=l t;rw [e,<-d,<-n];generalize (ps s*ps a).c t=X at *;generalize cf c t=C at *;generalize cf b t=B at *;have:L*(k*m)*C=k*m*(L*C):=O4;rw [this,f];grind
theorem eu_dv:∀(f:Nat) {a b:List Int},Tr a->Tr b->eok f a b->Dv (eu f a b) a/\Dv (eu f a b) b
 | 0,a,b,l,g,h=>by rw [show b=[]from h];exact⟨Dv.refl _,Dv.nil _⟩
 | f+1,a,b,l,g,h=>by
  by_cases d:b=[]
  .subst d;rw [Zgq];exact⟨Dv.refl _,Dv.nil _⟩
  .rcases h with h|h
   .exact absurd h d
   .have e:eu (f+1) a b=eu f b (Zu (Qk a b)):=by
     conv=>lhs;unfold eu
     rw [if_neg d]
    rw [e];have t1:=Ip (q:=b) l;obtain⟨j,m⟩:=eu_dv f g (Xc t1) h.2;obtain⟨k,s,hs⟩:=Zaf a d;exact⟨j.lin (m.sim (Qr t1)) s _ (Kh (g.mem d) k) hs,j⟩
theorem Dv.of_sim{g d:List Int} : Dv g a->Sim g d->Dv d a:=λ⟨k,s,f,h⟩ ⟨m,n,j,l,e⟩=>
 ⟨m*k,Zq s n,Int.mul_ne_zero j f,λt=>by rw [Int.mul_assoc,h,PS.mul_c,PS.mul_c,<-Ml];refine Xa λi _=>?_;rw [Na,Na,Na,Na,Yx];have:=e (t-i);grind⟩
theorem Dv.zero(f:Tr a)(h:Dv [] a):a=[]:=by
 obtain⟨k,s,g,h⟩:=h;rw [<-Ao f,Lo];intro i;have e:=h i;rw [PS.mul_comm',Kg (λt=>Yq (Nat.zero_le _))]at e;rcases Int.mul_eq_zero.1 e with d|d
 .exact absurd d g
 .exact d
theorem Zcs{p q:List Int}(g:Tr p)(j:Tr q)(h:eok F (gA p q) (gB p q)):Dv (Mb F p q) p/\Dv (Mb F p q) q:=by
 have k:=Ziy g j;have l:=Zix g j;obtain⟨d,e⟩:=eu_dv F k l h;have hs:Sim (eu F (gA p q) (gB p q)) (Mb F p q):=(Iu _).symm;have d:=d.of_sim hs;have e:=e.of_sim hs;by_cases f:p.length<q.length
 .rw [show gA p q=Zu q from if_pos f]at d;rw [show gB p q=Zu p from if_pos f]at e;exact⟨e.sim (Qr g),d.sim (Qr j)⟩
 .rw [show gA p q=Zu p from if_neg f]at d;rw [show gB p q=Zu q from if_neg f]at e;exact⟨d.sim (Qr g),e.sim (Qr j)⟩
def Zem{p q:List Int}(d:Tr p)(e:Tr q):Tr (Mb F p q):=Ot (Zsx F (Ziy d e) (Zix d e))
theorem Zdt(p:List Int){c:Int}(h:c≠0):Sim p (Zq p c):=⟨c,1,h,O3,λi=>by rw [Yx];grind⟩
def fin8(d A:Nat):Bool:=Nat.ble d 2 || Nat.ble (64+(9-d)*A) 65536
def chk2:Nat->Nat->Nat->Nat->Nat->Bool
 | 0,d,_,A,_=>fin8 d A
 | f+1,d,e,A,B=>bif Nat.beq e 0 then fin8 d A else bif Nat.blt d e then chk2 f e d B A else
   (List.range e).all λl=>chk2 f e l B (bif Nat.ble l 1 then 2 else A+(d-e+1)*B)
def Zbc{g:List Int}(h:Tr g):(Hk g).length=g.length:=(Iu g).len (Ot h) h
theorem Zha(g:List Int):Yo (Hk g)=Yo g:=by
 have d:Yo (Hk g)∣Yo g:=Fe λi=>by
  have h:=Ld (Hk g) i;rw [Fy]at h;split at h
  .exact Int.dvd_neg.1 h
  .exact h
 have e:Yo g∣Yo (Hk g):=Fe λi=>by
  rw [Fy];split
  .exact Int.dvd_neg.2 (Ld g i)
  .exact Ld g i
 exact Int.dvd_antisymm (Ov _) (Ov _) d e
theorem Zjt{p q:List Int}(f:Tr p)(g:Tr q)(d:Mb F p q≠[]):Yo (Mb F p q)=1:=by rw [Yew f g]at d ⊢;unfold Xg at d ⊢;rw [Zha];refine Lu (Zsx F (Ziy f g) (Zix f g)) λe=>d ?_;rw [e];rfl
end Go.Sky
namespace Go.Sky
variable{a p xs:List Int}{P:Nat->Prop}
def Zad(xs:List Int):Prop:=xs.length=0\/(xs.length+2)*(xs.length+2)*(Qx xs+16)<=65536
instance (xs:List Int):Decidable (Zad xs):=by unfold Zad;infer_instance
def sqf(F:Nat)(xs:List Int):List Int:=Kr (Xg xs) (Mb F (Xg xs) (Xe (Xg xs)))
def Yjp(F:Nat)(xs:List Int):Prop:=(∀i,i<xs.length->bl (cf (Xg xs) (i+1)*((i:Int)+1)).natAbs<=65536)/\¬Zmt (Xg xs) (Xe (Xg xs))/\eok F (gA (Xg xs) (Xe (Xg xs))) (gB (Xg xs) (Xe (Xg xs)))/\
 Cn (Xg xs) (Mb F (Xg xs) (Xe (Xg xs)))=0/\pdv (Xg xs) (Mb F (Xg xs) (Xe (Xg xs)))
def Ng(x y:List Int):List Int:=if cf y (y.length-1)<0/\(x.length-y.length+1)%2=1 then Zu (Qk x y)else Zq (Zu (Qk x y)) (-1)
def cok:Nat->List Int->List Int->Prop
 | 0,_,y=>y=[]
 | f+1,x,y=>y=[]\/(Cn x y=0/\y.length<=x.length/\cok f y (Ng x y))
def Mt:Nat->List Int->List Int->List (List Int)
 | 0,x,_=>[x]
 | f+1,x,y=>if y=[]then [x]else x::Mt f y (Ng x y)
theorem Bf(f:Nat)(x:List Int):Mt f x []=[x]:=by cases f<;>rfl
theorem Zkz{f:Nat}{b:List Int}(h:cok f a b)(c:b≠[]):∃g,f=g+1/\Cn a b=0/\b.length<=a.length/\cok g b (Ng a b)/\Mt f a b=a::Mt g b (Ng a b):=by
 cases f with
 | zero=>exact absurd h c
 | succ g=>
  rcases h with h|h
  .exact absurd h c
  .exact⟨g,rfl,h.1,h.2.1,h.2.2,by show(if b=[]then [a]else _)=_;rw [if_neg c]⟩
def chn(F:Nat)(xs:List Int):List (List Int):=Mt F (sqf F xs) (Zu (Xe (sqf F xs)))
def Bs(F:Nat)(xs:List Int):Prop:=Yjp F xs/\(∀i,i<xs.length->bl (cf (sqf F xs) (i+1)*((i:Int)+1)).natAbs<=65536)/\cok F (sqf F xs) (Zu (Xe (sqf F xs)))
theorem Yb8(h:Vp p):Vp (Xg p):=by
 unfold Xg;have b:=Im h;refine⟨λi=>?_,Ot b.tr,by rw [Zbc b.tr];exact b.len⟩;rw [Fy];split
 .rw [Int.natAbs_neg];exact b.sz i
 .exact b.sz i
theorem Pi(h:Tr p):(Xg p).length=p.length:=by unfold Xg;rw [Zbc (Xc h),Zw]
theorem Zqk{x y:List Int}(c:Vp x)(b:Cn x y=0):Vp (Ng x y):=by
 have h:=Im (Zbr c b);unfold Ng;split
 .exact h
 .exact⟨λi=>by rw [Yx];exact Zbh h.sz i,Qb _ _,Nat.le_trans (Nl _ _) h.len⟩
def Mh(s:Int×Int)(x:Int):Int×Int:=if x=0 then s else(if x=-s.2 then s.1+1 else s.1,x)
def chg(l:List Int):Int:=(l.foldl Mh (0,0)).1
def Zd2{α β:Type}(f:α->β->α)(a:α)(l:List β)(x:β):(l ++ [x]).foldl f a=f (l.foldl f a) x:=O7
theorem chg1_n(s:Int×Int)(x:Int):(Mh s x).1=s.1\/(Mh s x).1=s.1+1:=by
 unfold Mh;split
 .exact .inl rfl
 .dsimp only;split
  .exact .inr rfl
  .exact .inl rfl
def sgs(b:List (List Int))(x y:Int):List Int:=b.map λp=>(pev p x y).sign
def sgr(b:List (List Int)):List Int:=b.map λp=>(cf p (p.length-1)).sign
def sgl(b:List (List Int)):List Int:=b.map λp=>if p.length%2=0 then-(cf p (p.length-1)).sign else(cf p (p.length-1)).sign
def smost(xs:List Int):Nat:=(xs.take (xs.length-1)).foldl (λm c=>max m c.natAbs) 0
def sbound(xs:List Int):Int:=((smost xs/(cf xs (xs.length-1)).natAbs:Nat):Int)+2
def Zvy(xs:List Int):Int:=if xs.length=0 then 3 else if Zad xs then 0 else 7
def ef(z:Int×Int):Bool:=decide (512<bl z.1.natAbs) || decide (512<bl z.2.natAbs)
def chk2r(xs:List Int)(x y b c:Int):Int:=if xs.length=0 then 3 else if 0<x*c-b*y then 3 else if Zad xs/\ef (x,y)=false/\ef (b,c)=false then 0 else 7
theorem Yms(b:xs≠[])(h:Zad xs):Zvy xs=0:=by unfold Zvy;rw [if_neg (λe=>b (List.eq_nil_of_length_eq_zero e)),if_pos h]
theorem Zoc(h:¬cf (Zu xs) ((Zu xs).length-1)<0):Xg xs=Zu xs:=by unfold Xg Hk;rw [if_neg O]
theorem Zod(b:(Zu xs).length≠0)(h:cf (Zu xs) ((Zu xs).length-1)<0):Xg xs=Zq (Zu xs) (-1):=by unfold Xg Hk;rw [if_pos ⟨b,h⟩]
theorem Zd3 : ∀n,P n->∃m,P m/\∀k,k<m->¬P k:=by
 intro n
 induction n using Nat.strongRecOn with
 | _ n e=>
  intro h;by_cases d:∃k,k<n/\P k
  .obtain⟨k,c,b⟩:=d;exact e k c b
  .exact⟨n,h,λk c b=>d ⟨k,c,b⟩⟩
theorem Ya6{n:Nat}(h:2<=n):∃p,2<=p/\p∣n/\∀d,2<=d->d∣n->p<=d:=by
 obtain⟨p,⟨e,f⟩,g⟩:=Zd3 (P:=λd=>2<=d/\d∣n) n ⟨h,Nat.dvd_refl n⟩;exact⟨p,e,f,λd i c=>by
  rcases Nat.lt_or_ge d p with b|b
  .exact absurd ⟨i,c⟩ (g d b)
  .exact b⟩
theorem Zsm{n p:Nat}(m:2<=p)(g:p∣n)(i:∀d,2<=d->d∣n->p<=d)(r:0<n){x y:Int}(h:(p:Int)∣x*y):(p:Int)∣x\/(p:Int)∣y:=by
 by_cases f:(p:Int)∣x
 .exact .inl f
 .right;have k:Nat.gcd p x.natAbs=1:=by
   have e:=Nat.gcd_dvd_left p x.natAbs;have l:0<Nat.gcd p x.natAbs:=Nat.gcd_pos_of_pos_left _ O;rcases Nat.lt_or_ge (Nat.gcd p x.natAbs) 2 with b|b
   .omega
   .have o:=i _ b (Nat.dvd_trans e g);have q:=Nat.le_of_dvd O e;exfalso;refine f (Int.natAbs_dvd_natAbs.1 ?_);rw [Int.natAbs_natCast];have j:Nat.gcd p x.natAbs=p:=O;rw [<-j];exact Nat.gcd_dvd_right _ _
  have c:=Int.natAbs_dvd_natAbs.2 h;rw [Int.natAbs_natCast,Int.natAbs_mul]at c;refine Int.natAbs_dvd_natAbs.1 ?_;rw [Int.natAbs_natCast];exact(show Nat.Coprime p x.natAbs from k).dvd_of_dvd_mul_left c
theorem gauss{g:List Int}(hg:Yo g=1):∀(n:Nat) (k:Int) (s:List Int),k.natAbs=n->k≠0->(∀t,k*cf a t=(ps s*ps g).c t)->∃q:List Int,∀t,cf a t=(ps q*ps g).c t:=by
 intro n
 induction n using Nat.strongRecOn with
 | _ n ih=>
  intro k s l S h;rcases Nat.lt_or_ge n 2 with N|N
  .have F:k*k=1:=by have:k=1\/k=-1:=O;rcases this with e|e<;>subst e<;>rfl
   refine⟨Zq s k,λt=>?_⟩;have e:(ps (Zq s k)*ps g).c t=k*(ps s*ps g).c t:=by rw [PS.mul_c,PS.mul_c,<-Ml];exact Xa λi _=>by rw [Na,Na,Na,Yx];grind
   rw [e,<-h,<-Int.mul_assoc,F,Int.one_mul]
  .obtain⟨p,V,W,pm⟩:=Ya6 N;have H:∀{x y:Int},(p:Int)∣x*y->(p:Int)∣x\/(p:Int)∣y:=Zsm V W pm O;have o:(p:Int)∣k:=Int.natAbs_dvd_natAbs.1 (by rw [Int.natAbs_natCast,l];exact W);have v:∃j,¬(p:Int)∣cf g j:=Classical.byContradiction λr=>by have:(p:Int)∣Yo g:=Fe λi=>Classical.byContradiction λhy=>r ⟨i,hy⟩;rw [hg]at this;have:=Int.le_of_dvd O3 this;omega
   obtain⟨j0,B⟩:=v;obtain⟨j,hj,D⟩:=Zd3 (P:=λj=>¬(p:Int)∣cf g j) j0 B;have hs:∀i,(p:Int)∣cf s i:=λi0=>Classical.byContradiction λw=>by
    obtain⟨i,hi,z⟩:=Zd3 (P:=λi=>¬(p:Int)∣cf s i) i0 w;have Q:=h (i+j);rw [PS.mul_c]at Q;have M:∀m,m<=i+j+1->(p:Int)∣Ye (λk=>if k=i then 0 else(ps s).c k*(ps g).c (i+j-k)) m:=λm=>by
     induction m with
     | zero=>intro _;exact Int.dvd_zero _
     | succ m I=>
      intro hm;rw [Yn];refine Int.dvd_add (I O) ?_;split
      .exact Int.dvd_zero _
      .rename_i a0;rw [Na,Na];rcases Nat.lt_or_ge m i with u|u
       .exact Int.dvd_trans (Classical.byContradiction λr=>z m u r) (Int.dvd_mul_right _ _)
       .exact Int.dvd_trans (Classical.byContradiction λr=>D (i+j-m) O r) (Int.dvd_mul_left _ _)
    have Y:Ye (λk=>(ps s).c k*(ps g).c (i+j-k)) (i+j+1)=Ye (λk=>if k=i then 0 else(ps s).c k*(ps g).c (i+j-k)) (i+j+1)+cf s i*cf g j:=by
     have Z:Ye (λk=>(ps s).c k*(ps g).c (i+j-k)) (i+j+1)=Ye (λk=>(if k=i then 0 else(ps s).c k*(ps g).c (i+j-k))+(if k=i then(ps s).c k*(ps g).c (i+j-k)else 0)) (i+j+1):=
      Xa λk _=>by split<;>omega
     rw [Z,Ek,Bc (f:=λk=>if k=i then(ps s).c k*(ps g).c (i+j-k)else 0) (k:=i) O (λq _ hq=>if_neg hq),if_pos rfl,Na,Na,show i+j-i=j by omega]
    rw [Y]at Q;have u:(p:Int)∣cf s i*cf g j:=by have d:cf s i*cf g j=k*cf a (i+j)-Ye (λk=>if k=i then 0 else(ps s).c k*(ps g).c (i+j-k)) (i+j+1):=O;rw [d];exact Int.dvd_sub (Int.dvd_trans o (Int.dvd_mul_right _ _)) (M _ (Nat.le_refl _))
    rcases H u with d|d
    .exact hi d
    .exact hj d
   obtain⟨c,b⟩:=o;have G:(p:Int)≠0:=O;refine ih c.natAbs ?_ c (s.map (· / (p:Int))) rfl ?_ ?_
   .rw [<-l,b,Int.natAbs_mul,Int.natAbs_natCast];have:0<c.natAbs:=by
     rcases Nat.eq_zero_or_pos c.natAbs with R|R
     .rw [show c=0 by omega]at b;simp at b;exact absurd b S
     .exact R
    have:=Nat.mul_le_mul_right c.natAbs V;omega
   .intro e;rw [e]at b;simp at b;exact S b
   .intro t;refine Int.eq_of_mul_eq_mul_left G ?_;rw [<-Int.mul_assoc,<-b,h,PS.mul_c,PS.mul_c,<-Ml];refine Xa λi _=>?_;rw [Na,Na,Na,Zcc _ _ O7,<-Int.mul_assoc,Int.mul_ediv_cancel' (hs i)]
def ev1:List Int->Int->Int
 | [],_=>0
 | c::r,t=>c+t*ev1 r t
def sdv:List Int->Int->List Int
 | [],_=>[]
 | [_],_=>[]
 | _::c::r,t=>ev1 (c::r) t::sdv (c::r) t
theorem Zj8:∀(u:List Int) (t:Int),(sdv u t).length=u.length-1
 | [],_=>rfl
 | [_],_=>rfl
 | _::c::r,t=>by unfold sdv;rw [List.length_cons,Zj8 (c::r) t];simp
theorem Zym:∀(u:List Int) (t x:Int),ev1 u x=ev1 u t+(x-t)*ev1 (sdv u t) x
 | [],t,x=>by simp [ev1,sdv]
 | [c],t,x=>by simp [ev1,sdv]
 | a::c::r,t,x=>by have b:=Zym (c::r) t x;show a+x*ev1 (c::r) x=a+t*ev1 (c::r) t+(x-t)*(ev1 (c::r) t+x*ev1 (sdv (c::r) t) x);rw [b];generalize ev1 (c::r) t=A;generalize ev1 (sdv (c::r) t) x=B;grind
theorem De(a:Int)(u:List Int)(i:Nat):cf (a::u) i=if i=0 then a else cf u (i-1):=by
 cases i with
 | zero=>rfl
 | succ i=>simp [cf]
def Zbg(i:Nat):cf [] i=0:=Yq (Nat.zero_le _)
theorem Yhw:∀(u:List Int) (t:Int) (i:Nat),cf u (i+1)=cf (sdv u t) i-t*cf (sdv u t) (i+1)
 | [],t,i=>by unfold sdv;simp [Zbg]
 | [c],t,i=>by unfold sdv;rw [De,if_neg O];simp [Zbg]
 | a::c::r,t,i=>by
  unfold sdv;rw [De,if_neg O,Nat.add_sub_cancel];cases i with
  | zero=>
   rw [De,if_pos rfl,De,if_pos rfl,De,if_neg O];show c=ev1 (c::r) t-t*cf (sdv (c::r) t) 0
   match r with
   | []=>simp [ev1,sdv,cf]
   | d::r'=>unfold sdv;rw [De,if_pos rfl];show c=(c+t*ev1 (d::r') t)-_;omega
  | succ i=>
   rw [De _ (sdv _ _) (i+1),if_neg O,De _ (sdv _ _),if_neg O,Nat.add_sub_cancel,Nat.add_sub_cancel];exact Yhw (c::r) t i
theorem Ymv:∀(u:List Int) (t:Int),cf u 0=ev1 u t-t*cf (sdv u t) 0
 | [],t=>by simp [ev1,sdv,cf]
 | [c],t=>by simp [ev1,sdv,cf]
 | a::c::r,t=>by unfold sdv;rw [De,if_pos rfl,De,if_pos rfl];show a=(a+t*ev1 (c::r) t)-t*ev1 (c::r) t;omega
theorem Zre:∀(n:Nat) (u:List Int) (R:List Int),u.length=n->(∃i,cf u i≠0)->R.Nodup->(∀t∈R,ev1 u t=0)->R.length<n
 | 0,u,R,d,b,_,_=>by obtain⟨i,hi⟩:=b;rw [List.eq_nil_of_length_eq_zero d,Zbg]at hi;exact absurd rfl hi
 | n+1,u,[],d,b,_,_=>O7
 | n+1,u,t::R,d,b,hd,hR=>by
  have f:=hR t (List.mem_cons_self ..);have l:=Zj8 u t;have j:∃i,cf (sdv u t) i≠0:=Classical.byContradiction λc=>by
   have e:∀i,cf (sdv u t) i=0:=λi=>Classical.byContradiction λk=>c ⟨i,k⟩;obtain⟨i,hi⟩:=b;cases i with
   | zero=>rw [Ymv u t,f,e]at hi;simp at hi
   | succ i=>rw [Yhw u t,e,e]at hi;simp at hi
  have:=Zre n (sdv u t) R O j (List.nodup_cons.1 hd).2 λx c=>by
   have g:=hR x (List.mem_cons_of_mem _ c);rw [Zym u t x,f,Int.zero_add]at g;rcases Int.mul_eq_zero.1 g with h|h
   .exfalso;have:x=t:=O;subst this;exact(List.nodup_cons.1 hd).1 c
   .exact h
  simp;omega
def kk:Nat->Nat
 | 0=>0
 | d+1=>30*kk d+1
def pts:List Int:=[0,1,2,3,4,5,6,7,8,9,10,11,12,13,14]
end Go.Sky

