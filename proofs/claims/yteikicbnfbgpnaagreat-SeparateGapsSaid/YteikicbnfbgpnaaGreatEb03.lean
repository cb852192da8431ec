/- Rules, arithmetic and contracts: part 4. No conditions but those that each theorem names. -/
import Derived.Test.YteikicbnfbgpnaaGreatEb02
import Derived.Test.YteikicbnfbgpnaaGreatProg
import Derived.Test.YteikicbnfbgpnaaGreatRows
import Derived.WalkKit
import Derived.ProofKit
import Derived.OpenShut
import Derived.ShutString
import Derived.ChangeOld
import Derived.Deep.Slices
import Derived.Lib.SmallJoins
set_option linter.all false
namespace Go.Sky
open Go.Proofs
def pU:Enc Tryz.prog 232 1 Mm:=Enc.flat Tryz.sizeOf232 Tryz.isAgg232 (λ_=>rfl)
def pB:Enc Tryz.prog 5 1 Ziy:=Enc.flat Tryz.sizeOf5 Tryz.isAgg5 (λ_=>rfl)
def pN:Enc Tryz.prog 3 1 Hc:=Enc.flat Tryz.sizeOf3 Tryz.isAgg3 (λ_=>rfl)
def pZ:Enc Tryz.prog 3 1 Yg:=Enc.flat Tryz.sizeOf3 Tryz.isAgg3 (λ_=>rfl)
def Zh2(args:Array Value)(w:World):(callFunc 269 args).run Tryz.prog w=((add64Entry args).run Tryz.prog w).andThen λv w'=> .ok (.value v) w':=
 run_callFunc_extern Tryz.func269 O5 O5 O5 O5 args w
def Yb1(args:Array Value)(w:World):(callFunc 270 args).run Tryz.prog w=((Zel args).run Tryz.prog w).andThen λv w'=> .ok (.value v) w':=
 run_callFunc_extern Tryz.func270 O5 O5 O5 O5 args w
end Go.Sky
theorem Go.Proofs.Tryz.ti232:Go.Proofs.Tryz.prog.info? 232=some Go.Proofs.Tryz.t232:=Go.Sky.O5
namespace Go.Sky
open Go.Proofs
end Go.Sky
theorem Go.Proofs.Tryz.ti5:Go.Proofs.Tryz.prog.info? 5=some Go.Proofs.Tryz.t5:=Go.Sky.O5
namespace Go.Sky
open Go.Proofs
end Go.Sky
theorem Go.Proofs.Tryz.ti3:Go.Proofs.Tryz.prog.info? 3=some Go.Proofs.Tryz.t3:=Go.Sky.O5
namespace Go.Sky
open Go.Proofs
def pW:Enc Tryz.prog 80 2 Zxe:=Enc.agg O2 Tryz.sizeOf80 Tryz.isAgg80 (λx=>⟨[.bool x.1,.string x.2],rfl,rfl,O11⟩)
def pV:Enc Tryz.prog 80 2 wv:=Enc.agg O2 Tryz.sizeOf80 Tryz.isAgg80 (λx=>⟨[.bool (decide (x<0)),.string (Qh x.natAbs)],rfl,rfl,O11⟩)
def pI:Enc Tryz.prog 89 2 Gk:=Enc.agg O2 Tryz.sizeOf89 Tryz.isAgg89 (λx=>⟨[.bool (decide (x.1<0)),Xi x.2],rfl,rfl,O11⟩)
def pS{α:Type} : Enc Tryz.prog 40 1 (Nq (α:=α)):=Enc.flat Tryz.sizeOf40 Tryz.isAgg40 (λ_=>rfl)
def pY:Enc Tryz.prog 276 8 iq:=Enc.agg O2 Tryz.sizeOf276 Tryz.isAgg276 (λx=>⟨[.bool (decide (x.1.1<0)),.string (Qh x.1.1.natAbs),.bool (decide (x.1.2<0)),.string (Qh x.1.2.natAbs),.bool (decide (x.2.1<0)),.string (Qh x.2.1.natAbs),.bool (decide (x.2.2<0)),.string (Qh x.2.2.natAbs)],rfl,rfl,O11⟩)
def pQ:Enc Tryz.prog 82 4 rq:=Enc.agg O2 Tryz.sizeOf82 Tryz.isAgg82 (λx=>⟨[.bool (decide (x.1<0)),.string (Qh x.1.natAbs),.bool (decide (x.2<0)),.string (Qh x.2.natAbs)],rfl,rfl,O11⟩)
def pR:Enc Tryz.prog 82 4 encQ:=Enc.agg O2 Tryz.sizeOf82 Tryz.isAgg82 (λx=>⟨[.bool x.1.1,.string x.1.2,.bool x.2.1,.string x.2.2],rfl,rfl,O11⟩)
def sh80:Tryz.prog.stoodInHeld 80=false:=O5
def eg80:Tryz.prog.eqGuardType Tryz.prog.depth 80=false:=O5
def in80(d:Nat)(w:World)(a:Bool)(s:ByteArray)(b:Bool)(t:ByteArray):(Op.equalIn (d+2) 80 (.agg #[.bool a,.string s]) (.agg #[.bool b,.string t])).run Tryz.prog w= .ok (eqW a s b t) w:=by
 have c:Tryz.prog.underlying 80=some (.struct (Tryz.prog.fieldsOf 80)):=by unfold Program.fieldsOf;rw [Tryz.underlying80]
 rw [run_equalIn_agg w (d+1) 80 _ _ c sh80];unfold Program.fieldsOf;rw [Tryz.underlying80];simp [Op.eqFields,part,Tryz.isAgg4,Tryz.isAgg9,run_equalIn_bool' _ _ _ _ _ Tryz.underlying4,run_equalIn_string _ _ _ _ _ Tryz.underlying9];unfold eqW;cases hab:(a == b)
 .simp_all
 .by_cases h:s.toList=t.toList<;>simp_all
def eql80(w:World)(a:Bool)(s:ByteArray)(b:Bool)(t:ByteArray):(binOp .eql 80 (.agg #[.bool a,.string s]) (.agg #[.bool b,.string t])).run Tryz.prog w= .ok (.bool (eqW a s b t)) w:=by rw [run_eql_struct,in80];rfl
def neq80(w:World)(a:Bool)(s:ByteArray)(b:Bool)(t:ByteArray):(binOp .neq 80 (.agg #[.bool a,.string s]) (.agg #[.bool b,.string t])).run Tryz.prog w= .ok (.bool (!eqW a s b t)) w:=by rw [run_neq_struct,in80];rfl
end Go.Sky
theorem Go.Proofs.Tryz.ti33:Go.Proofs.Tryz.prog.info? 33=some Go.Proofs.Tryz.t33:=Go.Sky.O5
namespace Go.Sky
open Go.Proofs
end Go.Sky
theorem Go.Proofs.Tryz.ti35:Go.Proofs.Tryz.prog.info? 35=some Go.Proofs.Tryz.t35:=Go.Sky.O5
namespace Go.Sky
open Go.Proofs
end Go.Sky
theorem Go.Proofs.Tryz.ti38:Go.Proofs.Tryz.prog.info? 38=some Go.Proofs.Tryz.t38:=Go.Sky.O5
namespace Go.Sky
open Go.Proofs
end Go.Sky
theorem Go.Proofs.Tryz.ti40:Go.Proofs.Tryz.prog.info? 40=some Go.Proofs.Tryz.t40:=Go.Sky.O5
namespace Go.Sky
open Go.Proofs
end Go.Sky
theorem Go.Proofs.Tryz.ti47:Go.Proofs.Tryz.prog.info? 47=some Go.Proofs.Tryz.t47:=Go.Sky.O5
namespace Go.Sky
open Go.Proofs
end Go.Sky
theorem Go.Proofs.Tryz.ti80:Go.Proofs.Tryz.prog.info? 80=some Go.Proofs.Tryz.t80:=Go.Sky.O5
namespace Go.Sky
open Go.Proofs
end Go.Sky
theorem Go.Proofs.Tryz.ti82:Go.Proofs.Tryz.prog.info? 82=some Go.Proofs.Tryz.t82:=Go.Sky.O5
namespace Go.Sky
open Go.Proofs
end Go.Sky
theorem Go.Proofs.Tryz.ti89:Go.Proofs.Tryz.prog.info? 89=some Go.Proofs.Tryz.t89:=Go.Sky.O5
namespace Go.Sky
open Go.Proofs
end Go.Sky
theorem Go.Proofs.Tryz.ti130:Go.Proofs.Tryz.prog.info? 130=some Go.Proofs.Tryz.t130:=Go.Sky.O5
namespace Go.Sky
open Go.Proofs
end Go.Sky
theorem Go.Proofs.Tryz.ti23:Go.Proofs.Tryz.prog.info? 23=some Go.Proofs.Tryz.t23:=Go.Sky.O5
namespace Go.Sky
open Go.Proofs
variable{v0 v1:Value}
theorem Ypx{a:Value}(b:v0.oneCell'=true)(c:v1.oneCell'=true)(d:a.oneCell'=true):Tryz.prog.built 23 [(0,v0),(1,v1),(2,a)]=some #[v0,v1,a]:=by refine Qz _ Tryz.ti23 Tryz.underlying23 rfl (pl:=[(0,1),(1,1),(2,1)]) (by simp [Tryz.ti3];try decide) ?_;simp [Instr.fill,Yc b,Yc c,Yc d,show(Value.agg #[.int .i64 0,.int .i64 0,.int .i64 0]).cells=#[.int .i64 0,.int .i64 0,.int .i64 0]from rfl]
theorem b35_:Tryz.prog.built 35 []=some #[.int .i64 0,.int .i64 0,.int .i64 0,.slice none 0 0,.slice none 0 0,.slice none 0 0]:=by refine Qz _ Tryz.ti35 Tryz.underlying35 rfl (pl:=[(0,1),(1,1),(2,1),(3,1),(4,1),(5,1)]) (by simp [Tryz.ti3,Tryz.ti33];try decide) ?_;simp [Instr.fill,show(Value.agg #[.int .i64 0,.int .i64 0,.int .i64 0,.slice none 0 0,.slice none 0 0,.slice none 0 0]).cells=#[.int .i64 0,.int .i64 0,.int .i64 0,.slice none 0 0,.slice none 0 0,.slice none 0 0]from rfl]
theorem b35_01(a:v0.oneCell'=true)(b:v1.oneCell'=true):Tryz.prog.built 35 [(0,v0),(1,v1)]=some #[v0,v1,.int .i64 0,.slice none 0 0,.slice none 0 0,.slice none 0 0]:=by refine Qz _ Tryz.ti35 Tryz.underlying35 rfl (pl:=[(0,1),(1,1),(2,1),(3,1),(4,1),(5,1)]) (by simp [Tryz.ti3,Tryz.ti33];try decide) ?_;simp [Instr.fill,Yc a,Yc b,show(Value.agg #[.int .i64 0,.int .i64 0,.int .i64 0,.slice none 0 0,.slice none 0 0,.slice none 0 0]).cells=#[.int .i64 0,.int .i64 0,.int .i64 0,.slice none 0 0,.slice none 0 0,.slice none 0 0]from rfl]
theorem Zmk{a b c d:Value}(e:v0.oneCell'=true)(f:v1.oneCell'=true)(g:a.oneCell'=true)(h:b.oneCell'=true)(i:c.oneCell'=true)(j:d.oneCell'=true):Tryz.prog.built 35 [(0,v0),(1,v1),(2,a),(3,b),(4,c),(5,d)]=some #[v0,v1,a,b,c,d]:=by refine Qz _ Tryz.ti35 Tryz.underlying35 rfl (pl:=[(0,1),(1,1),(2,1),(3,1),(4,1),(5,1)]) (by simp [Tryz.ti3,Tryz.ti33];try decide) ?_;simp [Instr.fill,Yc e,Yc f,Yc g,Yc h,Yc i,Yc j,show(Value.agg #[.int .i64 0,.int .i64 0,.int .i64 0,.slice none 0 0,.slice none 0 0,.slice none 0 0]).cells=#[.int .i64 0,.int .i64 0,.int .i64 0,.slice none 0 0,.slice none 0 0,.slice none 0 0]from rfl]
end Go.Sky
theorem Go.Proofs.Tryz.ti64:Go.Proofs.Tryz.prog.info? 64=some Go.Proofs.Tryz.t64:=Go.Sky.O5
namespace Go.Sky
open Go.Proofs
def b64_:Tryz.prog.built 64 []=some #[.int .i64 0,.int .i64 0,.int .i64 0,.int .i64 0]:=by refine Qz _ Tryz.ti64 Tryz.underlying64 rfl (pl:=[(0,1),(1,1),(2,1),(3,1)]) (by simp [Tryz.ti3];try decide) ?_;simp [Instr.fill,show(Value.agg #[.int .i64 0,.int .i64 0,.int .i64 0,.int .i64 0]).cells=#[.int .i64 0,.int .i64 0,.int .i64 0,.int .i64 0]from rfl]
def Zmj{a b c d:Value}(e:a.oneCell'=true)(f:b.oneCell'=true)(g:c.oneCell'=true)(h:d.oneCell'=true):Tryz.prog.built 64 [(0,a),(1,b),(2,c),(3,d)]=some #[a,b,c,d]:=by refine Qz _ Tryz.ti64 Tryz.underlying64 rfl (pl:=[(0,1),(1,1),(2,1),(3,1)]) (by simp [Tryz.ti3];try decide) ?_;simp [Instr.fill,Yc e,Yc f,Yc g,Yc h,show(Value.agg #[.int .i64 0,.int .i64 0,.int .i64 0,.int .i64 0]).cells=#[.int .i64 0,.int .i64 0,.int .i64 0,.int .i64 0]from rfl]
end Go.Sky
theorem Go.Proofs.Tryz.ti4:Go.Proofs.Tryz.prog.info? 4=some Go.Proofs.Tryz.t4:=Go.Sky.O5
namespace Go.Sky
open Go.Proofs
end Go.Sky
theorem Go.Proofs.Tryz.ti9:Go.Proofs.Tryz.prog.info? 9=some Go.Proofs.Tryz.t9:=Go.Sky.O5
namespace Go.Sky
open Go.Proofs
variable{v0 v1:Value}
theorem b80_:Tryz.prog.built 80 []=some #[.bool false,.string ⟨#[]⟩]:=by refine Qz _ Tryz.ti80 Tryz.underlying80 rfl (pl:=[(0,1),(1,1)]) (by simp [Tryz.ti4,Tryz.ti9];try decide) ?_;simp [Instr.fill,show(Value.agg #[.bool false,.string ⟨#[]⟩]).cells=#[.bool false,.string ⟨#[]⟩]from rfl]
theorem Zx3(a:v0.oneCell'=true)(b:v1.oneCell'=true):Tryz.prog.built 80 [(0,v0),(1,v1)]=some #[v0,v1]:=by refine Qz _ Tryz.ti80 Tryz.underlying80 rfl (pl:=[(0,1),(1,1)]) (by simp [Tryz.ti4,Tryz.ti9];try decide) ?_;simp [Instr.fill,Yc a,Yc b,show(Value.agg #[.bool false,.string ⟨#[]⟩]).cells=#[.bool false,.string ⟨#[]⟩]from rfl]
theorem Zx2:Tryz.prog.built 82 []=some #[.bool false,.string ⟨#[]⟩,.bool false,.string ⟨#[]⟩]:=by refine Qz _ Tryz.ti82 Tryz.underlying82 rfl (pl:=[(0,2),(2,2)]) (by simp [Tryz.ti80];try decide) ?_;simp [Instr.fill,show(Value.agg #[.bool false,.string ⟨#[]⟩,.bool false,.string ⟨#[]⟩]).cells=#[.bool false,.string ⟨#[]⟩,.bool false,.string ⟨#[]⟩]from rfl]
theorem Zmi{a b c d:Value} : Tryz.prog.built 82 [(0,.agg #[a,b]),(1,.agg #[c,d])]=some #[a,b,c,d]:=by refine Qz _ Tryz.ti82 Tryz.underlying82 rfl (pl:=[(0,2),(2,2)]) (by simp [Tryz.ti80];try decide) ?_;simp [Instr.fill,show(Value.agg #[a,b]).cells=#[a,b]from rfl,show(Value.agg #[c,d]).cells=#[c,d]from rfl,show(Value.agg #[.bool false,.string ⟨#[]⟩,.bool false,.string ⟨#[]⟩]).cells=#[.bool false,.string ⟨#[]⟩,.bool false,.string ⟨#[]⟩]from rfl]
theorem Ydr:Tryz.prog.built 89 []=some #[.bool false,.slice none 0 0]:=by refine Qz _ Tryz.ti89 Tryz.underlying89 rfl (pl:=[(0,1),(1,1)]) (by simp [Tryz.ti33,Tryz.ti4];try decide) ?_;simp [Instr.fill,show(Value.agg #[.bool false,.slice none 0 0]).cells=#[.bool false,.slice none 0 0]from rfl]
theorem Ykq(a:v0.oneCell'=true)(b:v1.oneCell'=true):Tryz.prog.built 89 [(0,v0),(1,v1)]=some #[v0,v1]:=by refine Qz _ Tryz.ti89 Tryz.underlying89 rfl (pl:=[(0,1),(1,1)]) (by simp [Tryz.ti33,Tryz.ti4];try decide) ?_;simp [Instr.fill,Yc a,Yc b,show(Value.agg #[.bool false,.slice none 0 0]).cells=#[.bool false,.slice none 0 0]from rfl]
theorem Zml{a:Value}(b:v0.oneCell'=true)(c:v1.oneCell'=true)(d:a.oneCell'=true):Tryz.prog.built 130 [(0,v0),(1,v1),(2,a)]=some #[v0,v1,a]:=by refine Qz _ Tryz.ti130 Tryz.underlying130 rfl (pl:=[(0,1),(1,1),(2,1)]) (by simp [Tryz.ti3,Tryz.ti40];try decide) ?_;simp [Instr.fill,Yc b,Yc c,Yc d,show(Value.agg #[.int .i64 0,.int .i64 0,.slice none 0 0]).cells=#[.int .i64 0,.int .i64 0,.slice none 0 0]from rfl]
end Go.Sky
theorem Go.Proofs.Tryz.ti162:Go.Proofs.Tryz.prog.info? 162=some Go.Proofs.Tryz.t162:=Go.Sky.O5
namespace Go.Sky
open Go.Proofs
def Zoh{a b c d e f g h:Value} : Tryz.prog.built 162 [(0,.agg #[a,b]),(1,.agg #[c,d]),(2,.agg #[e,f]),(3,.agg #[g,h])]=some #[a,b,c,d,e,f,g,h]:=by refine Qz _ Tryz.ti162 Tryz.underlying162 rfl (pl:=[(0,2),(2,2),(4,2),(6,2)]) (by simp [Tryz.ti80];try decide) ?_;simp [Instr.fill,show(Value.agg #[a,b]).cells=#[a,b]from rfl,show(Value.agg #[c,d]).cells=#[c,d]from rfl,show(Value.agg #[e,f]).cells=#[e,f]from rfl,show(Value.agg #[g,h]).cells=#[g,h]from rfl,show(Value.agg #[.bool false,.string ⟨#[]⟩,.bool false,.string ⟨#[]⟩,.bool false,.string ⟨#[]⟩,.bool false,.string ⟨#[]⟩]).cells=#[.bool false,.string ⟨#[]⟩,.bool false,.string ⟨#[]⟩,.bool false,.string ⟨#[]⟩,.bool false,.string ⟨#[]⟩]from rfl]
end Go.Sky
theorem Go.Proofs.Tryz.ti219:Go.Proofs.Tryz.prog.info? 219=some Go.Proofs.Tryz.t219:=Go.Sky.O5
namespace Go.Sky
open Go.Proofs
end Go.Sky
theorem Go.Proofs.Tryz.ti217:Go.Proofs.Tryz.prog.info? 217=some Go.Proofs.Tryz.t217:=Go.Sky.O5
namespace Go.Sky
open Go.Proofs
def Ky{a b:Value}(c:a.oneCell'=true)(d:b.oneCell'=true):Tryz.prog.built 219 [(0,a),(1,b)]=some #[a,b]:=by refine Qz _ Tryz.ti219 Tryz.underlying219 rfl (pl:=[(0,1),(1,1)]) (by simp [Tryz.ti217,Tryz.ti4];try decide) ?_;simp [Instr.fill,Yc c,Yc d,show(Value.agg #[.bool false,.slice none 0 0]).cells=#[.bool false,.slice none 0 0]from rfl]
end Go.Sky
theorem Go.Proofs.Tryz.ti276:Go.Proofs.Tryz.prog.info? 276=some Go.Proofs.Tryz.t276:=Go.Sky.O5
namespace Go.Sky
open Go.Proofs
variable{N:Nat}{sc:Nat->Prop}{o:Oper}{env:Ph}{r:Value}{t:TypeId}
theorem Ypw{a b c d e f g h:Value} : Tryz.prog.built 276 [(0,.agg #[a,b,c,d]),(1,.agg #[e,f,g,h])]=some #[a,b,c,d,e,f,g,h]:=by refine Qz _ Tryz.ti276 Tryz.underlying276 rfl (pl:=[(0,4),(4,4)]) (by simp [Tryz.ti82];try decide) ?_;simp [Instr.fill,show(Value.agg #[a,b,c,d]).cells=#[a,b,c,d]from rfl,show(Value.agg #[e,f,g,h]).cells=#[e,f,g,h]from rfl,show(Value.agg #[.bool false,.string ⟨#[]⟩,.bool false,.string ⟨#[]⟩,.bool false,.string ⟨#[]⟩,.bool false,.string ⟨#[]⟩]).cells=#[.bool false,.string ⟨#[]⟩,.bool false,.string ⟨#[]⟩,.bool false,.string ⟨#[]⟩,.bool false,.string ⟨#[]⟩]from rfl]
def J{α:Sort _}{a:α} : a=a:=rfl
abbrev Qf (P:Program) (f:FuncId) (a:Array Value) (p:List Pc) (v:Value):Prop:=Cal P f a p false (G:=Unit) (λ_=>True) (λ_=>v) (λ_=>[])
abbrev rX (x y:Int):Value:= .agg #[.bool (decide (x<0)),.string (Qh x.natAbs),.bool (decide (y<0)),.string (Qh y.natAbs)]
def vB{a b:Bool}(h:a=b):Value.bool a=Value.bool b:=congrArg _ h
def dF{P:Program}{H:Hp}(h:Mo P N sc o env H r)(e:r= .bool false):Mo P N sc o env H (.bool false):=Yz h e
def dT{P:Program}{H:Hp}(h:Mo P N sc o env H r)(e:r= .bool true):Mo P N sc o env H (.bool true):=Yz h e
def K1{t0:Sort _}{a:t0} : a=a/\True:=⟨rfl,trivial⟩
def K2{t0:Sort _}{a:t0}{t1:Sort _}{b:t1} : a=a/\b=b/\True:=⟨rfl,rfl,trivial⟩
def K3{t0:Sort _}{a:t0}{t1:Sort _}{b:t1}{t2:Sort _}{c:t2} : a=a/\b=b/\c=c/\True:=⟨rfl,rfl,rfl,trivial⟩
def K4{t0:Sort _}{a:t0}{t1:Sort _}{b:t1}{t2:Sort _}{c:t2}{t3:Sort _}{d:t3} : a=a/\b=b/\c=c/\d=d/\True:=⟨rfl,rfl,rfl,rfl,trivial⟩
def K5{t0:Sort _}{a:t0}{t1:Sort _}{b:t1}{t2:Sort _}{c:t2}{t3:Sort _}{d:t3}{t4:Sort _}{e:t4} : a=a/\b=b/\c=c/\d=d/\e=e/\True:=⟨rfl,rfl,rfl,rfl,rfl,trivial⟩
def K6{t0:Sort _}{a:t0}{t1:Sort _}{b:t1}{t2:Sort _}{c:t2}{t3:Sort _}{d:t3}{t4:Sort _}{e:t4}{t5:Sort _}{f:t5} : a=a/\b=b/\c=c/\d=d/\e=e/\f=f/\True:=⟨rfl,rfl,rfl,rfl,rfl,rfl,trivial⟩
def K7{t0:Sort _}{a:t0}{t1:Sort _}{b:t1}{t2:Sort _}{c:t2}{t3:Sort _}{d:t3}{t4:Sort _}{e:t4}{t5:Sort _}{f:t5}{t6:Sort _}{g:t6} : a=a/\b=b/\c=c/\d=d/\e=e/\f=f/\g=g/\True:=⟨rfl,rfl,rfl,rfl,rfl,rfl,rfl,trivial⟩
def K8{t0:Sort _}{a:t0}{t1:Sort _}{b:t1}{t2:Sort _}{c:t2}{t3:Sort _}{d:t3}{t4:Sort _}{e:t4}{t5:Sort _}{f:t5}{t6:Sort _}{g:t6}{t7:Sort _}{h:t7} : a=a/\b=b/\c=c/\d=d/\e=e/\f=f/\g=g/\h=h/\True:=⟨rfl,rfl,rfl,rfl,rfl,rfl,rfl,rfl,trivial⟩
def K10{t0:Sort _}{a:t0}{t1:Sort _}{b:t1}{t2:Sort _}{c:t2}{t3:Sort _}{d:t3}{t4:Sort _}{e:t4}{t5:Sort _}{f:t5}{t6:Sort _}{g:t6}{t7:Sort _}{h:t7}{t8:Sort _}{i:t8}{t9:Sort _}{j:t9} : a=a/\b=b/\c=c/\d=d/\e=e/\f=f/\g=g/\h=h/\i=i/\j=j/\True:=⟨rfl,rfl,rfl,rfl,rfl,rfl,rfl,rfl,rfl,rfl,trivial⟩
def K12{t0:Sort _}{c:t0}{t1:Sort _}{d:t1}{t2:Sort _}{e:t2}{t3:Sort _}{f:t3}{t4:Sort _}{g:t4}{t5:Sort _}{h:t5}{t6:Sort _}{i:t6}{t7:Sort _}{j:t7}{t8:Sort _}{k:t8}{t9:Sort _}{l:t9}{t10:Sort _}{a:t10}{t11:Sort _}{b:t11} : c=c/\d=d/\e=e/\f=f/\g=g/\h=h/\i=i/\j=j/\k=k/\l=l/\a=a/\b=b/\True:=⟨rfl,rfl,rfl,rfl,rfl,rfl,rfl,rfl,rfl,rfl,rfl,rfl,trivial⟩
def K13{t0:Sort _}{d:t0}{t1:Sort _}{e:t1}{t2:Sort _}{f:t2}{t3:Sort _}{g:t3}{t4:Sort _}{h:t4}{t5:Sort _}{i:t5}{t6:Sort _}{j:t6}{t7:Sort _}{k:t7}{t8:Sort _}{l:t8}{t9:Sort _}{m:t9}{t10:Sort _}{a:t10}{t11:Sort _}{b:t11}{t12:Sort _}{c:t12} : d=d/\e=e/\f=f/\g=g/\h=h/\i=i/\j=j/\k=k/\l=l/\m=m/\a=a/\b=b/\c=c/\True:=⟨rfl,rfl,rfl,rfl,rfl,rfl,rfl,rfl,rfl,rfl,rfl,rfl,rfl,trivial⟩
def Bw:=@Go.Proofs.Tryz.call202
def Av:=@Go.Proofs.Tryz.isAgg3
def Ku:=@Go.Proofs.Tryz.sizeOf232
def Kg:=@Go.Proofs.Tryz.sizeOf3
def Zca:=@Go.Proofs.Tryz.sizeOf33
def Ig:=@Go.Proofs.Tryz.sizeOf35
def Ly:=@Go.Proofs.Tryz.sizeOf80
def Zip:=@Go.Proofs.Tryz.sizeOf89
def Zd5:=@Go.Proofs.Tryz.underlying121
def Znb:=@Go.Proofs.Tryz.underlying130
def Zna:=@Go.Proofs.Tryz.underlying166
def Af:=@Go.Proofs.Tryz.underlying193
def Zh4:=@Go.Proofs.Tryz.underlying197
def Pv:=@Go.Proofs.Tryz.underlying217
def Zyb:=@Go.Proofs.Tryz.underlying230
def Zal:=@Go.Proofs.Tryz.underlying232
def Zj2:=@Go.Proofs.Tryz.underlying242
def Zm9:=@Go.Proofs.Tryz.underlying243
def Zm8:=@Go.Proofs.Tryz.underlying268
def uT3:=@Go.Proofs.Tryz.underlying3
def Pe:=@Go.Proofs.Tryz.underlying33
def Ey:=@Go.Proofs.Tryz.underlying35
def Lf:=@Go.Proofs.Tryz.underlying38
def Ylp:=@Go.Proofs.Tryz.underlying39
def Md:=@Go.Proofs.Tryz.underlying40
def Zg3:=@Go.Proofs.Tryz.underlying46
def Zbe:=@Go.Proofs.Tryz.underlying47
def uT5:=@Go.Proofs.Tryz.underlying5
def Zir:=@Go.Proofs.Tryz.underlying50
def Ybx:=@Go.Proofs.Tryz.underlying61
def uT9:=@Go.Proofs.Tryz.underlying9
open Go.ChangeShapes Go.WideShapes Go.ChangeAt Go.RowKit Go.Joins Go.Deep
variable {P:Program} {W:World} {H:Type} {enc:TypeId×Value->H}
theorem Zin{α:Type}[Inhabited α]{p:Nat->α->Prop} : ∀n,(∀i,i<n->∃x,p i x)->∃xs:List α,xs.length=n/\∀i x,xs[i]? = some x->p i x
 | 0,_=>⟨[],rfl,λi x h=>by simp at h⟩
 | n+1,h=>by
  obtain⟨xs,c,d⟩:=Zin n λi hi=>h i O;obtain⟨x,e⟩:=h n O;refine⟨xs ++ [x],by simp [c],λi y a=>?_⟩;rcases Nat.lt_or_ge i n with hi|hi
  .rw [List.getElem?_append_left O]at a;exact d i y a
  .rw [List.getElem?_append_right O,c]at a;rcases Nat.eq_zero_or_pos (i-n)with b|b
   .rw [b]at a;simp at a;subst a;rw [show i=n by omega];exact e
   .rw [List.getElem?_eq_none O8]at a;cases a
theorem Zk0{r:Reach}{i:Nat}{e:TypeId}{a:Addr}{g c:Nat}(hs:P.underlying t=some (.slice e))(b:Value.okWide P W r i t (.slice (some a) g c)):a.spot=none/\a.block<W.heap.size:=by
 unfold Value.okWide at b;rw [hs]at b;simp only at b;unfold Cell.okWide at b;rw [hs]at b;simp only at b;unfold Cell.ok at b;rw [hs]at b;simp only at b;obtain⟨_,_,_,j,k,d,f,_⟩:=b;refine⟨j,?_⟩;unfold World.shape? at f;rcases Nat.lt_or_ge a.block W.heap.size with h|h
 .exact h
 .rw [Array.getElem?_eq_none h]at f;simp at f
end Go.Sky
namespace Go.Sky
variable{P:Program}{f:FuncId}{args:Array Value}{pre:List Pc}{φ:Value×List (Int×SL)->Prop}
theorem Cal.toS     {al:Bool} 
  (h:Cal P f args pre al (G:=Value×List (Int×SL)) φ (λr=>r.1) (λr=>[pp r.1 r.2])) :
  Cal P f args pre al (G:=SL×List (Int×SL)) (λr=>φ (Xi r.1,r.2)) (λr=>Xi r.1) (λr=>[pp (Xi r.1) r.2]):=λw l=>by
 refine(h w l).mono λe n ⟨g,k,m,j,hi⟩=>?_;obtain⟨v,z⟩:=g;have b:=(hi _ (List.mem_cons_self ..)).1;obtain⟨a,c,d,_⟩:=Zb n b;have i:v=Xi (a,z.length,c):=d;subst i;exact⟨((a,z.length,c),z),k,m,j,hi⟩
abbrev qT (z:SL×List (Int×SL)):Pc:=pp (Xi z.1) z.2
abbrev T0:SL×List (Int×SL):=((none,0,0),[])
abbrev intsT (zs:List (SL×List (Int×SL))):List (List Int):=zs.map λz=>Zr z.2
set_option maxRecDepth 20000
theorem Ypr{K:Nat}{f:Nat->Int}{n:Nat}(h:∀i,i<n->bl (f i).natAbs<=K)(a:n<=1023):bl (Ye f n).natAbs<=K+10:=by rw [Qg];have b:=Zxz h;have c:n*(2^K-1)<=1023*(2^K-1):=Nat.mul_le_mul_right _ a;have d:0<2^K:=Nat.two_pow_pos K;rw [Nat.pow_add];omega
theorem Gi(zs:List (Int×SL))(z:Int×SL):Zr (zs ++ [z])=Zr zs ++ [z.1]:=by simp [Zr]
def Ynb(p q:List Int):tzl (mk (max p.length q.length) λt=>cf p t+cf q t)=Hh p q:=rfl
theorem Zwm(p:List Int)(c:Int):tzl (mk p.length λt=>cf p t*c)=Zm p c:=by rw [Zp2 p (· * c)];rfl
def Ym8(p q:List Int):tzl (mk (p.length+q.length-1) λt=>Ye (λk=>cf p k*cf q (t-k)) (t+1))=Qn p q:=rfl
theorem Zyj{x:Int}{m:Nat}(h:bl x.natAbs<=m)(n:Nat):bl (x^n).natAbs<=n*m+1:=by
 rcases Nat.eq_zero_or_pos n with a|a
 .rw [a,Int.pow_zero];have:bl (1:Int).natAbs=1:=O2;omega
 .have:=Eo x h n a;omega
theorem Oz(p:List Int)(c:Int):(Zm p c).length<=p.length:=by unfold Zm;have:=Mx (p.map (· * c));rwa [List.length_map]at this
theorem Yg1(p q:List Int):(Hh p q).length<=max p.length q.length:=by unfold Hh;have:=Mx (mk (max p.length q.length) λi=>cf p i+cf q i);rwa [Yp]at this
theorem Kq{y:Int}(h:y≠0):∀n:Nat,y^n≠0
 | 0=>by rw [Int.pow_zero];omega
 | n+1=>by rw [Int.pow_succ];exact Int.mul_ne_zero (Kq h n) h
theorem Zwy(xs ys:List Int):xs.map wr=ys.map wr↔xs=ys:=by refine⟨λh=>?_,λh=>by rw [h]⟩;exact List.map_inj_right (λx y h=>Ydz (congrArg Prod.fst h) (congrArg Prod.snd h)) |>.1 h
theorem Cal.imp2{m p q:Pc}{al:Bool}{G:Type}{φ:G->Prop}{Yh:G->Value}{i:G->List Pc}(h:Cal P f args (m::p::pre) al φ Yh i)(x:∀w,q.holds w->p.holds w)(u:∀b,p.fp b->q.fp b) :
  Cal P f args (m::q::pre) al φ Yh i:=λw k=>by
 refine(h w λr a=>?_).mono ?_
 .rcases List.mem_cons.1 a with rfl|a
  .exact k _ (List.mem_cons_self ..)
  .rcases List.mem_cons.1 a with rfl|a
   .exact x w (k q (List.mem_cons_of_mem _ (List.mem_cons_self ..)))
   .exact k r (List.mem_cons_of_mem _ (List.mem_cons_of_mem _ a))
 .rintro e z ⟨g,t,v,j,d⟩;refine⟨g,t,v,j,λy l=>?_⟩;obtain⟨n,o,s⟩:=d y l;refine⟨n,o,λb j=>?_⟩;rcases s b j with h|⟨h,r,a,c⟩
  .exact .inl h
  .refine .inr ⟨h,?_⟩;rcases List.mem_cons.1 a with rfl|a
   .exact⟨r,List.mem_cons_self ..,c⟩
   .rcases List.mem_cons.1 a with rfl|a
    .exact⟨q,List.mem_cons_of_mem _ (List.mem_cons_self ..),u b c⟩
    .exact⟨r,List.mem_cons_of_mem _ (List.mem_cons_of_mem _ a),c⟩
def shm(q:List Int)(c:Int)(s i:Nat):List Int:=mk (s+i) λt=>if t<s then 0 else c*cf q (t-s)
theorem Yka(q:List Int)(c:Int)(s t:Nat):cf (shm q c s q.length) t=if s<=t/\t<s+q.length then c*cf q (t-s)else 0:=by
 unfold shm;rw [Nk];by_cases b:t<s
 .rw [if_neg (by omega:¬(s<=t/\t<s+q.length))];split
  .rfl
  .rfl
 .by_cases a:t<s+q.length
  .rw [if_pos a,if_neg b,if_pos (show s<=t/\t<s+q.length by omega)]
  .rw [if_neg a,if_neg (show ¬(s<=t/\t<s+q.length) by omega)]
section
variable {p q:List Int}
theorem Zkl(c:0<q.length)(b:q.length<=p.length):∀j,j<=p.length-q.length+1->∀t,p.length-j<=t->cf (Pb p q j) t=0
 | 0,_,t,d=>Yl (by unfold Pb;omega)
 | j+1,e,t,d=>by
  rcases Nat.lt_or_ge t p.length with h|h
  .unfold Pb;rw [Zvl (by rw [Lm];exact h)];by_cases a:t=p.length-1-j
   .subst a;rw [if_pos O,show p.length-1-j-(p.length-1-j-(q.length-1))=q.length-1 by omega];omega
   .rw [Zkl c b j O t O,Int.zero_mul,if_neg O];rfl
  .exact Yl (by rw [Lm];omega)
def RestInv(p q R:List Int)(j:Nat):Prop:=Tr R/\∀t,cf R t=cf (Pb p q j) t*cf q (q.length-1)^(p.length-q.length+1-j)
end
end Go.Sky
namespace Go.Sky
section
variable {P:Program} {N:Nat} {sc:Nat->Prop} {env env':Ph} {H H':Hp}
end
end Go.Sky
namespace Go.Sky
variable{x:Int}{m i F:Nat}{a b s c:List Int}{P:Program}{sc M:Nat->Prop}{ops:Array Oper}{rest:List (Nat×Nat)}
def He(a b:Int):Nat->List Int
 | 0=>[1]
 | i+1=>Qn (He a b i) (tzl [a,b])
def Zoy(p:List Int)(a b d:Int):Nat->List Int
 | 0=>[]
 | i+1=>Hh (Zoy p a b d i) (Zm (He a b i) (cf p i*d^(p.length-1-i)))
def hs(f:Nat->PS):Nat->PS
 | 0=>0
 | n+1=>hs f n+f n
theorem Zln{f g:Nat->PS} : ∀{n:Nat},(∀k,k<n->f k=g k)->hs f n=hs g n
 | 0,_=>rfl
 | n+1,h=>by show hs f n+f n=hs g n+g n;rw [Zln λk d=>h k O,h n O]
theorem Zul(f:Nat->PS):∀n,hs f (n+1)=f 0+hs (λk=>f (k+1)) n
 | 0=>by show(0:PS)+f 0=f 0+0;rw [PS.zero_add',PS.add_zero']
 | n+1=>by show hs f (n+1)+f (n+1)=f 0+(hs (λk=>f (k+1)) n+f (n+1));rw [Zul f n,PS.add_assoc']
theorem Yh8(f:Nat->PS)(c:PS):∀n,hs (λk=>f k*c) n=hs f n*c
 | 0=>by show(0:PS)=0*c;rw [PS.zero_mul']
 | n+1=>by show hs (λk=>f k*c) n+f n*c=(hs f n+f n)*c;rw [Yh8 f c n,PS.distrib_r]
def Zpg(p:List Int):ps (tzl p)=ps p:=PS.ext' λi=>Ks p i
theorem Ypi(a b:Int)(i:Nat):cf [a,b] i=if i=0 then a else if i=1 then b else 0:=by
 rcases i with _|_|i
 .rfl
 .rfl
 .rw [Yl O7,if_neg O,if_neg O]
theorem Zsk{f:Nat->Int} : ∀{n:Nat},(∀k,k<n->f k=0)->Ye f n=0
 | 0,_=>rfl
 | n+1,h=>by rw [Yj,Zsk λk d=>h k O,h n O];rfl
theorem Zzt(f:PS)(a b:Int)(t:Nat):(f*ps [a,b]).c t=f.c t*a+if t=0 then 0 else f.c (t-1)*b:=by
 rw [PS.mul_c];simp only [Oh,Ypi];rw [Yj,Nat.sub_self,if_pos rfl];rcases t with _|t
 .simp [Ye]
 .rw [Yj,show t+1-t=1 by omega,if_neg (by omega:¬1=0),if_pos rfl,Zsk λk d=>by rw [if_neg O,if_neg O,Int.mul_zero],Nat.add_sub_cancel,if_neg (by omega:¬t+1=0)];omega
theorem Ygh:ps [1]=1:=PS.ext' λi=>by
 rw [Oh,PS.one_c];rcases i with _|i
 .rfl
 .rw [Yl O7,if_neg O]
theorem ps_nil:ps []=0:=PS.ext' λi=>by rw [Oh,PS.zero_c];exact Yl O7
theorem C_c(n:Int)(i:Nat):(PS.C n).c i=if i=0 then n else 0:=by have h:=PS.C_mul_c n 1 i;rw [show PS.C n*1=PS.C n from PS.mul_one' _,PS.one_c]at h;rw [h];split<;>simp
theorem Zd9(a b:Int)(i:Nat):ps (He a b (i+1))=ps (He a b i)*ps [a,b]:=by show ps (Qn _ _)=_;rw [Zje,Zpg]
theorem Zph(p:List Int)(a b d:Int)(j:Nat):ps (Ml p a b d (j+1))=ps (Ml p a b d j)*ps [a,b]+PS.C (cf p (p.length-2-j)*d^(j+1)):=PS.ext' λt=>by
 rw [PS.add_c,Zzt,C_c,Oh,Zoe,Nk,Oh,Oh];by_cases h:t<(Ml p a b d j).length+1
 .rw [if_pos h];by_cases e:t=0
  .rw [if_pos e,if_pos e,if_pos e];omega
  .rw [if_neg e,if_neg e,if_neg e];omega
 .rw [if_neg h,Yl O,Yl O,if_neg O,if_neg O];simp
theorem Zzh(p:List Int)(a b d:Int):∀j,j<=p.length-1->ps (Ml p a b d j)=hs (λk=>PS.C (cf p (p.length-1-j+k)*d^(j-k))*ps (He a b k)) (j+1)
 | 0,_=>by
  rw [Fp];show _=(0:PS)+PS.C (cf p (p.length-1)*d^0)*ps [1];rw [Ygh,Int.pow_zero,Int.mul_one,show(0:PS)+PS.C (cf p (p.length-1))*1=PS.C (cf p (p.length-1)) by rw [PS.mul_one',PS.zero_add']];refine PS.ext' λt=>?_;rw [Oh,C_c];rcases t with _|t
  .rfl
  .rw [Yl O7,if_neg O]
 | j+1,h=>by
  rw [Zph,Zzh p a b d j O,<-Yh8,Zul _ (j+1)];have e:hs (λk=>PS.C (cf p (p.length-1-j+k)*d^(j-k))*ps (He a b k)*ps [a,b]) (j+1)=hs (λk=>PS.C (cf p (p.length-1-(j+1)+(k+1))*d^(j+1-(k+1)))*ps (He a b (k+1))) (j+1):=Zln λk f=>by rw [Zd9,show p.length-1-(j+1)+(k+1)=p.length-1-j+k by omega,show j+1-(k+1)=j-k by omega,PS.mul_assoc']
  rw [e];show _+_=PS.C (cf p (p.length-1-(j+1)+0)*d^(j+1))*ps [1]+_;rw [Ygh,show p.length-1-(j+1)+0=p.length-2-j by omega];rw [PS.mul_one',PS.add_comm']
theorem Zzg(p:List Int)(a b d:Int):∀n,ps (Zoy p a b d n)=hs (λk=>PS.C (cf p k*d^(p.length-1-k))*ps (He a b k)) n
 | 0=>ps_nil
 | n+1=>by show ps (Hh _ _)=hs _ n+_;rw [Ym4,Zzg p a b d n,Zhi]
def Yls(p:List Int)(a b d:Int):∀n,Tr (Zoy p a b d n)
 | 0=>Tr.nil
 | n+1=>Zye _ _
theorem Ymo(p:List Int)(a b d:Int):Zoy p a b d p.length=Ld p a b d:=by
 unfold Ld;split
 .rename_i h;rw [h];rfl
 .rename_i h;refine(Yls p a b d _).ps_inj (Qc _) ?_;rw [Zpg,Zzg,Zzh p a b d _ (Nat.le_refl _),show p.length-1+1=p.length by omega];exact Zln λk e=>by rw [Nat.sub_self,Nat.zero_add]
theorem Zhf(a b:Int):∀i,(He a b i).length<=i+1
 | 0=>Nat.le_refl _
 | i+1=>by have d:=Zhf a b i;have e:(tzl [a,b]).length<=2:=Mx _;have f:(He a b (i+1)).length<=(He a b i).length+(tzl [a,b]).length-1:=Nat.le_trans (Mx _) (by rw [Yp];exact Nat.le_refl _);omega
theorem Zkk{a b:Int}{m:Nat}(e:bl a.natAbs<=m)(f:bl b.natAbs<=m):∀i,Sz (i*(m+1)+1) (He a b i)
 | 0=>λt=>by
  rcases t with _|t
  .show bl 1<=_;rw [Ykk];omega
  .show bl (cf [1] (t+1)).natAbs<=_;rw [Yl O7];simp [Lu]
 | i+1=>λt=>by
  have d:=Zkk e f i;rw [<-Oh,Zd9,Zzt,Oh,Oh,Nat.succ_mul];have g:=d t;have h:=d (t-1);have j:=Xa (cf (He a b i) t) a;have k:=Xa (cf (He a b i) (t-1)) b;have l:=Iv (cf (He a b i) t*a) (if t=0 then 0 else cf (He a b i) (t-1)*b);have n:bl (if t=0 then 0 else cf (He a b i) (t-1)*b).natAbs<=i*(m+1)+1+m:=by
   split
   .simp [Lu]
   .omega
  omega
theorem Zrs{d:Int}{A k:Nat}(f:bl x.natAbs<=A)(g:bl d.natAbs<=m):bl (x*d^k).natAbs<=A+k*m:=by
 have h:=Zgt (a:=x) (n:=1) (d:=d) (A:=A) (m:=max m 1) (i:=0) (j:=k) f (by show bl 1<=_;rw [Ykk];omega) O;rcases Nat.eq_zero_or_pos k with e|e
 .subst e;simp;exact f
 .have l:=Xa x (d^k);have o:=Eo d g k e;omega
theorem Znm{p:List Int}{a b d:Int}(e:bl a.natAbs<=m)(f:bl b.natAbs<=m)(g:bl d.natAbs<=m)(hi:i<p.length)(t:Nat) :
  bl (cf (Zm (He a b i) (cf p i*d^(p.length-1-i))) t).natAbs<=Pa p+p.length*(m+1)+1:=by
 rw [Yu];have h:=Xa (cf (He a b i) t) (cf p i*d^(p.length-1-i));have j:=Zkk e f i t;have l:=Zrs (k:=p.length-1-i) (Lx p i) g;have n:i*(m+1)+(p.length-1-i)*(m+1)+(m+1)=p.length*(m+1):=by rw [<-Nat.add_mul,<-Nat.succ_mul];congr 1;omega
 have q:i*(m+1)+(p.length-1-i)*(m+1)<=p.length*(m+1):=O;have o:(p.length-1-i)*m<=(p.length-1-i)*(m+1):=Nat.mul_le_mul_left _ O;omega
theorem Zy1{p:List Int}{a b d:Int}{m:Nat}(e:bl a.natAbs<=m)(f:bl b.natAbs<=m)(g:bl d.natAbs<=m):∀i,i<=p.length->Sz (Pa p+p.length*(m+1)+1+i) (Zoy p a b d i)
 | 0,_=>Sz.nil _
 | i+1,h=>λt=>by have j:=Zy1 (p:=p) e f g i O t;have k:=Znm (p:=p) e f g (i:=i) O t;show bl (cf (Hh _ _) t).natAbs<=_;rw [Ej];have l:=Iv (cf (Zoy p a b d i) t) (cf (Zm (He a b i) (cf p i*d^(p.length-1-i))) t);omega
theorem Zs3{p:List Int}{a b d:Int} : ∀i,(Zoy p a b d i).length<=i+1
 | 0=>Nat.zero_le _
 | i+1=>by have e:=Yg1 (Zoy p a b d i) (Zm (He a b i) (cf p i*d^(p.length-1-i)));have f:=Zs3 (p:=p) (a:=a) (b:=b) (d:=d) i;have g:=Zhf a b i;have h:(Zm (He a b i) (cf p i*d^(p.length-1-i))).length<=(He a b i).length:=Nat.le_trans (Mx _) O7;show(Hh _ _).length<=_;omega
abbrev RW:=List (Bool×ByteArray)
abbrev qR (z:SL×RW):Pc:=Ys 2 Zxe (Xi z.1) z.2
abbrev qZ (z:SL×List Int):Pc:=Ys 2 wv (Xi z.1) z.2
abbrev R0:SL×RW:=((none,0,0),[])
def short1(r:RW):Bool:=(decide (r.length<=14) || decide (r.length=26)) && r.all λc=>decide (c.2.size<=16)
def shortb(d:List RW):Bool:=d.all short1
def Zep  {N:Nat}   {env:Ph} {H:Hp}  {F:Ph->Hp->Prop}   {o:Oper} {G:Type} {φ:G->Prop} {d:G->Ph} {k:G->Hp} {j e:Nat} {b:Bool} (q:ops[i]? = some o) (n:o.guard=some (j,b)) (p:(ops[j]?).bind (·.dst)=some e) (l:lk env e=some (.bool b)) (f:Nat.blt e N=true) (r:T P N sc M o env H φ d k)
  (h:∀g,φ g->LD P N sc M ops F rest (d g) (k g)) :
  LD P N sc M ops F ((i,1)::rest) env H:=r1g r q n p l f h
theorem Bm{f:Nat->Int}{k:Nat} : ∀{n:Nat},k<n->(∀i,i<n->i≠k->f i=0)->Ye f n=f k
 | 0,d,_=>absurd d (Nat.not_lt_zero _)
 | n+1,d,h=>by
  rw [Yj];by_cases e:k=n
  .subst e;rw [Gd λi hi=>h i O O,Int.zero_add]
  .rw [h n O (λx=>e x.symm),Bm O (λi hi=>h i O),Int.add_zero]
theorem Bv{p q:List Int}{a b:Nat}(d:∀i,a<i->cf p i=0)(e:∀i,b<i->cf q i=0):(ps p*ps q).c (a+b)=cf p a*cf q b:=by
 rw [PS.mul_c,Bm (k:=a) O λi hi f=>?_]
 .rw [Oh,Oh,show a+b-a=b by omega]
 .rw [Oh,Oh];rcases Nat.lt_or_ge a i with h|h
  .rw [d i h,Int.zero_mul]
  .rw [e (a+b-i) O,Int.mul_zero]
theorem Zk6(s e:List Int)(c d:Int)(f:PS)(t:Nat):(ps (Ct (Zm s c) (Zm e d))*f).c t=c*(ps s*f).c t-d*(ps e*f).c t:=by rw [PS.mul_c,PS.mul_c,PS.mul_c,<-Mr,Int.sub_eq_add_neg,<-Int.neg_mul,<-Mr,<-Ff];refine Yy λk _=>?_;rw [Oh,Oh,Oh,Ds,Yu,Yu];grind
theorem Yno{q r:List Int}(u:Tr q)(e:q≠[])(h:∀t,(ps s*ps q).c t=cf r t)(v:∀t,q.length-1<=t->cf r t=0):∀t,cf s t=0:=by
 have d:=u.mem e;have l:0<q.length:=List.length_pos_iff.2 e;have hs:tzl s=[]:=by
  rcases Zi6 (tzl s)with f|⟨z,y,f⟩
  .exact f
  .exfalso;have w:=Qc s;have j:tzl s≠[]:=by rw [f];simp
   have n:=w.mem j;have k:=Bv (p:=tzl s) (q:=q) (a:=(tzl s).length-1) (b:=q.length-1) (λi hi=>Yl O) (λi hi=>Yl O);have o:ps (tzl s)=ps s:=PS.ext' λi=>Ks s i;rw [o,h,v _ O]at k;rcases Int.mul_eq_zero.1 k.symm with g|g
   .exact n g
   .exact d g
 exact(Lz s).1 hs
theorem Kp(h:∀t,cf s t=0)(f:PS)(t:Nat):(ps s*f).c t=0:=by rw [PS.mul_c];exact Gd λk _=>by rw [Oh,h,Int.zero_mul]
theorem Oo{p q:List Int}(f:Tr p)(g:Tr q)(d:p≠[])(e:q≠[]):(Qn p q).length=p.length+q.length-1:=by have h:=List.length_pos_iff.2 d;have j:=List.length_pos_iff.2 e;unfold Qn;rw [Zab,Yp];right;rw [Yp,Nk,if_pos O,show p.length+q.length-1-1=(p.length-1)+(q.length-1) by omega,Bv (λi hi=>Yl O) (λi hi=>Yl O)];exact Int.mul_ne_zero (f.mem d) (g.mem e)
def mono(s:Nat)(c:Int):List Int:=List.replicate s 0 ++ [c]
theorem Zjq(s:Nat)(c:Int)(i:Nat):cf (mono s c) i=if i=s then c else 0:=by
 unfold mono;rw [Zd0,List.length_replicate];split
 .rw [if_neg O];unfold cf;simp [List.getD_eq_getElem?_getD,List.getElem?_replicate];split<;>rfl
 .rename_i h;split
  .rename_i d;subst d;simp [cf]
  .exact Yl O8
theorem Zk7(s:Nat)(c:Int)(f:PS)(t:Nat):(ps (mono s c)*f).c t=if s<=t then c*f.c (t-s)else 0:=by
 rw [PS.mul_c];split
 .rw [Bm (k:=s) O λi _ d=>by rw [Oh,Zjq,if_neg d,Int.zero_mul],Oh,Zjq,if_pos rfl]
 .exact Gd λk e=>by rw [Oh,Zjq,if_neg O,Int.zero_mul]
theorem Zhg{p q:List Int}(u:0<q.length)(r:q.length<=p.length):∀j,j<=p.length-q.length+1->∃s:List Int,∀t,cf q (q.length-1)^j*cf p t=(ps s*ps q).c t+cf (Pb p q j) t
 | 0,_=>⟨[],λt=>by rw [Kp (λt=>Yl (Nat.zero_le _)),Int.pow_zero];unfold Pb;omega⟩
 | j+1,B=>by
  obtain⟨s,v⟩:=Zhg u r j O;refine⟨Ct (Zm s (cf q (q.length-1))) (Zm (mono (p.length-1-j-(q.length-1)) (cf (Pb p q j) (p.length-1-j))) (-1)),λt=>?_⟩;rw [Zk6,Zk7];have d:=v t;show _=_+cf (Zib q (Pb p q j) (p.length-1-j)) t;rw [Int.pow_succ];rcases Nat.lt_or_ge t p.length with h|h
  .rw [Zvl (by rw [Lm];exact h)];generalize p.length-1-j-(q.length-1)=g;generalize cf (Pb p q j) (p.length-1-j)=R;generalize cf (Pb p q j) t=n at d ⊢;generalize (ps s*ps q).c t=X at d ⊢;generalize cf q (q.length-1)^j=L at d ⊢;generalize cf q (q.length-1)=l at d ⊢;have e:L*l*cf p t=l*X+n*l:=by rw [Int.mul_assoc,Int.mul_comm l,<-Int.mul_assoc,d];grind
   rw [e];by_cases f:g<=t
   .rw [if_pos f,Oh];by_cases o:t<g+q.length
    .rw [if_pos ⟨f,o⟩];omega
    .rw [if_neg O,Yl (p:=q) (i:=t-_) O];omega
   .rw [if_neg f,if_neg O];omega
  .have k:cf p t=0:=Yl h;have w:cf (Pb p q j) t=0:=Yl (by rw [Lm];exact h);have y:cf (Zib q (Pb p q j) (p.length-1-j)) t=0:=Yl (by rw [Zf9,Lm];exact h);have z:cf q (t-(p.length-1-j-(q.length-1)))=0:=Yl O;rw [k,w,Int.mul_zero,Int.add_zero]at d;rw [k,y,if_pos O,Oh,z,<-d];simp
theorem Zas(p:List Int){q:List Int}(e:q≠[]):∃(k:Nat) (s:List Int),∀t,cf q (q.length-1)^k*cf p t=(ps s*ps q).c t+cf (Qp p q) t:=by
 have d:0<q.length:=List.length_pos_iff.2 e;rcases Nat.lt_or_ge p.length q.length with h|h
 .refine⟨0,[],λt=>?_⟩;rw [Kp (λt=>Yl (Nat.zero_le _)),Int.pow_zero];unfold Qp;rw [if_pos h];omega
 .obtain⟨s,hs⟩:=Zhg d h _ (Nat.le_refl _);refine⟨p.length-q.length+1,s,λt=>?_⟩;rw [hs t];unfold Qp;rw [if_neg O,Ks]
theorem Oa(p:List Int){q:List Int}(e:q≠[]):(Qp p q).length<q.length:=by
 have d:0<q.length:=List.length_pos_iff.2 e;unfold Qp;split
 .assumption
 .have:=Zbg (p:=Pb p q (p.length-q.length+1)) (n:=q.length-1) λi hi=>Zkl d O _ (Nat.le_refl _) i O;omega
theorem Ix{p q:List Int}(d:Tr p):Tr (Qp p q):=by
 unfold Qp;split
 .exact d
 .exact Qc _
def Sim(a b:List Int):Prop:=∃m n:Int,m≠0/\n≠0/\∀i,m*cf a i=n*cf b i
def Sim.refl(a:List Int):Sim a a:=⟨1,1,O2,O2,λ_=>rfl⟩
def Sim.symm : Sim a b->Sim b a:=λ⟨m,n,d,e,h⟩=>⟨n,m,e,d,λi=>(h i).symm⟩
theorem Sim.trans : Sim a b->Sim b c->Sim a c:=λ⟨m,n,d,e,h⟩ ⟨u,v,f,g,k⟩=>
 ⟨m*u,n*v,Int.mul_ne_zero d f,Int.mul_ne_zero e g,λi=>by have j:=h i;have l:=k i;grind⟩
theorem Sim.zero(h:Sim a b)(hi:cf a i=0):cf b i=0:=by
 obtain⟨m,n,e,d,h⟩:=h;have:=h i;rw [hi,Int.mul_zero]at this;rcases Int.mul_eq_zero.1 this.symm with h|h
 .exact absurd h d
 .exact h
theorem Sim.len_le(h:Sim a b)(f:Tr b):b.length<=a.length:=by
 rcases Nat.lt_or_ge a.length b.length with e|e
 .exfalso;have d:b≠[]:=List.length_pos_iff.1 O;exact f.mem d (h.zero (Yl O))
 .exact e
def Sim.len(h:Sim a b)(d:Tr a)(e:Tr b):a.length=b.length:=Nat.le_antisymm (h.symm.len_le d) (h.len_le e)
theorem Sim.nil(h:Sim a b)(e:Tr b)(d:a=[]):b=[]:=by have:=h.len_le e;rw [d]at this;exact List.eq_nil_of_length_eq_zero (by simpa using this)
theorem Zb4(c:Int):∀(p:List Int) (g:Int),0<=g->(p.map (· * c)).foldl (λg c=>(Int.gcd g c:Int)) (g*c.natAbs)=p.foldl (λg c=>(Int.gcd g c:Int)) g*c.natAbs
 | [],g,_=>rfl
 | x::p,g,hg=>by
  rw [List.map_cons,List.foldl_cons,List.foldl_cons,<-Zb4 c p _ O];congr 1;have:Int.gcd (g*(c.natAbs:Int)) (x*c)=Int.gcd g x*c.natAbs:=by unfold Int.gcd;rw [Int.natAbs_mul,Int.natAbs_mul,Int.natAbs_natCast,Nat.gcd_mul_right]
  rw [this];push_cast;rfl
theorem Zhk(p:List Int)(c:Int):Ym (p.map (· * c))=Ym p*c.natAbs:=by have:=Zb4 c p 0 (Int.le_refl _);rw [Int.zero_mul]at this;exact this
theorem Gg(p:List Int)(i:Nat):cf (Zz p) i*Ym p=cf p i:=by rw [Za7];exact Int.ediv_mul_cancel (Lo p i)
def Ycl:Zz []=[]:=rfl
def Bt{p:List Int}(h:Tr p)(d:p≠[]):Ym p≠0:=λe=>h.mem d ((Zcn p).1 e _)
theorem Kd{p:List Int}(h:Tr p)(e:p≠[]):Ym (Zz p)=1:=by
 have j:=Bt h e;have d:=Zhk (Zz p) (Ym p);rw [show(Zz p).map (· * Ym p)=p from Ia (by rw [List.length_map,Ya]) λi _=>by rw [Zc3 _ _ O7];exact Gg p i]at d;have k:=Nb p;have f:Ym p*(Ym (Zz p)-1)=0:=by rw [Int.mul_sub,Int.mul_one,Int.mul_comm];have:((Ym p).natAbs:Int)=Ym p:=O;rw [this]at d;omega
 rcases Int.mul_eq_zero.1 f with g|g<;>omega
theorem Zfv{p:List Int}(h:Ym p=1):Zz p=p:=Ia (Ya p) λi _=>by rw [Za7,h,Int.ediv_one]
theorem Br{p:List Int}(h:Tr p):Zz (Zz p)=Zz p:=by
 by_cases d:p=[]
 .subst d;rfl
 .exact Zfv (Kd h d)
theorem Qu{p:List Int}(h:Tr p):Sim (Zz p) p:=by
 by_cases d:p=[]
 .subst d;exact Sim.refl _
 .exact⟨Ym p,1,Bt h d,O2,λi=>by rw [Int.one_mul,Int.mul_comm];exact Gg p i⟩
def Xe(p:List Int):List Int:=Hx (Zz p)
theorem Zkd{x y:List Int}(q:Tr x)(r:Tr y)(t:x≠[])(f:Ym x=1)(g:Ym y=1)(h:Sim x y):x=y\/∀i,cf x i=- cf y i:=by
 have d:=h.len q r;obtain⟨m,n,o,p,e⟩:=h;have j:=Zhk x m;have k:=Zhk y n;rw [show x.map (· * m)=y.map (· * n)from Ia (by simp [d]) λi _=>by rw [Zc3 _ _ O7,Zc3 _ _ O7,Int.mul_comm,Int.mul_comm (cf y i)];exact e i,k,f,g]at j
 have l:m=n\/m=-n:=O;rcases l with rfl|rfl
 .exact .inl (Ia d λi _=>Int.eq_of_mul_eq_mul_left o (e i))
 .exact .inr λi=>Int.eq_of_mul_eq_mul_left p (by have:=e i;grind)
theorem El(g:List Int)(i:Nat):cf (Hx g) i=if g.length≠0/\cf g (g.length-1)<0 then-cf g i else cf g i:=by
 unfold Hx;split
 .rw [Yu];omega
 .rfl
theorem Ov{g:List Int}(h:Tr g):Tr (Hx g):=by
 unfold Hx;split
 .exact Qk _ _
 .exact h
theorem Hb(g:List Int):Sim (Hx g) g:=by
 by_cases h:g.length≠0/\cf g (g.length-1)<0
 .exact⟨-1,1,O2,O2,λi=>by rw [El,if_pos h];omega⟩
 .exact⟨1,1,O2,O2,λi=>by rw [El,if_neg h]⟩
theorem Zzp(g:Tr a)(j:Tr b)(h:Sim a b):Xe a=Xe b:=by
 by_cases f:a=[]
 .rw [h.nil j f,f]
 .have n:b≠[]:=λe=>f (h.symm.nil g e);have hs:Sim (Zz a) (Zz b):=(Qu g).trans (h.trans (Qu j).symm);have q:=Xb g;have k:=Xb j;have o:=hs.len q k;have d:Zz a≠[]:=λe=>f (List.eq_nil_of_length_eq_zero (by rw [<-Ya,e];rfl));rcases Zkd q k d (Kd g f) (Kd j n) hs with e|e
  .unfold Xe;rw [e]
  .unfold Xe;refine(Ov q).ext (Ov k) λi=>?_;rw [El,El,<-o,e i,e ((Zz a).length-1)];have t:cf (Zz b) ((Zz a).length-1)≠0:=by rw [o];exact k.mem (λl=>d (List.eq_nil_of_length_eq_zero (by rw [o,l];rfl)))
   have p:(Zz a).length≠0:=λl=>d (List.eq_nil_of_length_eq_zero l);by_cases r:cf (Zz b) ((Zz a).length-1)<0
   .rw [if_neg O,if_pos ⟨p,r⟩]
   .rw [if_pos O,if_neg O];omega
theorem Zus:∀(f:Nat) {a b:List Int},Tr a->Tr b->Tr (eu f a b)
 | 0,_,_,h,_=>h
 | f+1,a,b,d,e=>by
  unfold eu;split
  .exact d
  .exact Zus f e (Xb (Ix d))
theorem Yah:∀(f:Nat) {a b:List Int},Tr a->Tr b->Zz a=a->Zz b=b->Zz (eu f a b)=eu f a b
 | 0,_,_,_,_,h,_=>h
 | f+1,a,b,d,j,e,g=>by
  unfold eu;split
  .exact e
  .exact Yah f j (Xb (Ix d)) g (Br (Ix d))
theorem Zj4{p q:List Int}(d:Tr p)(e:Tr q):Tr (gA p q):=by unfold gA;split<;>exact Xb ‹_›
theorem Zj3{p q:List Int}(d:Tr p)(e:Tr q):Tr (gB p q):=by unfold gB;split<;>exact Xb ‹_›
theorem Ygy{p q:List Int}(d:Tr p)(e:Tr q):Mh F p q=Xe (eu F (gA p q) (gB p q)):=by
 unfold Mh Xe;rw [Yah F (Zj4 d e) (Zj3 d e)]
 .unfold gA;split
  .exact Br e
  .exact Br d
 .unfold gB;split
  .exact Br d
  .exact Br e
def chk:Nat->Nat->Nat->Nat->Nat->Bool
 | 0,_,d,_,_=>Nat.beq d 0
 | f+1,e,d,A,B=>Nat.beq d 0 || (bif Nat.blt e d then chk f d e B A else
   Nat.ble (A+(e-d+1)*B) 65537 && (List.range d).all λl=>chk f d l B (bif Nat.ble l 1 then 2 else A+(e-d+1)*B))
theorem cp_nf{p:List Int}{y z:Int}{n:Nat}(d:Sz n p)(k:bl x.natAbs<=m)(l:bl y.natAbs<=m)(o:bl z.natAbs<=m)(j:p.length<=25)(h:n+24*(m+1)+8<=65536):Pa p+(p.length-1)*(Pa [x,y,z]+1)+8<=65536:=by
 have e:=Pr d;have f:Pa [x,y,z]<=m:=by simp only [Pa];omega
 have g:(p.length-1)*(Pa [x,y,z]+1)<=24*(m+1):=Nat.mul_le_mul O O;omega
theorem cp_not{p:List Int}{y z:Int}(h:Pa p+(p.length-1)*(Pa [x,y,z]+1)+8<=65536):¬Zl3 p x y z:=λd=>by have:=d.2;omega
theorem Zet(p:List Int)(x y z:Int):(Ld p x y z).length<=p.length:=by
 unfold Ld;split
 .exact Nat.zero_le _
 .refine Nat.le_trans (Mx _) ?_;rw [Zct];omega
theorem Zt7(x y:Int):Le x y∣x:=by
 unfold Le;split
 .exact Int.neg_dvd.2 (Int.gcd_dvd_left ..)
 .exact Int.gcd_dvd_left ..
theorem Zld(x y:Int):Le x y∣y:=by
 unfold Le;split
 .exact Int.neg_dvd.2 (Int.gcd_dvd_right ..)
 .exact Int.gcd_dvd_right ..
def s8(l:List Int):Prop:=∀x∈l,(Qh x.natAbs).size<=8
abbrev Z0:SL×List Int:=((none,0,0),[])
theorem vp_eu:∀(f:Nat) {a b:List Int},Vp a->Vp b->eok f a b->Vp (eu f a b)
 | 0,_,_,h,_,_=>h
 | f+1,a,b,d,e,h=>by
  unfold eu;split
  .exact d
  .rcases h with h|h
   .contradiction
   .exact vp_eu f e (Iw (Zcd d h.1)) h.2
theorem Yd4{g:List Int}(h:Vp g):Vp (Hx g):=by
 unfold Hx;split
 .refine⟨λi=>by rw [Yu];exact Zb0 h.sz i,Qk _ _,Nat.le_trans (Oz _ _) h.len⟩
 .exact h
def Ylk{p q:List Int}(d:Vp p)(e:Vp q)(h:eok F (gA p q) (gB p q)):Vp (Mh F p q):=Yd4 (vp_eu F (vp_gA d e) (vp_gB d e) h)
def pevn(p:List Int)(x y:Int)(n:Nat):Int:=Ye (λi=>cf p i*(x^i*y^(n-1-i))) n
def dn(p:List Int)(y:Int):Int:=y^(p.length-1)
def Fc(q:List Int):Qn [] q=[]:=Zav (.inl rfl)
def Zbs(p:List Int):Qn p []=[]:=Zav (.inr rfl)
theorem Yhz(N D:Int):N/Le N D*D=N*(D/Le N D):=by have e:=Int.ediv_mul_cancel (Zt7 N D);have f:=Int.ediv_mul_cancel (Zld N D);generalize N/Le N D=n at *;generalize D/Le N D=d at *;generalize Le N D=g at *;subst e f;grind
theorem Yc0{N D:Int}(h:0<D):0<D/Le N D:=by
 have f:Le N D=(Int.gcd N D:Int):=if_neg O;have g:=Int.ediv_mul_cancel (Zld N D);rw [f]at g ⊢;generalize D/(Int.gcd N D:Int)=d at *;rcases Int.lt_or_le 0 d with e|e
 .exact e
 .exfalso;have:d*(Int.gcd N D:Int)<=0:=Int.mul_nonpos_of_nonpos_of_nonneg e O;omega
section
variable {p q:List Int}
theorem Zey(w:Tr p)(n:Tr q)(h:p≠[])(e:q≠[]):∀j,j<=p.length->∀t,cf (Pg (Qn p q) q j) t=(ps (p.take (p.length-j))*ps q).c t
 | 0,_,t=>by rw [Nat.sub_zero,List.take_length];exact Hg p q t
 | j+1,G,t=>by
  have y:=Zey w n h e j O;have H:=List.length_pos_iff.2 h;have I:=List.length_pos_iff.2 e;have v:=Oo w n h e;have B:Pg (Qn p q) q (j+1)=Zly q (Pg (Qn p q) q j) (p.length-1-j):=by show Zly q _ _=_;rw [v];congr 1;omega
  have o:=n.mem e;have d:cf (Pg (Qn p q) q j) (p.length-1-j+q.length-1)=cf p (p.length-1-j)*cf q (q.length-1):=by rw [y,show p.length-1-j+q.length-1=(p.length-1-j)+(q.length-1) by omega,Bv (λi hi=>by rw [Ei,if_neg O]) (λi hi=>Yl O),Ei,if_pos O]
  have l:dq q (Pg (Qn p q) q j) (p.length-1-j)=cf p (p.length-1-j):=by unfold dq;rw [d];exact Int.mul_ediv_cancel _ o
  have D:(ps (p.take (p.length-j))*ps q).c t=(ps (p.take (p.length-(j+1)))*ps q).c t+(ps (mono (p.length-1-j) (cf p (p.length-1-j)))*ps q).c t:=by
   rw [PS.mul_c,PS.mul_c,PS.mul_c,<-Ff];refine Yy λk _=>?_;rw [Oh,Oh,Oh,Oh,Ei,Ei,Zjq];by_cases f:k=p.length-1-j
   .rw [if_pos O,if_neg O,if_pos f,<-f];omega
   .rw [if_neg f];by_cases r:k<p.length-j
    .rw [if_pos r,if_pos O];omega
    .rw [if_neg r,if_neg O];omega
  rw [B];unfold Zly;rw [Nk,Zai,v,l,y,D,Zk7,Oh];by_cases u:t<p.length+q.length-1
  .rw [if_pos u];by_cases g:p.length-1-j<=t
   .rw [if_pos g];by_cases z:t<p.length-1-j+q.length
    .rw [if_pos ⟨g,z⟩];omega
    .rw [if_neg O,Yl (p:=q) O];omega
   .rw [if_neg g,if_neg O];omega
  .rw [if_neg u,PS.mul_c];refine(Gd λk _=>?_).symm;rw [Oh,Oh,Ei];split
   .rw [Yl (p:=q) O,Int.mul_zero]
   .rw [Int.zero_mul]
theorem Zpp(j:Tr p)(l:Tr q)(e:q≠[]):pdv (Qn p q) q/\Kz (Qn p q) q=p:=by
 by_cases d:p=[]
 .subst d;rw [Fc];exact⟨.inl rfl,rfl⟩
 have v:=List.length_pos_iff.2 d;have w:=List.length_pos_iff.2 e;have u:=Oo j l d e;have o:=l.mem e;have r:∀k,k<=p.length-1->cf (Pg (Qn p q) q (p.length-1-k)) (k+q.length-1)=cf p k*cf q (q.length-1):=λk f=>by rw [Zey j l d e _ O,show k+q.length-1=k+(q.length-1) by omega,Bv (λi hi=>by rw [Ei,if_neg O]) (λi hi=>Yl O),Ei,if_pos O]
 have h:(Qn p q).length-q.length=p.length-1:=O;have n:Qn p q≠[]:=List.length_pos_iff.1 O;refine⟨.inr ⟨O,λk f=>?_,?_⟩,?_⟩
 .unfold Hd;rw [h]at f ⊢;rw [r k f];exact Int.mul_emod_left _ _
 .rw [h,show p.length-1+1=p.length by omega];refine(Lz _).2 λi=>?_;rw [Zey j l d e _ (Nat.le_refl _),Nat.sub_self,List.take_zero];exact Kp (λt=>Yl (Nat.zero_le _)) _ _
 .rw [Ztm n];unfold Ygm;rw [h,show p.length-1+1=p.length by omega,Gs (g:=cf p) λk f=>?_,Zdr,Zab j];unfold Yas dq;rw [h,r k O];exact Int.mul_ediv_cancel _ o
end
def Dv(g a:List Int):Prop:=∃(k:Int) (s:List Int),k≠0/\∀t,k*cf a t=(ps s*ps g).c t
theorem Ztu(f:PS)(t:Nat):(ps [1]*f).c t=f.c t:=by rw [PS.mul_c,Bm (k:=0) O λi _ d=>by rw [Oh,Yl (p:=[1]) O8,Int.zero_mul],Oh,show cf [1] 0=1 from rfl,Int.one_mul,Nat.sub_zero]
theorem Dv.refl(a:List Int):Dv a a:=⟨1,[1],O2,λt=>by rw [Ztu,Int.one_mul,Oh]⟩
theorem Dv.nil(g:List Int):Dv g []:=⟨1,[],O2,λt=>by rw [Kp (λt=>Yl (Nat.zero_le _)),Yl (Nat.zero_le _)];rfl⟩
theorem Dv.sim{g:List Int} : Dv g a->Sim a b->Dv g b:=λ⟨k,s,d,h⟩ ⟨m,n,j,f,e⟩=>
 ⟨k*n,Zm s m,Int.mul_ne_zero d f,λt=>by rw [PS.mul_c,show(λi=>(ps (Zm s m)).c i*(ps g).c (t-i))=λi=>m*((ps s).c i*(ps g).c (t-i))from funext λi=>by rw [Oh,Oh,Oh,Yu];grind,Mr,<-PS.mul_c,<-h,Int.mul_assoc,<-e];grind⟩
theorem Dv.lin{g:List Int}(r:Dv g a)(w:Dv g b)(s:List Int)(L:Int)(o:L≠0)(h:∀t,L*cf c t=(ps s*ps a).c t+cf b t):Dv g c:=by
 obtain⟨k,u,y,j⟩:=r;obtain⟨m,v,z,l⟩:=w;refine⟨L*(k*m),Hh (Zm (Qn s u) m) (Zm v k),Int.mul_ne_zero o (Int.mul_ne_zero y z),λt=>?_⟩;have D:ps g=ps g:=rfl;have d:k*(ps s*ps a).c t=(ps (Qn s u)*ps g).c t:=by rw [Zje,PS.mul_assoc',PS.mul_c,PS.mul_c,<-Mr];refine Yy λi _=>?_;rw [<-j,Oh,Oh];grind
 have e:(ps (Hh (Zm (Qn s u) m) (Zm v k))*ps g).c t=m*(ps (Qn s u)*ps g).c t+k*(ps v*ps g).c t:=by rw [PS.mul_c,PS.mul_c,PS.mul_c,<-Mr,<-Mr,<-Ff];refine Yy λi _=>?_;rw [Oh,Oh,Oh,Oh,Ej,Yu,Yu];grind
 have f:=h t;have n:=l t;rw [e,<-d,<-n];generalize (ps s*ps a).c t=X at *;generalize cf c t=C at *;generalize cf b t=B at *;have:L*(k*m)*C=k*m*(L*C):=O4;rw [this,f];grind
theorem eu_dv:∀(f:Nat) {a b:List Int},Tr a->Tr b->eok f a b->Dv (eu f a b) a/\Dv (eu f a b) b
 | 0,a,b,l,g,h=>by rw [show b=[]from h];exact⟨Dv.refl _,Dv.nil _⟩
 | f+1,a,b,l,g,h=>by
  by_cases d:b=[]
  .subst d;rw [Zht];exact⟨Dv.refl _,Dv.nil _⟩
  .rcases h with h|h
   .exact absurd h d
   .have e:eu (f+1) a b=eu f b (Zz (Qp a b)):=by
     conv=>lhs;unfold eu
     rw [if_neg d]
    rw [e];have t1:=Ix (q:=b) l;obtain⟨j,n⟩:=eu_dv f g (Xb t1) h.2;obtain⟨k,s,hs⟩:=Zas a d;exact⟨j.lin (n.sim (Qu t1)) s _ (Kq (g.mem d) k) hs,j⟩
theorem Dv.of_sim{g d:List Int} : Dv g a->Sim g d->Dv d a:=λ⟨k,s,f,h⟩ ⟨m,n,j,l,e⟩=>
 ⟨m*k,Zm s n,Int.mul_ne_zero j f,λt=>by rw [Int.mul_assoc,h,PS.mul_c,PS.mul_c,<-Mr];refine Yy λi _=>?_;rw [Oh,Oh,Oh,Oh,Yu];have:=e (t-i);grind⟩
theorem Dv.zero(f:Tr a)(h:Dv [] a):a=[]:=by
 obtain⟨k,s,g,h⟩:=h;rw [<-Zab f,Lz];intro i;have e:=h i;rw [PS.mul_comm',Kp (λt=>Yl (Nat.zero_le _))]at e;rcases Int.mul_eq_zero.1 e with d|d
 .exact absurd d g
 .exact d
theorem Zdl{p q:List Int}(g:Tr p)(j:Tr q)(h:eok F (gA p q) (gB p q)):Dv (Mh F p q) p/\Dv (Mh F p q) q:=by
 have k:=Zj4 g j;have l:=Zj3 g j;obtain⟨d,e⟩:=eu_dv F k l h;have hs:Sim (eu F (gA p q) (gB p q)) (Mh F p q):=(Hb _).symm;have d:=d.of_sim hs;have e:=e.of_sim hs;by_cases f:p.length<q.length
 .rw [show gA p q=Zz q from if_pos f]at d;rw [show gB p q=Zz p from if_pos f]at e;exact⟨e.sim (Qu g),d.sim (Qu j)⟩
 .rw [show gA p q=Zz p from if_neg f]at d;rw [show gB p q=Zz q from if_neg f]at e;exact⟨d.sim (Qu g),e.sim (Qu j)⟩
def Zff{p q:List Int}(d:Tr p)(e:Tr q):Tr (Mh F p q):=Ov (Zus F (Zj4 d e) (Zj3 d e))
theorem Zem(p:List Int){c:Int}(h:c≠0):Sim p (Zm p c):=⟨c,1,h,O2,λi=>by rw [Yu];grind⟩
def fin8(d A:Nat):Bool:=Nat.ble d 2 || Nat.ble (64+(9-d)*A) 65536
def chk2:Nat->Nat->Nat->Nat->Nat->Bool
 | 0,d,_,A,_=>fin8 d A
 | f+1,d,e,A,B=>bif Nat.beq e 0 then fin8 d A else bif Nat.blt d e then chk2 f e d B A else
   (List.range e).all λl=>chk2 f e l B (bif Nat.ble l 1 then 2 else A+(d-e+1)*B)
def Zbv{g:List Int}(h:Tr g):(Hx g).length=g.length:=(Hb g).len (Ov h) h
theorem Zig(g:List Int):Ym (Hx g)=Ym g:=by
 have d:Ym (Hx g)∣Ym g:=Fn λi=>by
  have h:=Lo (Hx g) i;rw [El]at h;split at h
  .exact Int.dvd_neg.1 h
  .exact h
 have e:Ym g∣Ym (Hx g):=Fn λi=>by
  rw [El];split
  .exact Int.dvd_neg.2 (Lo g i)
  .exact Lo g i
 exact Int.dvd_antisymm (Nb _) (Nb _) d e
theorem Zkz{p q:List Int}(f:Tr p)(g:Tr q)(d:Mh F p q≠[]):Ym (Mh F p q)=1:=by rw [Ygy f g]at d ⊢;unfold Xe at d ⊢;rw [Zig];refine Kd (Zus F (Zj4 f g) (Zj3 f g)) λe=>d ?_;rw [e];rfl
end Go.Sky
namespace Go.Sky
variable{a p xs:List Int}{P:Nat->Prop}
def Zap(xs:List Int):Prop:=xs.length=0\/(xs.length+2)*(xs.length+2)*(Pa xs+16)<=65536
instance (xs:List Int):Decidable (Zap xs):=by unfold Zap;infer_instance
def sqf(F:Nat)(xs:List Int):List Int:=Kz (Xe xs) (Mh F (Xe xs) (Xd (Xe xs)))
def Yl6(F:Nat)(xs:List Int):Prop:=(∀i,i<xs.length->bl (cf (Xe xs) (i+1)*((i:Int)+1)).natAbs<=65536)/\¬Zn5 (Xe xs) (Xd (Xe xs))/\eok F (gA (Xe xs) (Xd (Xe xs))) (gB (Xe xs) (Xd (Xe xs)))/\
 Cy (Xe xs) (Mh F (Xe xs) (Xd (Xe xs)))=0/\pdv (Xe xs) (Mh F (Xe xs) (Xd (Xe xs)))
def Nn(x y:List Int):List Int:=if cf y (y.length-1)<0/\(x.length-y.length+1)%2=1 then Zz (Qp x y)else Zm (Zz (Qp x y)) (-1)
def cok:Nat->List Int->List Int->Prop
 | 0,_,y=>y=[]
 | f+1,x,y=>y=[]\/(Cy x y=0/\y.length<=x.length/\cok f y (Nn x y))
def Mz:Nat->List Int->List Int->List (List Int)
 | 0,x,_=>[x]
 | f+1,x,y=>if y=[]then [x]else x::Mz f y (Nn x y)
theorem Bo(f:Nat)(x:List Int):Mz f x []=[x]:=by cases f<;>rfl
theorem Zl5{f:Nat}{b:List Int}(h:cok f a b)(c:b≠[]):∃g,f=g+1/\Cy a b=0/\b.length<=a.length/\cok g b (Nn a b)/\Mz f a b=a::Mz g b (Nn a b):=by
 cases f with
 | zero=>exact absurd h c
 | succ g=>
  rcases h with h|h
  .exact absurd h c
  .exact⟨g,rfl,h.1,h.2.1,h.2.2,by show(if b=[]then [a]else _)=_;rw [if_neg c]⟩
def chn(F:Nat)(xs:List Int):List (List Int):=Mz F (sqf F xs) (Zz (Xd (sqf F xs)))
def Ae(F:Nat)(xs:List Int):Prop:=Yl6 F xs/\(∀i,i<xs.length->bl (cf (sqf F xs) (i+1)*((i:Int)+1)).natAbs<=65536)/\cok F (sqf F xs) (Zz (Xd (sqf F xs)))
theorem Yd3(h:Vp p):Vp (Xe p):=by
 unfold Xe;have b:=Iw h;refine⟨λi=>?_,Ov b.tr,by rw [Zbv b.tr];exact b.len⟩;rw [El];split
 .rw [Int.natAbs_neg];exact b.sz i
 .exact b.sz i
theorem Pm(h:Tr p):(Xe p).length=p.length:=by unfold Xe;rw [Zbv (Xb h),Ya]
theorem Zr9{x y:List Int}(c:Vp x)(b:Cy x y=0):Vp (Nn x y):=by
 have h:=Iw (Zcd c b);unfold Nn;split
 .exact h
 .exact⟨λi=>by rw [Yu];exact Zb0 h.sz i,Qk _ _,Nat.le_trans (Oz _ _) h.len⟩
def Mn(s:Int×Int)(x:Int):Int×Int:=if x=0 then s else(if x=-s.2 then s.1+1 else s.1,x)
def chg(l:List Int):Int:=(l.foldl Mn (0,0)).1
def Zeu{α β:Type}(f:α->β->α)(a:α)(l:List β)(x:β):(l ++ [x]).foldl f a=f (l.foldl f a) x:=O7
theorem chg1_n(s:Int×Int)(x:Int):(Mn s x).1=s.1\/(Mn s x).1=s.1+1:=by
 unfold Mn;split
 .exact .inl rfl
 .dsimp only;split
  .exact .inr rfl
  .exact .inl rfl
def sgs(b:List (List Int))(x y:Int):List Int:=b.map λp=>(pev p x y).sign
def sgr(b:List (List Int)):List Int:=b.map λp=>(cf p (p.length-1)).sign
def sgl(b:List (List Int)):List Int:=b.map λp=>if p.length%2=0 then-(cf p (p.length-1)).sign else(cf p (p.length-1)).sign
def smost(xs:List Int):Nat:=(xs.take (xs.length-1)).foldl (λm c=>max m c.natAbs) 0
def sbound(xs:List Int):Int:=((smost xs/(cf xs (xs.length-1)).natAbs:Nat):Int)+2
def Zxr(xs:List Int):Int:=if xs.length=0 then 3 else if Zap xs then 0 else 7
def ef(z:Int×Int):Bool:=decide (512<bl z.1.natAbs) || decide (512<bl z.2.natAbs)
def chk2r(xs:List Int)(x y b c:Int):Int:=if xs.length=0 then 3 else if 0<x*c-b*y then 3 else if Zap xs/\ef (x,y)=false/\ef (b,c)=false then 0 else 7
theorem Ype(b:xs≠[])(h:Zap xs):Zxr xs=0:=by unfold Zxr;rw [if_neg (λe=>b (List.eq_nil_of_length_eq_zero e)),if_pos h]
theorem Zpv(h:¬cf (Zz xs) ((Zz xs).length-1)<0):Xe xs=Zz xs:=by unfold Xe Hx;rw [if_neg O]
theorem Zpw(b:(Zz xs).length≠0)(h:cf (Zz xs) ((Zz xs).length-1)<0):Xe xs=Zm (Zz xs) (-1):=by unfold Xe Hx;rw [if_pos ⟨b,h⟩]
theorem Zev : ∀n,P n->∃m,P m/\∀k,k<m->¬P k:=by
 intro n
 induction n using Nat.strongRecOn with
 | _ n e=>
  intro h;by_cases d:∃k,k<n/\P k
  .obtain⟨k,c,b⟩:=d;exact e k c b
  .exact⟨n,h,λk c b=>d ⟨k,c,b⟩⟩
theorem Yc2{n:Nat}(h:2<=n):∃p,2<=p/\p∣n/\∀d,2<=d->d∣n->p<=d:=by
 obtain⟨p,⟨e,f⟩,g⟩:=Zev (P:=λd=>2<=d/\d∣n) n ⟨h,Nat.dvd_refl n⟩;exact⟨p,e,f,λd i c=>by
  rcases Nat.lt_or_ge d p with b|b
  .exact absurd ⟨i,c⟩ (g d b)
  .exact b⟩
theorem Zuf{n p:Nat}(m:2<=p)(g:p∣n)(i:∀d,2<=d->d∣n->p<=d)(r:0<n){x y:Int}(h:(p:Int)∣x*y):(p:Int)∣x\/(p:Int)∣y:=by
 by_cases f:(p:Int)∣x
 .exact .inl f
 .right;have k:Nat.gcd p x.natAbs=1:=by
   have e:=Nat.gcd_dvd_left p x.natAbs;have l:0<Nat.gcd p x.natAbs:=Nat.gcd_pos_of_pos_left _ O;rcases Nat.lt_or_ge (Nat.gcd p x.natAbs) 2 with b|b
   .omega
   .have o:=i _ b (Nat.dvd_trans e g);have q:=Nat.le_of_dvd O e;exfalso;refine f (Int.natAbs_dvd_natAbs.1 ?_);rw [Int.natAbs_natCast];have j:Nat.gcd p x.natAbs=p:=O;rw [<-j];exact Nat.gcd_dvd_right _ _
  have c:=Int.natAbs_dvd_natAbs.2 h;rw [Int.natAbs_natCast,Int.natAbs_mul]at c;refine Int.natAbs_dvd_natAbs.1 ?_;rw [Int.natAbs_natCast];exact(show Nat.Coprime p x.natAbs from k).dvd_of_dvd_mul_left c
theorem gauss{g:List Int}(hg:Ym g=1):∀(n:Nat) (k:Int) (s:List Int),k.natAbs=n->k≠0->(∀t,k*cf a t=(ps s*ps g).c t)->∃q:List Int,∀t,cf a t=(ps q*ps g).c t:=by
 intro n
 induction n using Nat.strongRecOn with
 | _ n ih=>
  intro k s l S h;rcases Nat.lt_or_ge n 2 with N|N
  .have F:k*k=1:=by have:k=1\/k=-1:=O;rcases this with e|e<;>subst e<;>rfl
   refine⟨Zm s k,λt=>?_⟩;have e:(ps (Zm s k)*ps g).c t=k*(ps s*ps g).c t:=by rw [PS.mul_c,PS.mul_c,<-Mr];exact Yy λi _=>by rw [Oh,Oh,Oh,Yu];grind
   rw [e,<-h,<-Int.mul_assoc,F,Int.one_mul]
  .obtain⟨p,V,W,pm⟩:=Yc2 N;have H:∀{x y:Int},(p:Int)∣x*y->(p:Int)∣x\/(p:Int)∣y:=Zuf V W pm O;have o:(p:Int)∣k:=Int.natAbs_dvd_natAbs.1 (by rw [Int.natAbs_natCast,l];exact W);have v:∃j,¬(p:Int)∣cf g j:=Classical.byContradiction λr=>by have:(p:Int)∣Ym g:=Fn λi=>Classical.byContradiction λhy=>r ⟨i,hy⟩;rw [hg]at this;have:=Int.le_of_dvd O2 this;omega
   obtain⟨j0,B⟩:=v;obtain⟨j,hj,D⟩:=Zev (P:=λj=>¬(p:Int)∣cf g j) j0 B;have hs:∀i,(p:Int)∣cf s i:=λi0=>Classical.byContradiction λw=>by
    obtain⟨i,hi,z⟩:=Zev (P:=λi=>¬(p:Int)∣cf s i) i0 w;have Q:=h (i+j);rw [PS.mul_c]at Q;have M:∀m,m<=i+j+1->(p:Int)∣Ye (λk=>if k=i then 0 else(ps s).c k*(ps g).c (i+j-k)) m:=λm=>by
     induction m with
     | zero=>intro _;exact Int.dvd_zero _
     | succ m I=>
      intro hm;rw [Yj];refine Int.dvd_add (I O) ?_;split
      .exact Int.dvd_zero _
      .rename_i a0;rw [Oh,Oh];rcases Nat.lt_or_ge m i with u|u
       .exact Int.dvd_trans (Classical.byContradiction λr=>z m u r) (Int.dvd_mul_right _ _)
       .exact Int.dvd_trans (Classical.byContradiction λr=>D (i+j-m) O r) (Int.dvd_mul_left _ _)
    have Y:Ye (λk=>(ps s).c k*(ps g).c (i+j-k)) (i+j+1)=Ye (λk=>if k=i then 0 else(ps s).c k*(ps g).c (i+j-k)) (i+j+1)+cf s i*cf g j:=by
     have Z:Ye (λk=>(ps s).c k*(ps g).c (i+j-k)) (i+j+1)=Ye (λk=>(if k=i then 0 else(ps s).c k*(ps g).c (i+j-k))+(if k=i then(ps s).c k*(ps g).c (i+j-k)else 0)) (i+j+1):=
      Yy λk _=>by split<;>omega
     rw [Z,Ff,Bm (f:=λk=>if k=i then(ps s).c k*(ps g).c (i+j-k)else 0) (k:=i) O (λq _ hq=>if_neg hq),if_pos rfl,Oh,Oh,show i+j-i=j by omega]
    rw [Y]at Q;have u:(p:Int)∣cf s i*cf g j:=by have d:cf s i*cf g j=k*cf a (i+j)-Ye (λk=>if k=i then 0 else(ps s).c k*(ps g).c (i+j-k)) (i+j+1):=O;rw [d];exact Int.dvd_sub (Int.dvd_trans o (Int.dvd_mul_right _ _)) (M _ (Nat.le_refl _))
    rcases H u with d|d
    .exact hi d
    .exact hj d
   obtain⟨c,b⟩:=o;have G:(p:Int)≠0:=O;refine ih c.natAbs ?_ c (s.map (· / (p:Int))) rfl ?_ ?_
   .rw [<-l,b,Int.natAbs_mul,Int.natAbs_natCast];have:0<c.natAbs:=by
     rcases Nat.eq_zero_or_pos c.natAbs with R|R
     .rw [show c=0 by omega]at b;simp at b;exact absurd b S
     .exact R
    have:=Nat.mul_le_mul_right c.natAbs V;omega
   .intro e;rw [e]at b;simp at b;exact S b
   .intro t;refine Int.eq_of_mul_eq_mul_left G ?_;rw [<-Int.mul_assoc,<-b,h,PS.mul_c,PS.mul_c,<-Mr];refine Yy λi _=>?_;rw [Oh,Oh,Oh,Zc3 _ _ O7,<-Int.mul_assoc,Int.mul_ediv_cancel' (hs i)]
def ev1:List Int->Int->Int
 | [],_=>0
 | c::r,t=>c+t*ev1 r t
def sdv:List Int->Int->List Int
 | [],_=>[]
 | [_],_=>[]
 | _::c::r,t=>ev1 (c::r) t::sdv (c::r) t
theorem Zlg:∀(u:List Int) (t:Int),(sdv u t).length=u.length-1
 | [],_=>rfl
 | [_],_=>rfl
 | _::c::r,t=>by unfold sdv;rw [List.length_cons,Zlg (c::r) t];simp
theorem Yaf:∀(u:List Int) (t x:Int),ev1 u x=ev1 u t+(x-t)*ev1 (sdv u t) x
 | [],t,x=>by simp [ev1,sdv]
 | [c],t,x=>by simp [ev1,sdv]
 | a::c::r,t,x=>by have b:=Yaf (c::r) t x;show a+x*ev1 (c::r) x=a+t*ev1 (c::r) t+(x-t)*(ev1 (c::r) t+x*ev1 (sdv (c::r) t) x);rw [b];generalize ev1 (c::r) t=A;generalize ev1 (sdv (c::r) t) x=B;grind
theorem Dw(a:Int)(u:List Int)(i:Nat):cf (a::u) i=if i=0 then a else cf u (i-1):=by
 cases i with
 | zero=>rfl
 | succ i=>simp [cf]
def Zbz(i:Nat):cf [] i=0:=Yl (Nat.zero_le _)
theorem Ykb:∀(u:List Int) (t:Int) (i:Nat),cf u (i+1)=cf (sdv u t) i-t*cf (sdv u t) (i+1)
 | [],t,i=>by unfold sdv;simp [Zbz]
 | [c],t,i=>by unfold sdv;rw [Dw,if_neg O];simp [Zbz]
 | a::c::r,t,i=>by
  unfold sdv;rw [Dw,if_neg O,Nat.add_sub_cancel];cases i with
  | zero=>
   rw [Dw,if_pos rfl,Dw,if_pos rfl,Dw,if_neg O];show c=ev1 (c::r) t-t*cf (sdv (c::r) t) 0
   match r with
   | []=>simp [ev1,sdv,cf]
   | d::r'=>unfold sdv;rw [Dw,if_pos rfl];show c=(c+t*ev1 (d::r') t)-_;omega
  | succ i=>
   rw [Dw _ (sdv _ _) (i+1),if_neg O,Dw _ (sdv _ _),if_neg O,Nat.add_sub_cancel,Nat.add_sub_cancel];exact Ykb (c::r) t i
theorem Yph:∀(u:List Int) (t:Int),cf u 0=ev1 u t-t*cf (sdv u t) 0
 | [],t=>by simp [ev1,sdv,cf]
 | [c],t=>by simp [ev1,sdv,cf]
 | a::c::r,t=>by unfold sdv;rw [Dw,if_pos rfl,Dw,if_pos rfl];show a=(a+t*ev1 (c::r) t)-t*ev1 (c::r) t;omega
theorem Zs7:∀(n:Nat) (u:List Int) (R:List Int),u.length=n->(∃i,cf u i≠0)->R.Nodup->(∀t∈R,ev1 u t=0)->R.length<n
 | 0,u,R,d,b,_,_=>by obtain⟨i,hi⟩:=b;rw [List.eq_nil_of_length_eq_zero d,Zbz]at hi;exact absurd rfl hi
 | n+1,u,[],d,b,_,_=>O7
 | n+1,u,t::R,d,b,hd,hR=>by
  have f:=hR t (List.mem_cons_self ..);have l:=Zlg u t;have j:∃i,cf (sdv u t) i≠0:=Classical.byContradiction λc=>by
   have e:∀i,cf (sdv u t) i=0:=λi=>Classical.byContradiction λk=>c ⟨i,k⟩;obtain⟨i,hi⟩:=b;cases i with
   | zero=>rw [Yph u t,f,e]at hi;simp at hi
   | succ i=>rw [Ykb u t,e,e]at hi;simp at hi
  have:=Zs7 n (sdv u t) R O j (List.nodup_cons.1 hd).2 λx c=>by
   have g:=hR x (List.mem_cons_of_mem _ c);rw [Yaf u t x,f,Int.zero_add]at g;rcases Int.mul_eq_zero.1 g with h|h
   .exfalso;have:x=t:=O;subst this;exact(List.nodup_cons.1 hd).1 c
   .exact h
  simp;omega
def kk:Nat->Nat
 | 0=>0
 | d+1=>30*kk d+1
def pts:List Int:=[0,1,2,3,4,5,6,7,8,9,10,11,12,13,14]
end Go.Sky

