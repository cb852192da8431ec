/- Rules, arithmetic and contracts: part 4. No conditions but those that each theorem names. -/
import Derived.Test.YteikicbnfbgpnaaGreatEn02
import Derived.Test.YteikicbnfbgpnaaGreatProg
import Derived.Test.YteikicbnfbgpnaaGreatRows
import Derived.WalkKit
import Derived.ProofKit
import Derived.OpenShut
import Derived.ShutString
import Derived.ChangeOld
import Derived.Deep.Slices
import Derived.Lib.SmallJoins
set_option linter.all false
namespace Go.Sky
open Go.Proofs
def pU:Enc Tryz.prog 232 1 Ld:=Enc.flat Tryz.sizeOf232 Tryz.isAgg232 (λ_=>rfl)
def pB:Enc Tryz.prog 5 1 Zj0:=Enc.flat Tryz.sizeOf5 Tryz.isAgg5 (λ_=>rfl)
def pN:Enc Tryz.prog 3 1 Ih:=Enc.flat Tryz.sizeOf3 Tryz.isAgg3 (λ_=>rfl)
def pZ:Enc Tryz.prog 3 1 Yi:=Enc.flat Tryz.sizeOf3 Tryz.isAgg3 (λ_=>rfl)
def Zi1(args:Array Value)(w:World):(callFunc 269 args).run Tryz.prog w=((add64Entry args).run Tryz.prog w).andThen λv w'=> .ok (.value v) w':=
 run_callFunc_extern Tryz.func269 O6 O6 O6 O6 args w
def Yef(args:Array Value)(w:World):(callFunc 270 args).run Tryz.prog w=((Zfd args).run Tryz.prog w).andThen λv w'=> .ok (.value v) w':=
 run_callFunc_extern Tryz.func270 O6 O6 O6 O6 args w
end Go.Sky
theorem Go.Proofs.Tryz.ti232:Go.Proofs.Tryz.prog.info? 232=some Go.Proofs.Tryz.t232:=Go.Sky.O6
namespace Go.Sky
open Go.Proofs
end Go.Sky
theorem Go.Proofs.Tryz.ti5:Go.Proofs.Tryz.prog.info? 5=some Go.Proofs.Tryz.t5:=Go.Sky.O6
namespace Go.Sky
open Go.Proofs
end Go.Sky
theorem Go.Proofs.Tryz.ti3:Go.Proofs.Tryz.prog.info? 3=some Go.Proofs.Tryz.t3:=Go.Sky.O6
namespace Go.Sky
open Go.Proofs
variable{a b:Bool}
def pW:Enc Tryz.prog 80 2 Zy2:=Enc.agg O3 Tryz.sizeOf80 Tryz.isAgg80 (λx=>⟨[.bool x.1,.string x.2],rfl,rfl,O11⟩)
def pV:Enc Tryz.prog 80 2 wv:=Enc.agg O3 Tryz.sizeOf80 Tryz.isAgg80 (λx=>⟨[.bool (decide (x<0)),.string (Qp x.natAbs)],rfl,rfl,O11⟩)
def pI:Enc Tryz.prog 89 2 Mo:=Enc.agg O3 Tryz.sizeOf89 Tryz.isAgg89 (λx=>⟨[.bool (decide (x.1<0)),Xm x.2],rfl,rfl,O11⟩)
def pS{α:Type} : Enc Tryz.prog 40 1 (Nk (α:=α)):=Enc.flat Tryz.sizeOf40 Tryz.isAgg40 (λ_=>rfl)
def pY:Enc Tryz.prog 276 8 iq:=Enc.agg O3 Tryz.sizeOf276 Tryz.isAgg276 (λx=>⟨[.bool (decide (x.1.1<0)),.string (Qp x.1.1.natAbs),.bool (decide (x.1.2<0)),.string (Qp x.1.2.natAbs),.bool (decide (x.2.1<0)),.string (Qp x.2.1.natAbs),.bool (decide (x.2.2<0)),.string (Qp x.2.2.natAbs)],rfl,rfl,O11⟩)
def pQ:Enc Tryz.prog 82 4 rq:=Enc.agg O3 Tryz.sizeOf82 Tryz.isAgg82 (λx=>⟨[.bool (decide (x.1<0)),.string (Qp x.1.natAbs),.bool (decide (x.2<0)),.string (Qp x.2.natAbs)],rfl,rfl,O11⟩)
def pR:Enc Tryz.prog 82 4 encQ:=Enc.agg O3 Tryz.sizeOf82 Tryz.isAgg82 (λx=>⟨[.bool x.1.1,.string x.1.2,.bool x.2.1,.string x.2.2],rfl,rfl,O11⟩)
def sh80:Tryz.prog.stoodInHeld 80=false:=O6
def eg80:Tryz.prog.eqGuardType Tryz.prog.depth 80=false:=O6
theorem in80(d:Nat)(w:World)(a:Bool)(s:ByteArray)(b:Bool)(t:ByteArray):(Op.equalIn (d+2) 80 (.agg #[.bool a,.string s]) (.agg #[.bool b,.string t])).run Tryz.prog w= .ok (eqW a s b t) w:=by
 have c:Tryz.prog.underlying 80=some (.struct (Tryz.prog.fieldsOf 80)):=by unfold Program.fieldsOf;rw [Tryz.underlying80]
 rw [run_equalIn_agg w (d+1) 80 _ _ c sh80];unfold Program.fieldsOf;rw [Tryz.underlying80];simp [Op.eqFields,part,Tryz.isAgg4,Tryz.isAgg9,run_equalIn_bool' _ _ _ _ _ Tryz.underlying4,run_equalIn_string _ _ _ _ _ Tryz.underlying9];unfold eqW;cases hab:(a == b)
 .simp_all
 .by_cases h:s.toList=t.toList<;>simp_all
theorem eql80(w:World){s:ByteArray}{t:ByteArray}:(binOp .eql 80 (.agg #[.bool a,.string s]) (.agg #[.bool b,.string t])).run Tryz.prog w= .ok (.bool (eqW a s b t)) w:=by rw [run_eql_struct,in80];rfl
theorem neq80(w:World){s:ByteArray}{t:ByteArray}:(binOp .neq 80 (.agg #[.bool a,.string s]) (.agg #[.bool b,.string t])).run Tryz.prog w= .ok (.bool (!eqW a s b t)) w:=by rw [run_neq_struct,in80];rfl
end Go.Sky
theorem Go.Proofs.Tryz.ti33:Go.Proofs.Tryz.prog.info? 33=some Go.Proofs.Tryz.t33:=Go.Sky.O6
namespace Go.Sky
open Go.Proofs
end Go.Sky
theorem Go.Proofs.Tryz.ti35:Go.Proofs.Tryz.prog.info? 35=some Go.Proofs.Tryz.t35:=Go.Sky.O6
namespace Go.Sky
open Go.Proofs
end Go.Sky
theorem Go.Proofs.Tryz.ti38:Go.Proofs.Tryz.prog.info? 38=some Go.Proofs.Tryz.t38:=Go.Sky.O6
namespace Go.Sky
open Go.Proofs
end Go.Sky
theorem Go.Proofs.Tryz.ti40:Go.Proofs.Tryz.prog.info? 40=some Go.Proofs.Tryz.t40:=Go.Sky.O6
namespace Go.Sky
open Go.Proofs
end Go.Sky
theorem Go.Proofs.Tryz.ti47:Go.Proofs.Tryz.prog.info? 47=some Go.Proofs.Tryz.t47:=Go.Sky.O6
namespace Go.Sky
open Go.Proofs
end Go.Sky
theorem Go.Proofs.Tryz.ti80:Go.Proofs.Tryz.prog.info? 80=some Go.Proofs.Tryz.t80:=Go.Sky.O6
namespace Go.Sky
open Go.Proofs
end Go.Sky
theorem Go.Proofs.Tryz.ti82:Go.Proofs.Tryz.prog.info? 82=some Go.Proofs.Tryz.t82:=Go.Sky.O6
namespace Go.Sky
open Go.Proofs
end Go.Sky
theorem Go.Proofs.Tryz.ti89:Go.Proofs.Tryz.prog.info? 89=some Go.Proofs.Tryz.t89:=Go.Sky.O6
namespace Go.Sky
open Go.Proofs
end Go.Sky
theorem Go.Proofs.Tryz.ti91:Go.Proofs.Tryz.prog.info? 91=some Go.Proofs.Tryz.t91:=Go.Sky.O6
namespace Go.Sky
open Go.Proofs
end Go.Sky
theorem Go.Proofs.Tryz.ti130:Go.Proofs.Tryz.prog.info? 130=some Go.Proofs.Tryz.t130:=Go.Sky.O6
namespace Go.Sky
open Go.Proofs
end Go.Sky
theorem Go.Proofs.Tryz.ti23:Go.Proofs.Tryz.prog.info? 23=some Go.Proofs.Tryz.t23:=Go.Sky.O6
namespace Go.Sky
open Go.Proofs
variable{v0 v1:Value}
theorem Ysu{a:Value}(b:v0.oneCell'=true)(c:v1.oneCell'=true)(d:a.oneCell'=true):Tryz.prog.built 23 [(0,v0),(1,v1),(2,a)]=some #[v0,v1,a]:=by refine Ph Tryz.ti23 Tryz.underlying23 rfl (pl:=[(0,1),(1,1),(2,1)]) (by simp [Tryz.ti3];try decide) ?_;simp [Instr.fill,Yd b,Yd c,Yd d,show(Value.agg #[.int .i64 0,.int .i64 0,.int .i64 0]).cells=#[.int .i64 0,.int .i64 0,.int .i64 0]from rfl]
theorem b35_:Tryz.prog.built 35 []=some #[.int .i64 0,.int .i64 0,.int .i64 0,.slice none 0 0,.slice none 0 0,.slice none 0 0]:=by refine Ph Tryz.ti35 Tryz.underlying35 rfl (pl:=[(0,1),(1,1),(2,1),(3,1),(4,1),(5,1)]) (by simp [Tryz.ti3,Tryz.ti33];try decide) ?_;simp [Instr.fill,show(Value.agg #[.int .i64 0,.int .i64 0,.int .i64 0,.slice none 0 0,.slice none 0 0,.slice none 0 0]).cells=#[.int .i64 0,.int .i64 0,.int .i64 0,.slice none 0 0,.slice none 0 0,.slice none 0 0]from rfl]
theorem b35_01(a:v0.oneCell'=true)(b:v1.oneCell'=true):Tryz.prog.built 35 [(0,v0),(1,v1)]=some #[v0,v1,.int .i64 0,.slice none 0 0,.slice none 0 0,.slice none 0 0]:=by refine Ph Tryz.ti35 Tryz.underlying35 rfl (pl:=[(0,1),(1,1),(2,1),(3,1),(4,1),(5,1)]) (by simp [Tryz.ti3,Tryz.ti33];try decide) ?_;simp [Instr.fill,Yd a,Yd b,show(Value.agg #[.int .i64 0,.int .i64 0,.int .i64 0,.slice none 0 0,.slice none 0 0,.slice none 0 0]).cells=#[.int .i64 0,.int .i64 0,.int .i64 0,.slice none 0 0,.slice none 0 0,.slice none 0 0]from rfl]
theorem Zny{a b c d:Value}(e:v0.oneCell'=true)(f:v1.oneCell'=true)(g:a.oneCell'=true)(h:b.oneCell'=true)(i:c.oneCell'=true)(j:d.oneCell'=true):Tryz.prog.built 35 [(0,v0),(1,v1),(2,a),(3,b),(4,c),(5,d)]=some #[v0,v1,a,b,c,d]:=by refine Ph Tryz.ti35 Tryz.underlying35 rfl (pl:=[(0,1),(1,1),(2,1),(3,1),(4,1),(5,1)]) (by simp [Tryz.ti3,Tryz.ti33];try decide) ?_;simp [Instr.fill,Yd e,Yd f,Yd g,Yd h,Yd i,Yd j,show(Value.agg #[.int .i64 0,.int .i64 0,.int .i64 0,.slice none 0 0,.slice none 0 0,.slice none 0 0]).cells=#[.int .i64 0,.int .i64 0,.int .i64 0,.slice none 0 0,.slice none 0 0,.slice none 0 0]from rfl]
end Go.Sky
theorem Go.Proofs.Tryz.ti64:Go.Proofs.Tryz.prog.info? 64=some Go.Proofs.Tryz.t64:=Go.Sky.O6
namespace Go.Sky
open Go.Proofs
def b64_:Tryz.prog.built 64 []=some #[.int .i64 0,.int .i64 0,.int .i64 0,.int .i64 0]:=by refine Ph Tryz.ti64 Tryz.underlying64 rfl (pl:=[(0,1),(1,1),(2,1),(3,1)]) (by simp [Tryz.ti3];try decide) ?_;simp [Instr.fill,show(Value.agg #[.int .i64 0,.int .i64 0,.int .i64 0,.int .i64 0]).cells=#[.int .i64 0,.int .i64 0,.int .i64 0,.int .i64 0]from rfl]
def Znx{a b c d:Value}(e:a.oneCell'=true)(f:b.oneCell'=true)(g:c.oneCell'=true)(h:d.oneCell'=true):Tryz.prog.built 64 [(0,a),(1,b),(2,c),(3,d)]=some #[a,b,c,d]:=by refine Ph Tryz.ti64 Tryz.underlying64 rfl (pl:=[(0,1),(1,1),(2,1),(3,1)]) (by simp [Tryz.ti3];try decide) ?_;simp [Instr.fill,Yd e,Yd f,Yd g,Yd h,show(Value.agg #[.int .i64 0,.int .i64 0,.int .i64 0,.int .i64 0]).cells=#[.int .i64 0,.int .i64 0,.int .i64 0,.int .i64 0]from rfl]
end Go.Sky
theorem Go.Proofs.Tryz.ti4:Go.Proofs.Tryz.prog.info? 4=some Go.Proofs.Tryz.t4:=Go.Sky.O6
namespace Go.Sky
open Go.Proofs
end Go.Sky
theorem Go.Proofs.Tryz.ti9:Go.Proofs.Tryz.prog.info? 9=some Go.Proofs.Tryz.t9:=Go.Sky.O6
namespace Go.Sky
open Go.Proofs
variable{v0 v1 c0_0 c0_1 c1_0 c1_1:Value}
theorem b80_:Tryz.prog.built 80 []=some #[.bool false,.string ⟨#[]⟩]:=by refine Ph Tryz.ti80 Tryz.underlying80 rfl (pl:=[(0,1),(1,1)]) (by simp [Tryz.ti4,Tryz.ti9];try decide) ?_;simp [Instr.fill,show(Value.agg #[.bool false,.string ⟨#[]⟩]).cells=#[.bool false,.string ⟨#[]⟩]from rfl]
theorem Zzr(a:v0.oneCell'=true)(b:v1.oneCell'=true):Tryz.prog.built 80 [(0,v0),(1,v1)]=some #[v0,v1]:=by refine Ph Tryz.ti80 Tryz.underlying80 rfl (pl:=[(0,1),(1,1)]) (by simp [Tryz.ti4,Tryz.ti9];try decide) ?_;simp [Instr.fill,Yd a,Yd b,show(Value.agg #[.bool false,.string ⟨#[]⟩]).cells=#[.bool false,.string ⟨#[]⟩]from rfl]
theorem Ygc:Tryz.prog.built 82 []=some #[.bool false,.string ⟨#[]⟩,.bool false,.string ⟨#[]⟩]:=by refine Ph Tryz.ti82 Tryz.underlying82 rfl (pl:=[(0,2),(2,2)]) (by simp [Tryz.ti80];try decide) ?_;simp [Instr.fill,show(Value.agg #[.bool false,.string ⟨#[]⟩,.bool false,.string ⟨#[]⟩]).cells=#[.bool false,.string ⟨#[]⟩,.bool false,.string ⟨#[]⟩]from rfl]
theorem Znw : Tryz.prog.built 82 [(0,.agg #[c0_0,c0_1]),(1,.agg #[c1_0,c1_1])]=some #[c0_0,c0_1,c1_0,c1_1]:=by refine Ph Tryz.ti82 Tryz.underlying82 rfl (pl:=[(0,2),(2,2)]) (by simp [Tryz.ti80];try decide) ?_;simp [Instr.fill,show(Value.agg #[c0_0,c0_1]).cells=#[c0_0,c0_1]from rfl,show(Value.agg #[c1_0,c1_1]).cells=#[c1_0,c1_1]from rfl,show(Value.agg #[.bool false,.string ⟨#[]⟩,.bool false,.string ⟨#[]⟩]).cells=#[.bool false,.string ⟨#[]⟩,.bool false,.string ⟨#[]⟩]from rfl]
theorem Zzq:Tryz.prog.built 89 []=some #[.bool false,.slice none 0 0]:=by refine Ph Tryz.ti89 Tryz.underlying89 rfl (pl:=[(0,1),(1,1)]) (by simp [Tryz.ti33,Tryz.ti4];try decide) ?_;simp [Instr.fill,show(Value.agg #[.bool false,.slice none 0 0]).cells=#[.bool false,.slice none 0 0]from rfl]
theorem Yni(a:v0.oneCell'=true)(b:v1.oneCell'=true):Tryz.prog.built 89 [(0,v0),(1,v1)]=some #[v0,v1]:=by refine Ph Tryz.ti89 Tryz.underlying89 rfl (pl:=[(0,1),(1,1)]) (by simp [Tryz.ti33,Tryz.ti4];try decide) ?_;simp [Instr.fill,Yd a,Yd b,show(Value.agg #[.bool false,.slice none 0 0]).cells=#[.bool false,.slice none 0 0]from rfl]
theorem Ynh : Tryz.prog.built 91 [(0,.agg #[c0_0,c0_1]),(1,.agg #[c1_0,c1_1])]=some #[c0_0,c0_1,c1_0,c1_1]:=by refine Ph Tryz.ti91 Tryz.underlying91 rfl (pl:=[(0,2),(2,2)]) (by simp [Tryz.ti89];try decide) ?_;simp [Instr.fill,show(Value.agg #[c0_0,c0_1]).cells=#[c0_0,c0_1]from rfl,show(Value.agg #[c1_0,c1_1]).cells=#[c1_0,c1_1]from rfl,show(Value.agg #[.bool false,.slice none 0 0,.bool false,.slice none 0 0]).cells=#[.bool false,.slice none 0 0,.bool false,.slice none 0 0]from rfl]
theorem Znz{a:Value}(b:v0.oneCell'=true)(c:v1.oneCell'=true)(d:a.oneCell'=true):Tryz.prog.built 130 [(0,v0),(1,v1),(2,a)]=some #[v0,v1,a]:=by refine Ph Tryz.ti130 Tryz.underlying130 rfl (pl:=[(0,1),(1,1),(2,1)]) (by simp [Tryz.ti3,Tryz.ti40];try decide) ?_;simp [Instr.fill,Yd b,Yd c,Yd d,show(Value.agg #[.int .i64 0,.int .i64 0,.slice none 0 0]).cells=#[.int .i64 0,.int .i64 0,.slice none 0 0]from rfl]
end Go.Sky
theorem Go.Proofs.Tryz.ti162:Go.Proofs.Tryz.prog.info? 162=some Go.Proofs.Tryz.t162:=Go.Sky.O6
namespace Go.Sky
open Go.Proofs
def Zpz{a b c d e f g h:Value} : Tryz.prog.built 162 [(0,.agg #[a,b]),(1,.agg #[c,d]),(2,.agg #[e,f]),(3,.agg #[g,h])]=some #[a,b,c,d,e,f,g,h]:=by refine Ph Tryz.ti162 Tryz.underlying162 rfl (pl:=[(0,2),(2,2),(4,2),(6,2)]) (by simp [Tryz.ti80];try decide) ?_;simp [Instr.fill,show(Value.agg #[a,b]).cells=#[a,b]from rfl,show(Value.agg #[c,d]).cells=#[c,d]from rfl,show(Value.agg #[e,f]).cells=#[e,f]from rfl,show(Value.agg #[g,h]).cells=#[g,h]from rfl,show(Value.agg #[.bool false,.string ⟨#[]⟩,.bool false,.string ⟨#[]⟩,.bool false,.string ⟨#[]⟩,.bool false,.string ⟨#[]⟩]).cells=#[.bool false,.string ⟨#[]⟩,.bool false,.string ⟨#[]⟩,.bool false,.string ⟨#[]⟩,.bool false,.string ⟨#[]⟩]from rfl]
end Go.Sky
theorem Go.Proofs.Tryz.ti219:Go.Proofs.Tryz.prog.info? 219=some Go.Proofs.Tryz.t219:=Go.Sky.O6
namespace Go.Sky
open Go.Proofs
end Go.Sky
theorem Go.Proofs.Tryz.ti217:Go.Proofs.Tryz.prog.info? 217=some Go.Proofs.Tryz.t217:=Go.Sky.O6
namespace Go.Sky
open Go.Proofs
def Ip{a b:Value}(c:a.oneCell'=true)(d:b.oneCell'=true):Tryz.prog.built 219 [(0,a),(1,b)]=some #[a,b]:=by refine Ph Tryz.ti219 Tryz.underlying219 rfl (pl:=[(0,1),(1,1)]) (by simp [Tryz.ti217,Tryz.ti4];try decide) ?_;simp [Instr.fill,Yd c,Yd d,show(Value.agg #[.bool false,.slice none 0 0]).cells=#[.bool false,.slice none 0 0]from rfl]
end Go.Sky
theorem Go.Proofs.Tryz.ti276:Go.Proofs.Tryz.prog.info? 276=some Go.Proofs.Tryz.t276:=Go.Sky.O6
namespace Go.Sky
open Go.Proofs
variable{N:Nat}{sc:Nat->Prop}{o:Oper}{env:Pw}{r:Value}{t:TypeId}
theorem Yst{a b c d e f g h:Value} : Tryz.prog.built 276 [(0,.agg #[a,b,c,d]),(1,.agg #[e,f,g,h])]=some #[a,b,c,d,e,f,g,h]:=by refine Ph Tryz.ti276 Tryz.underlying276 rfl (pl:=[(0,4),(4,4)]) (by simp [Tryz.ti82];try decide) ?_;simp [Instr.fill,show(Value.agg #[a,b,c,d]).cells=#[a,b,c,d]from rfl,show(Value.agg #[e,f,g,h]).cells=#[e,f,g,h]from rfl,show(Value.agg #[.bool false,.string ⟨#[]⟩,.bool false,.string ⟨#[]⟩,.bool false,.string ⟨#[]⟩,.bool false,.string ⟨#[]⟩]).cells=#[.bool false,.string ⟨#[]⟩,.bool false,.string ⟨#[]⟩,.bool false,.string ⟨#[]⟩,.bool false,.string ⟨#[]⟩]from rfl]
def J{α:Sort _}{a:α} : a=a:=rfl
abbrev Qd (P:Program) (f:FuncId) (a:Array Value) (p:List Pc) (v:Value):Prop:=Cal P f a p false (G:=Unit) (λ_=>True) (λ_=>v) (λ_=>[])
abbrev rX (x y:Int):Value:= .agg #[.bool (decide (x<0)),.string (Qp x.natAbs),.bool (decide (y<0)),.string (Qp y.natAbs)]
def vB{a b:Bool}(h:a=b):Value.bool a=Value.bool b:=aH _ h
def dF{P:Program}{H:Hp}(h:Lj P N sc o env H r)(e:r= .bool false):Lj P N sc o env H (.bool false):=Xh _ h e
def dT{P:Program}{H:Hp}(h:Lj P N sc o env H r)(e:r= .bool true):Lj P N sc o env H (.bool true):=Xh _ h e
def K1{t0:Sort _}{a:t0} : a=a/\True:=⟨rfl,aA⟩
def K2{t0:Sort _}{a:t0}{t1:Sort _}{b:t1} : a=a/\b=b/\True:=⟨rfl,rfl,aA⟩
def K3{t0:Sort _}{a:t0}{t1:Sort _}{b:t1}{t2:Sort _}{c:t2} : a=a/\b=b/\c=c/\True:=⟨rfl,rfl,rfl,aA⟩
def K4{t0:Sort _}{a:t0}{t1:Sort _}{b:t1}{t2:Sort _}{c:t2}{t3:Sort _}{d:t3} : a=a/\b=b/\c=c/\d=d/\True:=⟨rfl,rfl,rfl,rfl,aA⟩
def K5{t0:Sort _}{a:t0}{t1:Sort _}{b:t1}{t2:Sort _}{c:t2}{t3:Sort _}{d:t3}{t4:Sort _}{e:t4} : a=a/\b=b/\c=c/\d=d/\e=e/\True:=⟨rfl,rfl,rfl,rfl,rfl,aA⟩
def K6{t0:Sort _}{a:t0}{t1:Sort _}{b:t1}{t2:Sort _}{c:t2}{t3:Sort _}{d:t3}{t4:Sort _}{e:t4}{t5:Sort _}{f:t5} : a=a/\b=b/\c=c/\d=d/\e=e/\f=f/\True:=⟨rfl,rfl,rfl,rfl,rfl,rfl,aA⟩
def K7{t0:Sort _}{a:t0}{t1:Sort _}{b:t1}{t2:Sort _}{c:t2}{t3:Sort _}{d:t3}{t4:Sort _}{e:t4}{t5:Sort _}{f:t5}{t6:Sort _}{g:t6} : a=a/\b=b/\c=c/\d=d/\e=e/\f=f/\g=g/\True:=⟨rfl,rfl,rfl,rfl,rfl,rfl,rfl,aA⟩
def K8{t0:Sort _}{a:t0}{t1:Sort _}{b:t1}{t2:Sort _}{c:t2}{t3:Sort _}{d:t3}{t4:Sort _}{e:t4}{t5:Sort _}{f:t5}{t6:Sort _}{g:t6}{t7:Sort _}{h:t7} : a=a/\b=b/\c=c/\d=d/\e=e/\f=f/\g=g/\h=h/\True:=⟨rfl,rfl,rfl,rfl,rfl,rfl,rfl,rfl,aA⟩
def K10{t0:Sort _}{a:t0}{t1:Sort _}{b:t1}{t2:Sort _}{c:t2}{t3:Sort _}{d:t3}{t4:Sort _}{e:t4}{t5:Sort _}{f:t5}{t6:Sort _}{g:t6}{t7:Sort _}{h:t7}{t8:Sort _}{i:t8}{t9:Sort _}{j:t9} : a=a/\b=b/\c=c/\d=d/\e=e/\f=f/\g=g/\h=h/\i=i/\j=j/\True:=⟨rfl,rfl,rfl,rfl,rfl,rfl,rfl,rfl,rfl,rfl,aA⟩
def K12{t0:Sort _}{c:t0}{t1:Sort _}{d:t1}{t2:Sort _}{e:t2}{t3:Sort _}{f:t3}{t4:Sort _}{g:t4}{t5:Sort _}{h:t5}{t6:Sort _}{i:t6}{t7:Sort _}{j:t7}{t8:Sort _}{k:t8}{t9:Sort _}{l:t9}{t10:Sort _}{a:t10}{t11:Sort _}{b:t11} : c=c/\d=d/\e=e/\f=f/\g=g/\h=h/\i=i/\j=j/\k=k/\l=l/\a=a/\b=b/\True:=⟨rfl,rfl,rfl,rfl,rfl,rfl,rfl,rfl,rfl,rfl,rfl,rfl,aA⟩
def K13{t0:Sort _}{d:t0}{t1:Sort _}{e:t1}{t2:Sort _}{f:t2}{t3:Sort _}{g:t3}{t4:Sort _}{h:t4}{t5:Sort _}{i:t5}{t6:Sort _}{j:t6}{t7:Sort _}{k:t7}{t8:Sort _}{l:t8}{t9:Sort _}{m:t9}{t10:Sort _}{a:t10}{t11:Sort _}{b:t11}{t12:Sort _}{c:t12} : d=d/\e=e/\f=f/\g=g/\h=h/\i=i/\j=j/\k=k/\l=l/\m=m/\a=a/\b=b/\c=c/\True:=⟨rfl,rfl,rfl,rfl,rfl,rfl,rfl,rfl,rfl,rfl,rfl,rfl,rfl,aA⟩
def Kg:=@Go.Proofs.Tryz.call202
def iA3:=@Go.Proofs.Tryz.isAgg3
def Ig:=@Go.Proofs.Tryz.sizeOf232
def Kv:=@Go.Proofs.Tryz.sizeOf3
def Zcs:=@Go.Proofs.Tryz.sizeOf33
def Ix:=@Go.Proofs.Tryz.sizeOf35
def Kn:=@Go.Proofs.Tryz.sizeOf80
def Zat:=@Go.Proofs.Tryz.sizeOf89
def Za6:=@Go.Proofs.Tryz.underlying121
def Zlf:=@Go.Proofs.Tryz.underlying130
def Zoo:=@Go.Proofs.Tryz.underlying166
def Zab:=@Go.Proofs.Tryz.underlying193
def Zi3:=@Go.Proofs.Tryz.underlying197
def Og:=@Go.Proofs.Tryz.underlying217
def Zz2:=@Go.Proofs.Tryz.underlying230
def Za5:=@Go.Proofs.Tryz.underlying232
def Zle:=@Go.Proofs.Tryz.underlying242
def Zon:=@Go.Proofs.Tryz.underlying243
def Zom:=@Go.Proofs.Tryz.underlying268
def uT3:=@Go.Proofs.Tryz.underlying3
def Pp:=@Go.Proofs.Tryz.underlying33
def Ds:=@Go.Proofs.Tryz.underlying35
def Ln:=@Go.Proofs.Tryz.underlying38
def Yog:=@Go.Proofs.Tryz.underlying39
def Mx:=@Go.Proofs.Tryz.underlying40
def Zh1:=@Go.Proofs.Tryz.underlying46
def Km:=@Go.Proofs.Tryz.underlying47
def uT5:=@Go.Proofs.Tryz.underlying5
def Zh0:=@Go.Proofs.Tryz.underlying50
def Yeb:=@Go.Proofs.Tryz.underlying61
def uT9:=@Go.Proofs.Tryz.underlying9
open Go.ChangeShapes Go.WideShapes Go.ChangeAt Go.RowKit Go.Joins Go.Deep
variable {P:Program} {W:World} {H:Type} {enc:TypeId×Value->H}
theorem Zjo{α:Type}[Inhabited α]{p:Nat->α->Prop} : ∀n,(∀i,i<n->∃x,p i x)->∃xs:List α,xs.length=n/\∀i x,xs[i]? = some x->p i x
 | 0,_=>⟨[],rfl,λi x h=>by simp at h⟩
 | n+1,h=>by
  obtain⟨xs,c,d⟩:=Zjo n λi hi=>h i O;obtain⟨x,e⟩:=h n O;refine⟨xs ++ [x],by simp [c],λi y a=>?_⟩;rcases aZ i n with hi|hi
  .rw [cS O]at a;exact d i y a
  .rw [dC O,c]at a;rcases aW (i-n)with b|b
   .rw [b]at a;simp at a;subst a;rw [show i=n by omega];exact e
   .rw [bF O8]at a;cases a
theorem Zmf{r:Reach}{i:Nat}{e:TypeId}{a:Addr}{g c:Nat}(hs:P.underlying t=some (.slice e))(b:Value.okWide P W r i t (.slice (some a) g c)):a.spot=none/\a.block<W.heap.size:=by
 unfold Value.okWide at b;rw [hs]at b;simp only at b;unfold Cell.okWide at b;rw [hs]at b;simp only at b;unfold Cell.ok at b;rw [hs]at b;simp only at b;obtain⟨_,_,_,j,k,d,f,_⟩:=b;refine⟨j,?_⟩;unfold World.shape? at f;rcases aZ a.block W.heap.size with h|h
 .exact h
 .rw [mO h]at f;simp at f
end Go.Sky
namespace Go.Sky
variable{P:Program}{f:FuncId}{args:Array Value}{pre:List Pc}{φ:Value×List (Int×SL)->Prop}{x:Int}{R:List Int}
theorem Cal.toS     {al:Bool} 
  (h:Cal P f args pre al (G:=Value×List (Int×SL)) φ (λr=>r.1) (λr=>[pp r.1 r.2])) :
  Cal P f args pre al (G:=SL×List (Int×SL)) (λr=>φ (Xm r.1,r.2)) (λr=>Xm r.1) (λr=>[pp (Xm r.1) r.2]):=λw l=>by
 refine(h w l).mono λe n ⟨g,k,m,j,hi⟩=>?_;obtain⟨v,z⟩:=g;have b:=(hi _ (bT ..)).1;obtain⟨a,c,d,_⟩:=Zc n b;have i:v=Xm (a,z.length,c):=d;subst i;exact⟨((a,z.length,c),z),k,m,j,hi⟩
abbrev qT (z:SL×List (Int×SL)):Pc:=pp (Xm z.1) z.2
abbrev T0:SL×List (Int×SL):=((none,0,0),[])
abbrev Bg (zs:List (SL×List (Int×SL))):List (List Int):=zs.map λz=>Zb z.2
set_option maxRecDepth 20000
theorem Zs6{K:Nat}{f:Nat->Int}{n:Nat}(h:∀i,i<n->bl (f i).natAbs<=K)(a:n<=1023):bl (Ye f n).natAbs<=K+10:=by rw [Qo];have b:=Zzn h;have c:n*(2^K-1)<=1023*(2^K-1):=aJ _ a;have d:0<2^K:=dQ K;rw [bW];omega
theorem Lg(zs:List (Int×SL))(z:Int×SL):Zb (zs ++ [z])=Zb zs ++ [z.1]:=by simp [Zb]
def Yp8(p q:List Int):tzl (mk (max p.length q.length) λt=>cf p t+cf q t)=Ht p q:=rfl
theorem Zx8(p:List Int)(c:Int):tzl (mk p.length λt=>cf p t*c)=Zq p c:=by rw [Zrj p (· * c)];rfl
def Yp3(p q:List Int):tzl (mk (p.length+q.length-1) λt=>Ye (λk=>cf p k*cf q (t-k)) (t+1))=Qs p q:=rfl
theorem Zad{m:Nat}(h:bl x.natAbs<=m)(n:Nat):bl (x^n).natAbs<=n*m+1:=by
 rcases aW n with a|a
 .rw [a,cL];have:bl (1:Int).natAbs=1:=O3;omega
 .have:=Fj x h n a;omega
theorem Oh{p:List Int}(c:Int):(Zq p c).length<=p.length:=by unfold Zq;have:=Mj (p.map (· * c));rwa [aP]at this
theorem Yju(p q:List Int):(Ht p q).length<=max p.length q.length:=by unfold Ht;have:=Mj (mk (max p.length q.length) λi=>cf p i+cf q i);rwa [Yu]at this
theorem bl_i1{i:Nat}(h:i<=1000):bl ((i:Int)+1).natAbs<=1000000000:=by have a:=Of (show((i:Int)+1).natAbs<=1001 by omega);have b:bl 1001<=10:=O3;omega
theorem ev_tb{p:List Int}{y:Int}(hs:Sz 1000000 p)(a:∀k,bl (x^k).natAbs<=k*1000000+1)(b:∀k,bl (y^k).natAbs<=k*1000000+1)(l:p.length<=30)(t:Nat):bl (cf p t*(x^t*y^(p.length-1-t))).natAbs<=100000000:=by
 rcases aZ t p.length with h|h
 .have c:=a t;have d:=b (p.length-1-t);have e:=Yq (x^t) (y^(p.length-1-t));have g:=Yq (cf p t) (x^t*y^(p.length-1-t));have i:=hs t;have j:t*1000000+(p.length-1-t)*1000000<=30*1000000:=by rw [<-bG];exact aJ _ O
  omega
 .rw [Yf h,cM];exact bD _
theorem Nu{y:Int}(h:y≠0):∀n:Nat,y^n≠0
 | 0=>by rw [cL];omega
 | n+1=>by rw [dD];exact bJ (Nu h n) h
theorem Zyl(xs ys:List Int):xs.map wr=ys.map wr↔xs=ys:=by refine⟨λh=>?_,λh=>by rw [h]⟩;exact List.map_inj_right (λx y h=>Ygl (aH Prod.fst h) (aH Prod.snd h)) |>.1 h
theorem Cal.imp2{m p q:Pc}{al:Bool}{G:Type}{φ:G->Prop}{Yn:G->Value}{i:G->List Pc}(h:Cal P f args (m::p::pre) al φ Yn i)(y:∀w,q.holds w->p.holds w)(u:∀b,p.fp b->q.fp b) :
  Cal P f args (m::q::pre) al φ Yn i:=λw k=>by
 refine(h w λr a=>?_).mono ?_
 .rcases bE.1 a with rfl|a
  .exact k _ (bT ..)
  .rcases bE.1 a with rfl|a
   .exact y w (k q (bH _ (bT ..)))
   .exact k r (bH _ (bH _ a))
 .rintro e B ⟨g,t,v,j,d⟩;refine⟨g,t,v,j,λz l=>?_⟩;obtain⟨n,o,s⟩:=d z l;refine⟨n,o,λb j=>?_⟩;rcases s b j with h|⟨h,r,a,c⟩
  .exact .inl h
  .refine .inr ⟨h,?_⟩;rcases bE.1 a with rfl|a
   .exact⟨r,bT ..,c⟩
   .rcases bE.1 a with rfl|a
    .exact⟨q,bH _ (bT ..),u b c⟩
    .exact⟨r,bH _ (bH _ a),c⟩
def shm(q:List Int)(c:Int)(s i:Nat):List Int:=mk (s+i) λt=>if t<s then 0 else c*cf q (t-s)
theorem Zga(q:List Int)(c:Int)(s:Nat):List.replicate s 0=shm q c s 0:=by rw [Zqt];unfold shm;exact Gd λi hi=>by rw [aG hi]
theorem Zgb(q:List Int)(c:Int)(s i:Nat):shm q c s i ++ [c*cf q i]=shm q c s (i+1):=by unfold shm;rw [show s+(i+1)=s+i+1 by omega,Fi,aD O,show s+i-s=i by omega]
theorem Zsy(q:List Int)(c:Int)(s t:Nat):cf (shm q c s q.length) t=if s<=t/\t<s+q.length then c*cf q (t-s)else 0:=by
 unfold shm;rw [Nw];by_cases b:t<s
 .rw [aD (by omega:¬(s<=t/\t<s+q.length))];split
  .rfl
  .rfl
 .by_cases a:t<s+q.length
  .rw [aG a,aD b,aG (show s<=t/\t<s+q.length by omega)]
  .rw [aD a,aD (show ¬(s<=t/\t<s+q.length) by omega)]
section
variable {p q:List Int}
theorem Zfg(c:0<q.length)(b:q.length<=p.length):∀j,j<=p.length-q.length+1->∀t,p.length-j<=t->cf (Qn p q j) t=0
 | 0,_,t,d=>Yf (by unfold Qn;omega)
 | j+1,e,t,d=>by
  rcases aZ t p.length with h|h
  .unfold Qn;rw [Zhn (by rw [Pi];exact h)];by_cases a:t=p.length-1-j
   .subst a;rw [aG O,show p.length-1-j-(p.length-1-j-(q.length-1))=q.length-1 by omega];omega
   .rw [Zfg c b j O t O,cM,aD O];rfl
  .exact Yf (by rw [Pi];omega)
theorem Zc2(d:0<q.length)(c:q.length<=p.length){j:Nat} : ∀k,j+k<=p.length-q.length+1->(∀t,p.length-(j+k)<=t->cf (Qn p q j) t=0)->∀t,cf (Qn p q (j+k)) t=cf (Qn p q j) t*cf q (q.length-1)^k
 | 0,_,_,t=>by rw [cL,fH];rfl
 | k+1,e,a,t=>by
  have b:=Zc2 d c k O (λt g=>a t O);rcases aZ t p.length with h|h
  .show cf (Ze2 q (Qn p q (j+k)) (p.length-1-(j+k))) t=_;rw [Zhn (by rw [Pi];exact h),b t,b (p.length-1-(j+k)),a (p.length-1-(j+k)) O,cM,cM];split<;>rw [gF,dD,eN]
  .rw [Yf (by rw [Pi];omega),Yf (by rw [Pi];omega),cM]
def Cp(p q R:List Int)(j:Nat):Prop:=Tr R/\∀t,cf R t=cf (Qn p q j) t*cf q (q.length-1)^(p.length-q.length+1-j)
theorem Zqr:Cp p q (Zq p (cf q (q.length-1)^(p.length-q.length+1))) 0:=⟨Qk,λt=>by rw [Yl];rfl⟩
theorem Zx1{j:Nat}(m:0<q.length)(l:q.length<=p.length)(b:cf q (q.length-1)≠0)(r:j<=p.length-q.length+1)(h:Cp p q R j)(o:q.length<=R.length):j<=p.length-R.length/\p.length-R.length<=p.length-q.length/\R.length<=p.length/\Cp p q R (p.length-R.length):=by
 have d:∀n,cf q (q.length-1)^n≠0:=λn=>Nu b n;have a:cf R (R.length-1)≠0:=h.1.mem (λe=>by rw [e,fC]at o;omega);have g:R.length-1<p.length-j:=by
  rcases aZ (R.length-1) (p.length-j)with g|g
  .exact g
  .rw [h.2,Zfg m l j r _ g,cM]at a;exact absurd rfl a
 have k:j<=p.length-R.length:=O;refine⟨k,O,O,h.1,λt=>?_⟩;have s:∀t,p.length-(j+(p.length-R.length-j))<=t->cf (Qn p q j) t=0:=λt u=>by
  have c:=h.2 t;rw [Yf O]at c;rcases eR.1 c.symm with i|i
  .exact i
  .exact absurd i (d _)
 have c:=Zc2 m l (j:=j) (p.length-R.length-j) O s t;rw [show j+(p.length-R.length-j)=p.length-R.length by omega]at c;rw [c,h.2,eN,<-Int.pow_add];congr 2;omega
theorem Zjd(a:cf q (q.length-1)≠0)(h:Cp p q R (p.length-R.length))(d:0<q.length)(b:q.length<=R.length)(c:R.length<=p.length):cf R (R.length-1)/cf q (q.length-1)=cf (Qn p q (p.length-R.length)) (R.length-1)*cf q (q.length-1)^(p.length-q.length-(p.length-R.length)):=by rw [h.2,show p.length-q.length+1-(p.length-R.length)=p.length-q.length-(p.length-R.length)+1 by omega,dD,<-eN];exact lA _ a
theorem Zqs(a:cf q (q.length-1)≠0)(h:Cp p q R (p.length-R.length))(e:0<q.length)(c:q.length<=R.length)(d:R.length<=p.length) :
  Cp p q (Eh R (shm q (cf R (R.length-1)/cf q (q.length-1)) (R.length-q.length) q.length)) (p.length-R.length+1):=by
 refine⟨Zac,λt=>?_⟩;rw [Il,Zsy,Zjd a h e c d,h.2];rcases aZ t p.length with b|b
 .show _=cf (Ze2 q (Qn p q (p.length-R.length)) (p.length-1-(p.length-R.length))) t*_;rw [Zhn (by rw [Pi];exact b),show p.length-1-(p.length-R.length)=R.length-1 by omega,show R.length-1-(q.length-1)=R.length-q.length by omega];rw [show p.length-q.length+1-(p.length-R.length)=p.length-q.length-(p.length-R.length)+1 by omega,show p.length-q.length+1-(p.length-R.length+1)=p.length-q.length-(p.length-R.length) by omega,dD];split<;>grind
 .rw [Yf (p:=Qn p q (p.length-R.length)) (by rw [Pi];exact b),Yf (p:=Qn p q (p.length-R.length+1)) (by rw [Pi];exact b),aD O];simp
theorem Zuu{j:Nat}(e:0<q.length)(d:q.length<=p.length)(a:cf q (q.length-1)≠0)(k:j<=p.length-q.length+1)(h:Cp p q R j)(i:R.length<q.length):R=Qc p q:=by
 unfold Qc;rw [aD O];refine h.1.ext (Qi _) λt=>?_;have g:∀t,p.length-(j+(p.length-q.length+1-j))<=t->cf (Qn p q j) t=0:=λt l=>by
  have b:=h.2 t;rw [Yf O]at b;rcases eR.1 b.symm with c|c
  .exact c
  .exact absurd c (Nu a _)
 have b:=Zc2 e d (j:=j) (p.length-q.length+1-j) O g t;rw [show j+(p.length-q.length+1-j)=p.length-q.length+1 by omega]at b;rw [Lc,b,h.2]
theorem Zx2{j:Nat}(g:j<=p.length-q.length+1)(h:Cp p q R j):Sz (Xx p+(p.length-q.length+1)*(Xx q+1)+1) R:=λt=>by
 rw [h.2];have a:=Bw p q j t;have b:=Zad (Pb q (q.length-1)) (p.length-q.length+1-j);have c:=Yq (cf (Qn p q j) t) (cf q (q.length-1)^(p.length-q.length+1-j));have d:(p.length-q.length+1-j)*Xx q<=(p.length-q.length+1-j)*(Xx q+1):=bB _ O;have e:j*(Xx q+1)+(p.length-q.length+1-j)*(Xx q+1)=(p.length-q.length+1)*(Xx q+1):=by rw [<-bG];congr 1;omega
 omega
theorem Zut{j:Nat}(h:Cp p q R j):R.length<=p.length:=by
 rcases aZ p.length R.length with a|a
 .have b:=h.1.mem (λe=>by rw [e]at a;simp at a);rw [h.2,Yf (by rw [Pi];omega),cM]at b;exact absurd rfl b
 .exact a
end
end Go.Sky
namespace Go.Sky
variable{c:Int}{p q R:List Int}
section
variable {P:Program} {N:Nat} {sc:Nat->Prop} {env env':Pw} {H H':Hp}
theorem Ak(n k:Nat):∀a w,Sat N sc env H a w->Sat N sc env ((n,Nj qI (List.replicate k I0))::H) a w:=λa w hs=>by
 have e:∀z,z∈List.replicate k I0->z=I0:=λz e=>(nW.1 e).2;refine hs.add n _ (λz h=>by rw [e z h];exact Bz 1 Ih w) (λj l _ _ Lz b g i=>?_) (λb g=>?_)
 .obtain⟨z,f,d⟩:=g;rw [e z f]at d;cases d.2
 .obtain⟨z,f,d⟩:=g;rw [e z f]at d;cases d.2
end
theorem Ydq{r l:Int}{n A B:Nat}(h:c=r*l^n)(e:bl r.natAbs<=A)(b:bl l.natAbs<=B):bl c.natAbs<=A+(n*B+1):=by
 rw [h];have d:=Yq r (l^n);rcases aW n with a|a
 .rw [a,cL];rw [fH];omega
 .have:=Fj l b n a;omega
theorem Ypr(f:q.length<=R.length)(d:q.length<=p.length)(e:R.length<=p.length) :
  Xx p+(p.length-R.length)*(Xx q+1)+((p.length-q.length-(p.length-R.length))*Xx q+1)<=Xx p+(p.length-q.length+1)*(Xx q+1):=by
 have a:(p.length-q.length-(p.length-R.length))*Xx q<=(p.length-q.length-(p.length-R.length))*(Xx q+1):=bB _ O;have b:(p.length-R.length)*(Xx q+1)+(p.length-q.length-(p.length-R.length))*(Xx q+1)=(p.length-q.length)*(Xx q+1):=by rw [<-bG];congr 1;omega
 rw [dA];omega
theorem Yin{r:Int}(h:c=r*cf q (q.length-1)^(p.length-q.length-(p.length-R.length)))(a:bl r.natAbs<=Xx p+(p.length-R.length)*(Xx q+1))(hs:Sz (Xx q) q)(k:q.length<=R.length)(i:q.length<=p.length)(j:R.length<=p.length)(t:Nat) :
  bl (c*cf q t).natAbs<=Xx p+(p.length-q.length+1)*(Xx q+1)+1:=by
 have b:=Ydq h a (hs _);have d:=Yq c (cf q t);have e:=hs t;have f:(p.length-q.length-(p.length-R.length))*Xx q<=(p.length-q.length-(p.length-R.length))*(Xx q+1):=bB _ O;have g:(p.length-R.length)*(Xx q+1)+(p.length-q.length-(p.length-R.length))*(Xx q+1)=(p.length-q.length)*(Xx q+1):=by rw [<-bG];congr 1;omega
 rw [dA];omega
theorem Zqc{s i n:Nat}(h:∀t,bl (c*cf q t).natAbs<=n):Sz n (shm q c s i):=by
 unfold shm;refine Bf λt _=>?_;split
 .exact bD _
 .exact h _
end Go.Sky
namespace Go.Sky
variable{D a b s c:List Int}{k M m i F:Nat}{x:Int}{P:Program}{sc:Nat->Prop}{ops:Array Oper}{rest:List (Nat×Nat)}
theorem Yk0(zs:List (Int×SL))(k:Nat)(z:Int×SL):Zb (zs.set k z)=(Zb zs).set k z.1:=by simp [Zb,List.map_set]
theorem Yrm{q:List Int}(h:k+q.length<=D.length):Eh (tzl D) (tzl (shm q (cf D (k+q.length-1)/cf q (q.length-1)) k q.length))=tzl (Ze7 q D k):=by
 refine(Zac).ext (Qi _) λt=>?_;rw [Il,Lc,Lc,Lc,Zsy];unfold Ze7;rw [Nw];by_cases d:t<D.length
 .rw [aG d];rfl
 .rw [aD d,aD O,Yf O];rfl
theorem div_c{q:List Int}{A:Nat}(f:cf q (q.length-1)≠0)(e:x%cf q (q.length-1)=0)(d:bl x.natAbs<=A)(t:Nat):bl (x/cf q (q.length-1)*cf q t).natAbs<=A+(Xx q+1):=by have g:=Hg (gN e) d;have h:=Yq (x/cf q (q.length-1)) (cf q t);have j:=Pb q t;omega
def Zwe(p q:List Int)(j:Nat):Xr p q (j+1)=Ze7 q (Xr p q j) (p.length-q.length-j):=rfl
theorem Yl5{p q:List Int}{j:Nat}(h:q.length<=p.length)(d:j<=p.length-q.length):Eh (tzl (Xr p q j)) (tzl (shm q (cf (Xr p q j) (p.length-q.length-j+q.length-1)/cf q (q.length-1)) (p.length-q.length-j) q.length))=tzl (Xr p q (j+1)):=by rw [Zwe];exact Yrm (by rw [Fc];omega)
def Yf5{p q:List Int}{j:Nat}(d:j<p.length-q.length+1):(Zdj p q j).set (p.length-q.length-j) (cf (Xr p q j) (p.length-q.length-j+q.length-1)/cf q (q.length-1))=Zdj p q (j+1):=Zwf d
theorem div_sz{p q:List Int}{j:Nat}(d:j<=p.length-q.length+1)(e:∀k,p.length-q.length<k+j->k<=p.length-q.length->Mp p q k)(h:Xx p+(p.length-q.length+1)*(Xx q+1)<=M)(t:Nat):bl (cf (Xr p q j) t).natAbs<=M:=by have f:=Za7 p q j d e t;have g:j*(Xx q+1)<=(p.length-q.length+1)*(Xx q+1):=aJ _ d;omega
theorem Yrl{p q:List Int}{j:Nat}(h:j<=p.length-q.length)(e:∀k,p.length-q.length<k+j->k<=p.length-q.length->Mp p q k)(g:Xx p+(p.length-q.length+1)*(Xx q+1)<=M)(t:Nat):bl (cf (Xr p q j) t).natAbs+(Xx q+1)<=M:=by have f:=Za7 p q j O e t;have d:(j+1)*(Xx q+1)<=(p.length-q.length+1)*(Xx q+1):=aJ _ O;rw [dA]at d;omega
theorem Yrj{p q:List Int}(f:Xx p+(p.length-q.length+1)*(Xx q+1)<=M)(d:∀k,k<=p.length-q.length->Mp p q k){j:Nat}:Sz M (Zdj p q j):=by
 refine Bf λt h=>?_;split
 .unfold Zwo dq;have e:=div_sz (p:=p) (q:=q) (j:=p.length-q.length-t) O (λk _ g=>d k g) f (t+q.length-1);exact Hg (gN (d t O)) e
 .simp [Lt]
theorem Yp6{p q:List Int}(f:p≠[])(d:q.length<=p.length)(g:∀k,k<=p.length-q.length->Mp p q k){n:Nat}(e:n=(tzl (Xr p q (p.length-q.length+1))).length):decide (n=0)=decide (pdv p q):=by
 subst e;refine bL.2 ⟨λh=> .inr ⟨d,g,aC h⟩,λh=>?_⟩;rcases h with h|⟨_,_,h⟩
 .exact absurd h f
 .rw [h];rfl
theorem pdv_no{p q:List Int}(j:p≠[])(g:k<=p.length-q.length)(h:¬Mp p q k):decide (pdv p q)=false:=aN λf=>by
 rcases f with d|⟨_,e,_⟩
 .exact j d
 .exact h (e k g)
theorem Yp5{p q:List Int}(f:p≠[])(h:p.length<q.length):decide (pdv p q)=false:=aN λe=>by
 rcases e with d|⟨g,_,_⟩
 .exact f d
 .omega
def Yp4{p q:List Int}(d:p=[]):decide (pdv p q)=true:=aK (.inl d)
def Ho(a b:Int):Nat->List Int
 | 0=>[1]
 | i+1=>Qs (Ho a b i) (tzl [a,b])
def Zqg(p:List Int)(a b d:Int):Nat->List Int
 | 0=>[]
 | i+1=>Ht (Zqg p a b d i) (Zq (Ho a b i) (cf p i*d^(p.length-1-i)))
def hs(f:Nat->PS):Nat->PS
 | 0=>0
 | n+1=>hs f n+f n
theorem Zmy{f g:Nat->PS} : ∀{n:Nat},(∀k,k<n->f k=g k)->hs f n=hs g n
 | 0,_=>rfl
 | n+1,h=>by show hs f n+f n=hs g n+g n;rw [Zmy λk d=>h k O,h n O]
theorem Zv3(f:Nat->PS):∀n,hs f (n+1)=f 0+hs (λk=>f (k+1)) n
 | 0=>by show(0:PS)+f 0=f 0+0;rw [PS.zero_add',PS.add_zero']
 | n+1=>by show hs f (n+1)+f (n+1)=f 0+(hs (λk=>f (k+1)) n+f (n+1));rw [Zv3 f n,PS.add_assoc']
theorem Yk4(f:Nat->PS)(c:PS):∀n,hs (λk=>f k*c) n=hs f n*c
 | 0=>by show(0:PS)=0*c;rw [PS.zero_mul']
 | n+1=>by show hs (λk=>f k*c) n+f n*c=(hs f n+f n)*c;rw [Yk4 f c n,PS.distrib_r]
def Zq0(p:List Int):ps (tzl p)=ps p:=PS.ext' λi=>Lc p i
theorem Ysg(a b:Int)(i:Nat):cf [a,b] i=if i=0 then a else if i=1 then b else 0:=by
 rcases i with _|_|i
 .rfl
 .rfl
 .rw [Yf O7,aD O,aD O]
theorem Zt0{f:Nat->Int} : ∀{n:Nat},(∀k,k<n->f k=0)->Ye f n=0
 | 0,_=>rfl
 | n+1,h=>by rw [Yk,Zt0 λk d=>h k O,h n O];rfl
theorem Ybu(f:PS)(a b:Int)(t:Nat):(f*ps [a,b]).c t=f.c t*a+if t=0 then 0 else f.c (t-1)*b:=by
 rw [PS.mul_c];simp only [Ol,Ysg];rw [Yk,gE,aG rfl];rcases t with _|t
 .simp [Ye]
 .rw [Yk,show t+1-t=1 by omega,aD (by omega:¬1=0),aG rfl,Zt0 λk d=>by rw [aD O,aD O,dU],eZ,aD (by omega:¬t+1=0)];omega
theorem Yjb:ps [1]=1:=PS.ext' λi=>by
 rw [Ol,PS.one_c];rcases i with _|i
 .rfl
 .rw [Yf O7,aD O]
theorem ps_nil:ps []=0:=PS.ext' λi=>by rw [Ol,PS.zero_c];exact Yf O7
theorem C_c(n:Int)(i:Nat):(PS.C n).c i=if i=0 then n else 0:=by have h:=PS.C_mul_c n 1 i;rw [show PS.C n*1=PS.C n from PS.mul_one' _,PS.one_c]at h;rw [h];split<;>simp
theorem Ze3(a b:Int)(i:Nat):ps (Ho a b (i+1))=ps (Ho a b i)*ps [a,b]:=by show ps (Qs _ _)=_;rw [Zkj,Zq0]
theorem Zq1(p:List Int)(a b d:Int)(j:Nat):ps (Lb p a b d (j+1))=ps (Lb p a b d j)*ps [a,b]+PS.C (cf p (p.length-2-j)*d^(j+1)):=PS.ext' λt=>by
 rw [PS.add_c,Ybu,C_c,Ol,Zpw,Nw,Ol,Ol];by_cases h:t<(Lb p a b d j).length+1
 .rw [aG h];by_cases e:t=0
  .rw [aG e,aG e,aG e];omega
  .rw [aD e,aD e,aD e];omega
 .rw [aD h,Yf O,Yf O,aD O,aD O];simp
theorem Ybc(p:List Int)(a b d:Int):∀j,j<=p.length-1->ps (Lb p a b d j)=hs (λk=>PS.C (cf p (p.length-1-j+k)*d^(j-k))*ps (Ho a b k)) (j+1)
 | 0,_=>by
  rw [Ec];show _=(0:PS)+PS.C (cf p (p.length-1)*d^0)*ps [1];rw [Yjb,cL,fH,show(0:PS)+PS.C (cf p (p.length-1))*1=PS.C (cf p (p.length-1)) by rw [PS.mul_one',PS.zero_add']];refine PS.ext' λt=>?_;rw [Ol,C_c];rcases t with _|t
  .rfl
  .rw [Yf O7,aD O]
 | j+1,h=>by
  rw [Zq1,Ybc p a b d j O,<-Yk4,Zv3 _ (j+1)];have e:hs (λk=>PS.C (cf p (p.length-1-j+k)*d^(j-k))*ps (Ho a b k)*ps [a,b]) (j+1)=hs (λk=>PS.C (cf p (p.length-1-(j+1)+(k+1))*d^(j+1-(k+1)))*ps (Ho a b (k+1))) (j+1):=Zmy λk f=>by rw [Ze3,show p.length-1-(j+1)+(k+1)=p.length-1-j+k by omega,show j+1-(k+1)=j-k by omega,PS.mul_assoc']
  rw [e];show _+_=PS.C (cf p (p.length-1-(j+1)+0)*d^(j+1))*ps [1]+_;rw [Yjb,show p.length-1-(j+1)+0=p.length-2-j by omega];rw [PS.mul_one',PS.add_comm']
theorem Ybb(p:List Int)(a b d:Int):∀n,ps (Zqg p a b d n)=hs (λk=>PS.C (cf p k*d^(p.length-1-k))*ps (Ho a b k)) n
 | 0=>ps_nil
 | n+1=>by show ps (Ht _ _)=hs _ n+_;rw [Ypz,Ybb p a b d n,Zif]
def Yoj(p:List Int)(a b d:Int):∀n,Tr (Zqg p a b d n)
 | 0=>Tr.nil
 | n+1=>Zz5 _
theorem Ypf(p:List Int)(a b d:Int):Zqg p a b d p.length=Lm p a b d:=by
 unfold Lm;split
 .rename_i h;rw [h];rfl
 .rename_i h;refine(Yoj p a b d _).ps_inj (Qi _) ?_;rw [Zq0,Ybb,Ybc p a b d _ (aI _),show p.length-1+1=p.length by omega];exact Zmy λk e=>by rw [gE,cC]
theorem Zia(a b:Int):∀i,(Ho a b i).length<=i+1
 | 0=>aI _
 | i+1=>by have d:=Zia a b i;have e:(tzl [a,b]).length<=2:=Mj _;have f:(Ho a b (i+1)).length<=(Ho a b i).length+(tzl [a,b]).length-1:=aB (Mj _) (by rw [Yu];exact aI _);omega
theorem Zlu{a b:Int}{m:Nat}(e:bl a.natAbs<=m)(f:bl b.natAbs<=m):∀i,Sz (i*(m+1)+1) (Ho a b i)
 | 0=>λt=>by
  rcases t with _|t
  .show bl 1<=_;rw [Ync];omega
  .show bl (cf [1] (t+1)).natAbs<=_;rw [Yf O7];simp [Lt]
 | i+1=>λt=>by
  have d:=Zlu e f i;rw [<-Ol,Ze3,Ybu,Ol,Ol,dA];have g:=d t;have h:=d (t-1);have j:=Yq (cf (Ho a b i) t) a;have l:=Yq (cf (Ho a b i) (t-1)) b;have n:=Im (cf (Ho a b i) t*a) (if t=0 then 0 else cf (Ho a b i) (t-1)*b);have o:bl (if t=0 then 0 else cf (Ho a b i) (t-1)*b).natAbs<=i*(m+1)+1+m:=by
   split
   .simp [Lt]
   .omega
  omega
theorem Ztb (k:Nat){d:Int}{A:Nat}(f:bl x.natAbs<=A)(g:bl d.natAbs<=m):bl (x*d^k).natAbs<=A+k*m:=by
 have h:=Zhq 0 k (a:=x) (n:=1) (d:=d) (A:=A) (m:=max m 1) f (by show bl 1<=_;rw [Ync];omega) O;rcases aW k with e|e
 .subst e;simp;exact f
 .have j:=Yq x (d^k);have l:=Fj d g k e;omega
theorem Zo1 (p:List Int){a b d:Int}(e:bl a.natAbs<=m)(f:bl b.natAbs<=m)(g:bl d.natAbs<=m)(hi:i<p.length)(t:Nat) :
  bl (cf (Zq (Ho a b i) (cf p i*d^(p.length-1-i))) t).natAbs<=Xx p+p.length*(m+1)+1:=by
 rw [Yl];have h:=Yq (cf (Ho a b i) t) (cf p i*d^(p.length-1-i));have j:=Zlu e f i t;have l:=Ztb (p.length-1-i) (Pb p i) g;have n:i*(m+1)+(p.length-1-i)*(m+1)+(m+1)=p.length*(m+1):=by rw [<-bG,<-dA];congr 1;omega
 have q:i*(m+1)+(p.length-1-i)*(m+1)<=p.length*(m+1):=O;have o:(p.length-1-i)*m<=(p.length-1-i)*(m+1):=bB _ O;omega
theorem Yar (p:List Int){a b d:Int}{m:Nat}(e:bl a.natAbs<=m)(f:bl b.natAbs<=m)(g:bl d.natAbs<=m):∀i,i<=p.length->Sz (Xx p+p.length*(m+1)+1+i) (Zqg p a b d i)
 | 0,_=>Sz.nil _
 | i+1,h=>λt=>by have j:=Yar p e f g i O t;have l:=Zo1 p e f g (i:=i) O t;show bl (cf (Ht _ _) t).natAbs<=_;rw [Dh];have n:=Im (cf (Zqg p a b d i) t) (cf (Zq (Ho a b i) (cf p i*d^(p.length-1-i))) t);omega
theorem Zuk{p:List Int}{a b d:Int} : ∀i,(Zqg p a b d i).length<=i+1
 | 0=>bD _
 | i+1=>by have e:=Yju (Zqg p a b d i) (Zq (Ho a b i) (cf p i*d^(p.length-1-i)));have f:=Zuk (p:=p) (a:=a) (b:=b) (d:=d) i;have g:=Zia a b i;have h:(Zq (Ho a b i) (cf p i*d^(p.length-1-i))).length<=(Ho a b i).length:=aB (Mj _) O7;show(Ht _ _).length<=_;omega
abbrev RW:=List (Bool×ByteArray)
abbrev qR (z:SL×RW):Pc:=Yx 2 Zy2 (Xm z.1) z.2
abbrev qZ (z:SL×List Int):Pc:=Yx 2 wv (Xm z.1) z.2
abbrev R0:SL×RW:=((none,0,0),[])
def short1(r:RW):Bool:=(decide (r.length<=14) || decide (r.length=26)) && r.all λc=>decide (c.2.size<=16)
def shortb(d:List RW):Bool:=d.all short1
def Zfi  {N:Nat}  {M:Nat->Prop} {env:Pw} {H:Hp}  {F:Pw->Hp->Prop}   {o:Oper} {G:Type} {φ:G->Prop} {d:G->Pw} {l:G->Hp} {j e:Nat} {b:Bool} (r:ops[i]? = some o) (p:o.guard=some (j,b)) (q:(ops[j]?).bind (·.dst)=some e) (n:lk env e=some (.bool b)) (f:Nat.blt e N=true) (t:T P N sc M o env H φ d l)
  (h:∀g,φ g->LD P N sc M ops F rest (d g) (l g)) :
  LD P N sc M ops F ((i,1)::rest) env H:=r1g t r p q n f h
theorem Ai (k:Nat){f:Nat->Int} : ∀{n:Nat},k<n->(∀i,i<n->i≠k->f i=0)->Ye f n=f k
 | 0,d,_=>absurd d (cI _)
 | n+1,d,h=>by
  rw [Yk];by_cases e:k=n
  .subst e;rw [Gl λi hi=>h i O O,kH]
  .rw [h n O (λx=>e x.symm),Ai _ O (λi hi=>h i O),fK]
theorem Av (q:List Int){p:List Int}{a b:Nat}(d:∀i,a<i->cf p i=0)(e:∀i,b<i->cf q i=0):(ps p*ps q).c (a+b)=cf p a*cf q b:=by
 rw [PS.mul_c,Ai a O λi hi f=>?_]
 .rw [Ol,Ol,show a+b-a=b by omega]
 .rw [Ol,Ol];rcases aZ a i with h|h
  .rw [d i h,cM]
  .rw [e (a+b-i) O,dU]
theorem Zgx(s e:List Int)(c d:Int)(f:PS)(t:Nat):(ps (Eh (Zq s c) (Zq e d))*f).c t=c*(ps s*f).c t-d*(ps e*f).c t:=by rw [PS.mul_c,PS.mul_c,PS.mul_c,<-Ny,fO,<-oM,<-Ny,<-Fv];refine Xd λk _=>?_;rw [Ol,Ol,Ol,Il,Yl,Yl];grind
theorem Zvi(f:PS)(q d:List Int)(u v:Int)(h:∀i,u*cf q i=v*cf d i)(t:Nat):u*(f*ps q).c t=v*(f*ps d).c t:=by rw [PS.mul_c,PS.mul_c,<-Ny,<-Ny];refine Xd λk _=>?_;rw [Ol,Ol];have:=h (t-k);grind
theorem Ybt{q r:List Int}(v:Tr q)(e:q≠[])(h:∀t,(ps s*ps q).c t=cf r t)(w:∀t,q.length-1<=t->cf r t=0):∀t,cf s t=0:=by
 have d:=v.mem e;have n:0<q.length:=aF.2 e;have hs:tzl s=[]:=by
  rcases Zj8 (tzl s)with f|⟨B,y,f⟩
  .exact f
  .exfalso;have z:=Qi s;have j:tzl s≠[]:=by rw [f];simp
   have o:=z.mem j;have l:=Av q (p:=tzl s) (a:=(tzl s).length-1) (b:=q.length-1) (λi hi=>Yf O) (λi hi=>Yf O);have u:ps (tzl s)=ps s:=PS.ext' λi=>Lc s i;rw [u,h,w _ O]at l;rcases eR.1 l.symm with g|g
   .exact o g
   .exact d g
 exact(Ko s).1 hs
theorem Ke(h:∀t,cf s t=0)(f:PS)(t:Nat):(ps s*f).c t=0:=by rw [PS.mul_c];exact Gl λk _=>by rw [Ol,h,cM]
theorem Ov{p q:List Int}(f:Tr p)(g:Tr q)(d:p≠[])(e:q≠[]):(Qs p q).length=p.length+q.length-1:=by have h:=aF.2 d;have j:=aF.2 e;unfold Qs;rw [Ah,Yu];right;rw [Yu,Nw,aG O,show p.length+q.length-1-1=(p.length-1)+(q.length-1) by omega,Av _ (λi hi=>Yf O) (λi hi=>Yf O)];exact bJ (f.mem d) (g.mem e)
def mono(s:Nat)(c:Int):List Int:=List.replicate s 0 ++ [c]
theorem Zkz(s:Nat)(c:Int)(i:Nat):cf (mono s c) i=if i=s then c else 0:=by
 unfold mono;rw [Zet,aT];split
 .rw [aD O];unfold cf;simp [aE,iQ];split<;>rfl
 .rename_i h;split
  .rename_i d;subst d;simp [cf]
  .exact Yf O8
theorem Zml(s:Nat)(c:Int)(f:PS)(t:Nat):(ps (mono s c)*f).c t=if s<=t then c*f.c (t-s)else 0:=by
 rw [PS.mul_c];split
 .rw [Ai s O λi _ d=>by rw [Ol,Zkz,aD d,cM],Ol,Zkz,aG rfl]
 .exact Gl λk e=>by rw [Ol,Zkz,aD O,cM]
theorem Zib{p q:List Int}(v:0<q.length)(u:q.length<=p.length):∀j,j<=p.length-q.length+1->∃s:List Int,∀t,cf q (q.length-1)^j*cf p t=(ps s*ps q).c t+cf (Qn p q j) t
 | 0,_=>⟨[],λt=>by rw [Ke (λt=>Yf (bD _)),cL];unfold Qn;omega⟩
 | j+1,G=>by
  obtain⟨s,w⟩:=Zib v u j O;refine⟨Eh (Zq s (cf q (q.length-1))) (Zq (mono (p.length-1-j-(q.length-1)) (cf (Qn p q j) (p.length-1-j))) (-1)),λt=>?_⟩;rw [Zgx,Zml];have d:=w t;show _=_+cf (Ze2 q (Qn p q j) (p.length-1-j)) t;rw [dD];rcases aZ t p.length with h|h
  .rw [Zhn (by rw [Pi];exact h)];generalize p.length-1-j-(q.length-1)=g;generalize cf (Qn p q j) (p.length-1-j)=R;generalize cf (Qn p q j) t=o at d ⊢;generalize (ps s*ps q).c t=X at d ⊢;generalize cf q (q.length-1)^j=L at d ⊢;generalize cf q (q.length-1)=l at d ⊢;have e:L*l*cf p t=l*X+o*l:=by rw [eN,cQ l,<-eN,d];grind
   rw [e];by_cases f:g<=t
   .rw [aG f,Ol];by_cases r:t<g+q.length
    .rw [aG ⟨f,r⟩];omega
    .rw [aD O,Yf (p:=q) (i:=t-_) O];omega
   .rw [aD f,aD O];omega
  .have n:cf p t=0:=Yf h;have y:cf (Qn p q j) t=0:=Yf (by rw [Pi];exact h);have z:cf (Ze2 q (Qn p q j) (p.length-1-j)) t=0:=Yf (by rw [Zg2,Pi];exact h);have B:cf q (t-(p.length-1-j-(q.length-1)))=0:=Yf O;rw [n,y,dU,fK]at d;rw [n,z,aG O,Ol,B,<-d];simp
theorem Cu(p:List Int){q:List Int}(e:q≠[]):∃(k:Nat) (s:List Int),∀t,cf q (q.length-1)^k*cf p t=(ps s*ps q).c t+cf (Qc p q) t:=by
 have d:0<q.length:=aF.2 e;rcases aZ p.length q.length with h|h
 .refine⟨0,[],λt=>?_⟩;rw [Ke (λt=>Yf (bD _)),cL];unfold Qc;rw [aG h];omega
 .obtain⟨s,hs⟩:=Zib d h _ (aI _);refine⟨p.length-q.length+1,s,λt=>?_⟩;rw [hs t];unfold Qc;rw [aD O,Lc]
theorem Pe(p:List Int){q:List Int}(e:q≠[]):(Qc p q).length<q.length:=by
 have d:0<q.length:=aF.2 e;unfold Qc;split
 .assumption
 .have:=Zbz (p:=Qn p q (p.length-q.length+1)) (n:=q.length-1) λi hi=>Zfg d O _ (aI _) i O;omega
theorem Kq (q:List Int){p:List Int}(d:Tr p):Tr (Qc p q):=by
 unfold Qc;split
 .exact d
 .exact Qi _
def Sim(a b:List Int):Prop:=∃m n:Int,m≠0/\n≠0/\∀i,m*cf a i=n*cf b i
def Sim.refl(a:List Int):Sim a a:=⟨1,1,O3,O3,λ_=>rfl⟩
def Sim.symm : Sim a b->Sim b a:=λ⟨m,n,d,e,h⟩=>⟨n,m,e,d,λi=>(h i).symm⟩
theorem Sim.trans : Sim a b->Sim b c->Sim a c:=λ⟨m,n,d,e,h⟩ ⟨u,v,f,g,k⟩=>
 ⟨m*u,n*v,bJ d f,bJ e g,λi=>by have j:=h i;have l:=k i;grind⟩
theorem Sim.zero(h:Sim a b)(hi:cf a i=0):cf b i=0:=by
 obtain⟨m,n,e,d,h⟩:=h;have:=h i;rw [hi,dU]at this;rcases eR.1 this.symm with h|h
 .exact absurd h d
 .exact h
theorem Sim.len_le(h:Sim a b)(f:Tr b):b.length<=a.length:=by
 rcases aZ a.length b.length with e|e
 .exfalso;have d:b≠[]:=aF.1 O;exact f.mem d (h.zero (Yf O))
 .exact e
def Sim.len(h:Sim a b)(d:Tr a)(e:Tr b):a.length=b.length:=jZ (h.symm.len_le d) (h.len_le e)
theorem Sim.nil(h:Sim a b)(e:Tr b)(d:a=[]):b=[]:=by have:=h.len_le e;rw [d]at this;exact aC (by simpa using this)
theorem Ye3{f d:List Int}(ha:Tr a)(a0:Tr f)(G:Tr b)(h:Tr d)(q:b≠[])(h1:Sim a f)(y:Sim b d):Sim (Qc a b) (Qc f d):=by
 have g:d≠[]:=λe=>q (y.symm.nil G e);have Q:=y.len G h;obtain⟨k,s,hs⟩:=Cu a q;obtain⟨H,S,l⟩:=Cu f g;have hL:cf b (b.length-1)^k≠0:=Nu (G.mem q) k;have B:cf d (d.length-1)^H≠0:=Nu (h.mem g) H;generalize cf b (b.length-1)^k=L at hs hL;generalize cf d (d.length-1)^H=j at l B;obtain⟨m,n,hm,hn,V⟩:=h1;obtain⟨u,v,hu,hv,W⟩:=y;have l1:=Pe a q;have l2:=Pe f g;have o:∀t,(ps (Eh (Zq s (j*m*v)) (Zq S (L*n*u)))*ps d).c t=cf (Eh (Zq (Qc f d) (L*n*u)) (Zq (Qc a b) (j*m*u))) t:=λt=>by rw [Zgx,Il,Yl,Yl];have r:=hs t;have w:=l t;have I:=V t;have N:=Zvi (ps s) b d u v W t;generalize (ps s*ps b).c t=X at r N;generalize (ps s*ps d).c t=Y at N;generalize (ps S*ps d).c t=Z at w;generalize cf a t=A at r I;generalize cf f t=A' at w I;generalize cf (Qc a b) t=R at r;generalize cf (Qc f d) t=R' at w;have:j*m*v*Y=j*m*u*X:=O4;grind
 have z:=Ybt h g o λt ht=>by rw [Il,Yl,Yl,Yf (p:=Qc f d) O,Yf (p:=Qc a b) O];omega
 refine⟨j*m*u,L*n*u,by simp [*],by simp [*],λt=>?_⟩;have:=o t;rw [Ke z,Il,Yl,Yl]at this;grind
theorem Zcn(c:Int):∀(p:List Int) (g:Int),0<=g->(p.map (· * c)).foldl (λg c=>(Int.gcd g c:Int)) (g*c.natAbs)=p.foldl (λg c=>(Int.gcd g c:Int)) g*c.natAbs
 | [],g,_=>rfl
 | x::p,g,hg=>by
  rw [bZ,gY,gY,<-Zcn c p _ O];congr 1;have:Int.gcd (g*(c.natAbs:Int)) (x*c)=Int.gcd g x*c.natAbs:=by unfold Int.gcd;rw [cJ,cJ,dH,Nat.gcd_mul_right]
  rw [this];push_cast;rfl
theorem Zih(p:List Int)(c:Int):Ys (p.map (· * c))=Ys p*c.natAbs:=by have:=Zcn c p 0 (eY _);rw [cM]at this;exact this
theorem Gp(p:List Int)(i:Nat):cf (Zw p) i*Ys p=cf p i:=by rw [Zbq];exact iM (Ly p i)
def Ye4:Zw []=[]:=rfl
def Cw{p:List Int}(h:Tr p)(d:p≠[]):Ys p≠0:=λe=>h.mem d ((Zc6 p).1 e _)
theorem Ks{p:List Int}(h:Tr p)(e:p≠[]):Ys (Zw p)=1:=by
 have j:=Cw h e;have d:=Zih (Zw p) (Ys p);rw [show(Zw p).map (· * Ys p)=p from It (by rw [aP,Zy]) λi _=>by rw [Zdp O7];exact Gp p i]at d;have l:=Nr p;have f:Ys p*(Ys (Zw p)-1)=0:=by rw [Int.mul_sub,fH,cQ];have:((Ys p).natAbs:Int)=Ys p:=O;rw [this]at d;omega
 rcases eR.1 f with g|g<;>omega
theorem Zgm{p:List Int}(h:Ys p=1):Zw p=p:=It (Zy p) λi _=>by rw [Zbq,h,Int.ediv_one]
theorem Aq{p:List Int}(h:Tr p):Zw (Zw p)=Zw p:=by
 by_cases d:p=[]
 .subst d;rfl
 .exact Zgm (Ks h d)
theorem Ql{p:List Int}(h:Tr p):Sim (Zw p) p:=by
 by_cases d:p=[]
 .subst d;exact Sim.refl _
 .exact⟨Ys p,1,Cw h d,O3,λi=>by rw [eX,cQ];exact Gp p i⟩
def Xa(p:List Int):List Int:=Lv (Zw p)
theorem Zln{x y:List Int}(r:Tr x)(t:Tr y)(u:x≠[])(f:Ys x=1)(g:Ys y=1)(h:Sim x y):x=y\/∀i,cf x i=- cf y i:=by
 have d:=h.len r t;obtain⟨m,n,p,q,e⟩:=h;have j:=Zih x m;have l:=Zih y n;rw [show x.map (· * m)=y.map (· * n)from It (by simp [d]) λi _=>by rw [Zdp O7,Zdp O7,cQ,cQ (cf y i)];exact e i,l,f,g]at j
 have o:m=n\/m=-n:=O;rcases o with rfl|rfl
 .exact .inl (It d λi _=>gX p (e i))
 .exact .inr λi=>gX q (by have:=e i;grind)
theorem Dj(g:List Int)(i:Nat):cf (Lv g) i=if g.length≠0/\cf g (g.length-1)<0 then-cf g i else cf g i:=by
 unfold Lv;split
 .rw [Yl];omega
 .rfl
theorem Na{g:List Int}(h:Tr g):Tr (Lv g):=by
 unfold Lv;split
 .exact Qk
 .exact h
theorem Hm(g:List Int):Sim (Lv g) g:=by
 by_cases h:g.length≠0/\cf g (g.length-1)<0
 .exact⟨-1,1,O3,O3,λi=>by rw [Dj,aG h];omega⟩
 .exact⟨1,1,O3,O3,λi=>by rw [Dj,aD h]⟩
theorem Zrf(g:Tr a)(j:Tr b)(h:Sim a b):Xa a=Xa b:=by
 by_cases f:a=[]
 .rw [h.nil j f,f]
 .have o:b≠[]:=λe=>f (h.symm.nil g e);have hs:Sim (Zw a) (Zw b):=(Ql g).trans (h.trans (Ql j).symm);have r:=Yv g;have l:=Yv j;have p:=hs.len r l;have d:Zw a≠[]:=λe=>f (aC (by rw [<-Zy,e];rfl));rcases Zln r l d (Ks g f) (Ks j o) hs with e|e
  .unfold Xa;rw [e]
  .unfold Xa;refine(Na r).ext (Na l) λi=>?_;rw [Dj,Dj,<-p,e i,e ((Zw a).length-1)];have u:cf (Zw b) ((Zw a).length-1)≠0:=by rw [p];exact l.mem (λn=>d (aC (by rw [p,n];rfl)))
   have q:(Zw a).length≠0:=λn=>d (aC n);by_cases t:cf (Zw b) ((Zw a).length-1)<0
   .rw [aD O,aG ⟨q,t⟩]
   .rw [aG O,aD O];omega
theorem Zyz:∀(f:Nat) {a b n g:List Int},Tr a->Tr n->Tr b->Tr g->Sim a n->Sim b g->Sim (eu f a b) (eu f n g)
 | 0,_,_,_,_,_,_,_,_,h,_=>h
 | f+1,a,b,n,g,r,l,p,d,q,o=>by
  unfold eu;by_cases j:b=[]
  .rw [aG j,aG (o.nil d j)];exact q
  .rw [aD j,aD (λe=>j (o.symm.nil p e))];have t1:=Kq b r;have t2:=Kq g l;exact Zyz f p d (Yv t1) (Yv t2) o ((Ql t1).trans ((Ye3 r l p d j q o).trans (Ql t2).symm))
theorem Zm8:∀(f:Nat) {a b:List Int},Tr a->Tr b->Tr (eu f a b)
 | 0,_,_,h,_=>h
 | f+1,a,b,d,e=>by
  unfold eu;split
  .exact d
  .exact Zm8 f e (Yv (Kq _ d))
theorem Zhb:∀(f k:Nat) {a b:List Int},eok f a b->eu (f+k) a b=eu f a b
 | 0,k,a,b,h=>by rw [show b=[]from h,Cc,Cc]
 | f+1,k,a,b,h=>by
  rcases h with h|h
  .rw [h,Cc,Cc]
  .by_cases d:b=[]
   .rw [d,Cc,Cc]
   .rw [show f+1+k=f+k+1 by omega];unfold eu;rw [aD d,aD d];exact Zhb f k h.2
theorem Yck:∀(f:Nat) {a b:List Int},Tr a->Tr b->Zw a=a->Zw b=b->Zw (eu f a b)=eu f a b
 | 0,_,_,_,_,h,_=>h
 | f+1,a,b,d,j,e,g=>by
  unfold eu;split
  .exact e
  .exact Yck f j (Yv (Kq _ d)) g (Aq (Kq _ d))
theorem Zi5{p q:List Int}(d:Tr p)(e:Tr q):Tr (gA p q):=by unfold gA;split<;>exact Yv ‹_›
theorem Zi4{p q:List Int}(d:Tr p)(e:Tr q):Tr (gB p q):=by unfold gB;split<;>exact Yv ‹_›
theorem Zva{p q:List Int}(d:Tr p)(e:Tr q):Nc F p q=Xa (eu F (gA p q) (gB p q)):=by
 unfold Nc Xa;rw [Yck F (Zi5 d e) (Zi4 d e)]
 .unfold gA;split
  .exact Aq e
  .exact Aq d
 .unfold gB;split
  .exact Aq d
  .exact Aq e
theorem Yq3{G:Nat}{p q:List Int}(e:Tr p)(d:Tr q)(f:eok F p q)(j:eok G (gA p q) (gB p q)):Lv (Zw (eu F p q))=Nc G p q:=by
 rw [Zva e d];show Xa (eu F p q)=_;rw [<-Zhb F (G+1) f,<-Zhb G F j];refine Zrf (Zm8 _ e d) (Zm8 _ (Zi5 e d) (Zi4 e d)) ?_;rcases aZ p.length q.length with h|h
 .rw [show gA p q=Zw q from aG h,show gB p q=Zw p from aG h];rw [show F+(G+1)=F+G+1 by omega,show G+F=F+G by omega];have g:q≠[]:=aF.1 O;have:eu (F+G+1) p q=eu (F+G) q (Zw p):=by
   conv=>lhs;unfold eu
   rw [aD g,show Qc p q=p from aG h]
  rw [this];exact Zyz _ d (Yv d) (Yv e) (Yv e) (Ql d).symm (Sim.refl _)
 .rw [show gA p q=Zw p from aD O,show gB p q=Zw q from aD O];have l:eu (F+(G+1)) p q=eu (F+G) p q:=by rw [Zhb F (G+1) f,Zhb F G f]
  rw [l,show G+F=F+G by omega];exact Zyz _ e (Yv e) d (Yv d) (Ql e).symm (Ql d).symm
def chk:Nat->Nat->Nat->Nat->Nat->Bool
 | 0,_,d,_,_=>Nat.beq d 0
 | f+1,e,d,A,B=>Nat.beq d 0 || (bif Nat.blt e d then chk f d e B A else
   Nat.ble (A+(e-d+1)*B) 65537 && (List.range d).all λl=>chk f d l B (bif Nat.ble l 1 then 2 else A+(e-d+1)*B))
theorem cp_nf{p:List Int}{y z:Int}{n:Nat}(d:Sz n p)(l:bl x.natAbs<=m)(o:bl y.natAbs<=m)(q:bl z.natAbs<=m)(j:p.length<=25)(h:n+24*(m+1)+8<=65536):Xx p+(p.length-1)*(Xx [x,y,z]+1)+8<=65536:=by
 have e:=Qu d;have f:Xx [x,y,z]<=m:=by simp only [Xx];omega
 have g:(p.length-1)*(Xx [x,y,z]+1)<=24*(m+1):=aU O O;omega
theorem cp_not{p:List Int}{y z:Int}(h:Xx p+(p.length-1)*(Xx [x,y,z]+1)+8<=65536):¬Znf p x y z:=λd=>by have:=d.2;omega
theorem Zfm(p:List Int)(x y z:Int):(Lm p x y z).length<=p.length:=by
 unfold Lm;split
 .exact bD _
 .refine aB (Mj _) ?_;rw [Zdb];omega
theorem Zvp(x y:Int):Kf x y∣x:=by
 unfold Kf;split
 .exact Int.neg_dvd.2 (kQ ..)
 .exact kQ ..
theorem Zmr(x y:Int):Kf x y∣y:=by
 unfold Kf;split
 .exact Int.neg_dvd.2 (jK ..)
 .exact jK ..
def s8(l:List Int):Prop:=∀x∈l,(Qp x.natAbs).size<=8
abbrev Z0:SL×List Int:=((none,0,0),[])
theorem vp_eu:∀(f:Nat) {a b:List Int},Vp a->Vp b->eok f a b->Vp (eu f a b)
 | 0,_,_,h,_,_=>h
 | f+1,a,b,d,e,h=>by
  unfold eu;split
  .exact d
  .rcases h with h|h
   .contradiction
   .exact vp_eu f e (Kb (Za3 d h.1)) h.2
theorem Ygp{g:List Int}(h:Vp g):Vp (Lv g):=by
 unfold Lv;split
 .refine⟨λi=>by rw [Yl];exact Zck h.sz i,Qk,aB (Oh _) h.len⟩
 .exact h
def Zzz{p q:List Int}(d:Vp p)(e:Vp q)(h:eok F (gA p q) (gB p q)):Vp (Nc F p q):=Ygp (vp_eu F (vp_gA d e) (vp_gB d e) h)
def pevn(p:List Int)(x y:Int)(n:Nat):Int:=Ye (λi=>cf p i*(x^i*y^(n-1-i))) n
def dn(p:List Int)(y:Int):Int:=y^(p.length-1)
def Fr(q:List Int):Qs [] q=[]:=Zbe (.inl rfl)
def Zca(p:List Int):Qs p []=[]:=Zbe (.inr rfl)
theorem Yku(N D:Int):N/Kf N D*D=N*(D/Kf N D):=by have e:=iM (Zvp N D);have f:=iM (Zmr N D);generalize N/Kf N D=n at *;generalize D/Kf N D=d at *;generalize Kf N D=g at *;subst e f;grind
theorem Yfj{N D:Int}(h:0<D):0<D/Kf N D:=by
 have f:Kf N D=(Int.gcd N D:Int):=aD O;have g:=iM (Zmr N D);rw [f]at g ⊢;generalize D/(Int.gcd N D:Int)=d at *;rcases iH 0 d with e|e
 .exact e
 .exfalso;have:d*(Int.gcd N D:Int)<=0:=gU e O;omega
section
variable {p q:List Int}
theorem Zfp(w:Tr p)(n:Tr q)(h:p≠[])(e:q≠[]):∀j,j<=p.length->∀t,cf (Xr (Qs p q) q j) t=(ps (p.take (p.length-j))*ps q).c t
 | 0,_,t=>by rw [jR,bK];exact Hs p q t
 | j+1,H,t=>by
  have y:=Zfp w n h e j O;have I:=aF.2 h;have N:=aF.2 e;have v:=Ov w n h e;have B:Xr (Qs p q) q (j+1)=Ze7 q (Xr (Qs p q) q j) (p.length-1-j):=by show Ze7 q _ _=_;rw [v];congr 1;omega
  have o:=n.mem e;have d:cf (Xr (Qs p q) q j) (p.length-1-j+q.length-1)=cf p (p.length-1-j)*cf q (q.length-1):=by rw [y,show p.length-1-j+q.length-1=(p.length-1-j)+(q.length-1) by omega,Av _ (λi hi=>by rw [Dg,aD O]) (λi hi=>Yf O),Dg,aG O]
  have l:dq q (Xr (Qs p q) q j) (p.length-1-j)=cf p (p.length-1-j):=by unfold dq;rw [d];exact lA _ o
  have G:(ps (p.take (p.length-j))*ps q).c t=(ps (p.take (p.length-(j+1)))*ps q).c t+(ps (mono (p.length-1-j) (cf p (p.length-1-j)))*ps q).c t:=by
   rw [PS.mul_c,PS.mul_c,PS.mul_c,<-Fv];refine Xd λk _=>?_;rw [Ol,Ol,Ol,Ol,Dg,Dg,Zkz];by_cases f:k=p.length-1-j
   .rw [aG O,aD O,aG f,<-f];omega
   .rw [aD f];by_cases r:k<p.length-j
    .rw [aG r,aG O];omega
    .rw [aD r,aD O];omega
  rw [B];unfold Ze7;rw [Nw,Fc,v,l,y,G,Zml,Ol];by_cases u:t<p.length+q.length-1
  .rw [aG u];by_cases g:p.length-1-j<=t
   .rw [aG g];by_cases z:t<p.length-1-j+q.length
    .rw [aG ⟨g,z⟩];omega
    .rw [aD O,Yf (p:=q) O];omega
   .rw [aD g,aD O];omega
  .rw [aD u,PS.mul_c];refine(Gl λk _=>?_).symm;rw [Ol,Ol,Dg];split
   .rw [Yf (p:=q) O,dU]
   .rw [cM]
theorem Zq8(j:Tr p)(l:Tr q)(e:q≠[]):pdv (Qs p q) q/\Kc (Qs p q) q=p:=by
 by_cases d:p=[]
 .subst d;rw [Fr];exact⟨.inl rfl,rfl⟩
 have v:=aF.2 d;have w:=aF.2 e;have u:=Ov j l d e;have o:=l.mem e;have r:∀k,k<=p.length-1->cf (Xr (Qs p q) q (p.length-1-k)) (k+q.length-1)=cf p k*cf q (q.length-1):=λk f=>by rw [Zfp j l d e _ O,show k+q.length-1=k+(q.length-1) by omega,Av _ (λi hi=>by rw [Dg,aD O]) (λi hi=>Yf O),Dg,aG O]
 have h:(Qs p q).length-q.length=p.length-1:=O;have n:Qs p q≠[]:=aF.1 O;refine⟨.inr ⟨O,λk f=>?_,?_⟩,?_⟩
 .unfold Mp;rw [h]at f ⊢;rw [r k f];exact Int.mul_emod_left _ _
 .rw [h,show p.length-1+1=p.length by omega];refine(Ko _).2 λi=>?_;rw [Zfp j l d e _ (aI _),gE,dS];exact Ke (λt=>Yf (bD _)) _ _
 .rw [Zl9 n];unfold Yjg;rw [h,show p.length-1+1=p.length by omega,Gd (g:=cf p) λk f=>?_,Zei,Ah j];unfold Zwo dq;rw [h,r k O];exact lA _ o
end
def Dv(g a:List Int):Prop:=∃(k:Int) (s:List Int),k≠0/\∀t,k*cf a t=(ps s*ps g).c t
theorem Zvc(f:PS)(t:Nat):(ps [1]*f).c t=f.c t:=by rw [PS.mul_c,Ai 0 O λi _ d=>by rw [Ol,Yf (p:=[1]) O8,cM],Ol,show cf [1] 0=1 from rfl,eX,jR]
theorem Dv.refl(a:List Int):Dv a a:=⟨1,[1],O3,λt=>by rw [Zvc,eX,Ol]⟩
theorem Dv.nil(g:List Int):Dv g []:=⟨1,[],O3,λt=>by rw [Ke (λt=>Yf (bD _)),Yf (bD _)];rfl⟩
theorem Dv.sim{g:List Int} : Dv g a->Sim a b->Dv g b:=λ⟨k,s,d,h⟩ ⟨m,n,j,f,e⟩=>
 ⟨k*n,Zq s m,bJ d f,λt=>by rw [PS.mul_c,show(λi=>(ps (Zq s m)).c i*(ps g).c (t-i))=λi=>m*((ps s).c i*(ps g).c (t-i))from oQ λi=>by rw [Ol,Ol,Ol,Yl];grind,Ny,<-PS.mul_c,<-h,Int.mul_assoc,<-e];grind⟩
theorem Dv.lin{g:List Int}(r:Dv g a)(w:Dv g b)(s:List Int)(L:Int)(o:L≠0)(h:∀t,L*cf c t=(ps s*ps a).c t+cf b t):Dv g c:=by
 obtain⟨k,u,y,j⟩:=r;obtain⟨m,v,z,l⟩:=w;refine⟨L*(k*m),Ht (Zq (Qs s u) m) (Zq v k),bJ o (bJ y z),λt=>?_⟩;have G:ps g=ps g:=rfl;have d:k*(ps s*ps a).c t=(ps (Qs s u)*ps g).c t:=by rw [Zkj,PS.mul_assoc',PS.mul_c,PS.mul_c,<-Ny];refine Xd λi _=>?_;rw [<-j,Ol,Ol];grind
 have e:(ps (Ht (Zq (Qs s u) m) (Zq v k))*ps g).c t=m*(ps (Qs s u)*ps g).c t+k*(ps v*ps g).c t:=by rw [PS.mul_c,PS.mul_c,PS.mul_c,<-Ny,<-Ny,<-Fv];refine Xd λi _=>?_;rw [Ol,Ol,Ol,Ol,Dh,Yl,Yl];grind
 have f:=h t;have n:=l t;rw [e,<-d,<-n];generalize (ps s*ps a).c t=X at *;generalize cf c t=C at *;generalize cf b t=B at *;have:L*(k*m)*C=k*m*(L*C):=O4;rw [this,f];grind
theorem eu_dv:∀(f:Nat) {a b:List Int},Tr a->Tr b->eok f a b->Dv (eu f a b) a/\Dv (eu f a b) b
 | 0,a,b,l,g,h=>by rw [show b=[]from h];exact⟨Dv.refl _,Dv.nil _⟩
 | f+1,a,b,l,g,h=>by
  by_cases d:b=[]
  .subst d;rw [Cc];exact⟨Dv.refl _,Dv.nil _⟩
  .rcases h with h|h
   .exact absurd h d
   .have e:eu (f+1) a b=eu f b (Zw (Qc a b)):=by
     conv=>lhs;unfold eu
     rw [aD d]
    rw [e];have t1:=Kq b l;obtain⟨j,n⟩:=eu_dv f g (Yv t1) h.2;obtain⟨k,s,hs⟩:=Cu a d;exact⟨j.lin (n.sim (Ql t1)) s _ (Nu (g.mem d) k) hs,j⟩
theorem Dv.of_sim{g d:List Int} : Dv g a->Sim g d->Dv d a:=λ⟨k,s,f,h⟩ ⟨m,n,j,l,e⟩=>
 ⟨m*k,Zq s n,bJ j f,λt=>by rw [eN,h,PS.mul_c,PS.mul_c,<-Ny];refine Xd λi _=>?_;rw [Ol,Ol,Ol,Ol,Yl];have:=e (t-i);grind⟩
theorem Dv.zero(f:Tr a)(h:Dv [] a):a=[]:=by
 obtain⟨k,s,g,h⟩:=h;rw [<-Ah f,Ko];intro i;have e:=h i;rw [PS.mul_comm',Ke (λt=>Yf (bD _))]at e;rcases eR.1 e with d|d
 .exact absurd d g
 .exact d
theorem Zed{p q:List Int}(g:Tr p)(j:Tr q)(h:eok F (gA p q) (gB p q)):Dv (Nc F p q) p/\Dv (Nc F p q) q:=by
 have l:=Zi5 g j;have n:=Zi4 g j;obtain⟨d,e⟩:=eu_dv F l n h;have hs:Sim (eu F (gA p q) (gB p q)) (Nc F p q):=(Hm _).symm;have d:=d.of_sim hs;have e:=e.of_sim hs;by_cases f:p.length<q.length
 .rw [show gA p q=Zw q from aG f]at d;rw [show gB p q=Zw p from aG f]at e;exact⟨e.sim (Ql g),d.sim (Ql j)⟩
 .rw [show gA p q=Zw p from aD f]at d;rw [show gB p q=Zw q from aD f]at e;exact⟨d.sim (Ql g),e.sim (Ql j)⟩
def Zd1 (F:Nat){p q:List Int}(d:Tr p)(e:Tr q):Tr (Nc F p q):=Na (Zm8 F (Zi5 d e) (Zi4 d e))
theorem Zfe(p:List Int){c:Int}(h:c≠0):Sim p (Zq p c):=⟨c,1,h,O3,λi=>by rw [Yl];grind⟩
def fin8(d A:Nat):Bool:=Nat.ble d 2 || Nat.ble (64+(9-d)*A) 65536
def chk2:Nat->Nat->Nat->Nat->Nat->Bool
 | 0,d,_,A,_=>fin8 d A
 | f+1,d,e,A,B=>bif Nat.beq e 0 then fin8 d A else bif Nat.blt d e then chk2 f e d B A else
   (List.range e).all λl=>chk2 f e l B (bif Nat.ble l 1 then 2 else A+(d-e+1)*B)
def Zcd{g:List Int}(h:Tr g):(Lv g).length=g.length:=(Hm g).len (Na h) h
theorem Zjh(g:List Int):Ys (Lv g)=Ys g:=by
 have d:Ys (Lv g)∣Ys g:=Ea λi=>by
  have h:=Ly (Lv g) i;rw [Dj]at h;split at h
  .exact mC.1 h
  .exact h
 have e:Ys g∣Ys (Lv g):=Ea λi=>by
  rw [Dj];split
  .exact mC.2 (Ly g i)
  .exact Ly g i
 exact Int.dvd_antisymm (Nr _) (Nr _) d e
theorem Zme{p q:List Int}(f:Tr p)(g:Tr q)(d:Nc F p q≠[]):Ys (Nc F p q)=1:=by rw [Zva f g]at d ⊢;unfold Xa at d ⊢;rw [Zjh];refine Ks (Zm8 F (Zi5 f g) (Zi4 f g)) λe=>d ?_;rw [e];rfl
end Go.Sky
namespace Go.Sky
variable{a p xs:List Int}
def Za9(xs:List Int):Prop:=xs.length=0\/(xs.length+2)*(xs.length+2)*(Xx xs+16)<=65536
instance (xs:List Int):Decidable (Za9 xs):=by unfold Za9;infer_instance
def sqf(F:Nat)(xs:List Int):List Int:=Kc (Xa xs) (Nc F (Xa xs) (Yy (Xa xs)))
def Yox(F:Nat)(xs:List Int):Prop:=(∀i,i<xs.length->bl (cf (Xa xs) (i+1)*((i:Int)+1)).natAbs<=65536)/\¬Zpk (Xa xs) (Yy (Xa xs))/\eok F (gA (Xa xs) (Yy (Xa xs))) (gB (Xa xs) (Yy (Xa xs)))/\
 Bs (Xa xs) (Nc F (Xa xs) (Yy (Xa xs)))=0/\pdv (Xa xs) (Nc F (Xa xs) (Yy (Xa xs)))
def Ma(x y:List Int):List Int:=if cf y (y.length-1)<0/\(x.length-y.length+1)%2=1 then Zw (Qc x y)else Zq (Zw (Qc x y)) (-1)
def cok:Nat->List Int->List Int->Prop
 | 0,_,y=>y=[]
 | f+1,x,y=>y=[]\/(Bs x y=0/\y.length<=x.length/\cok f y (Ma x y))
def Mc:Nat->List Int->List Int->List (List Int)
 | 0,x,_=>[x]
 | f+1,x,y=>if y=[]then [x]else x::Mc f y (Ma x y)
theorem Du(f:Nat)(x:List Int):Mc f x []=[x]:=by cases f<;>rfl
theorem Zhk{f:Nat}{b:List Int}(h:cok f a b)(c:b≠[]):∃g,f=g+1/\Bs a b=0/\b.length<=a.length/\cok g b (Ma a b)/\Mc f a b=a::Mc g b (Ma a b):=by
 cases f with
 | zero=>exact absurd h c
 | succ g=>
  rcases h with h|h
  .exact absurd h c
  .exact⟨g,rfl,h.1,h.2.1,h.2.2,by show(if b=[]then [a]else _)=_;rw [aD c]⟩
def chn(F:Nat)(xs:List Int):List (List Int):=Mc F (sqf F xs) (Zw (Yy (sqf F xs)))
def Ax(F:Nat)(xs:List Int):Prop:=Yox F xs/\(∀i,i<xs.length->bl (cf (sqf F xs) (i+1)*((i:Int)+1)).natAbs<=65536)/\cok F (sqf F xs) (Zw (Yy (sqf F xs)))
theorem Zxi(h:Vp p):Vp (Xa p):=by
 unfold Xa;have b:=Kb h;refine⟨λi=>?_,Na b.tr,by rw [Zcd b.tr];exact b.len⟩;rw [Dj];split
 .rw [eC];exact b.sz i
 .exact b.sz i
theorem Pr(h:Tr p):(Xa p).length=p.length:=by unfold Xa;rw [Zcd (Yv h),Zy]
theorem Zla{x y:List Int}(c:Vp x)(b:Bs x y=0):Vp (Ma x y):=by
 have h:=Kb (Za3 c b);unfold Ma;split
 .exact h
 .exact⟨λi=>by rw [Yl];exact Zck h.sz i,Qk,aB (Oh _) h.len⟩
def Ng(s:Int×Int)(x:Int):Int×Int:=if x=0 then s else(if x=-s.2 then s.1+1 else s.1,x)
def chg(l:List Int):Int:=(l.foldl Ng (0,0)).1
def Zcf{α β:Type}(f:α->β->α)(a:α)(l:List β)(x:β):(l ++ [x]).foldl f a=f (l.foldl f a) x:=O7
theorem chg1_n(s:Int×Int)(x:Int):(Ng s x).1=s.1\/(Ng s x).1=s.1+1:=by
 unfold Ng;split
 .exact .inl rfl
 .dsimp only;split
  .exact .inr rfl
  .exact .inl rfl
def sgs(b:List (List Int))(x y:Int):List Int:=b.map λp=>(pev p x y).sign
def sgr(b:List (List Int)):List Int:=b.map λp=>(cf p (p.length-1)).sign
def sgl(b:List (List Int)):List Int:=b.map λp=>if p.length%2=0 then-(cf p (p.length-1)).sign else(cf p (p.length-1)).sign
def smost(xs:List Int):Nat:=(xs.take (xs.length-1)).foldl (λm c=>max m c.natAbs) 0
def sbound(xs:List Int):Int:=((smost xs/(cf xs (xs.length-1)).natAbs:Nat):Int)+2
def Zzf(xs:List Int):Int:=if xs.length=0 then 3 else if Za9 xs then 0 else 7
def ef(z:Int×Int):Bool:=decide (512<bl z.1.natAbs) || decide (512<bl z.2.natAbs)
def chk2r(xs:List Int)(x y b c:Int):Int:=if xs.length=0 then 3 else if 0<x*c-b*y then 3 else if Za9 xs/\ef (x,y)=false/\ef (b,c)=false then 0 else 7
theorem Ysc(b:xs≠[])(h:Za9 xs):Zzf xs=0:=by unfold Zzf;rw [aD (λe=>b (aC e)),aG h]
theorem Zkm(h:¬cf (Zw xs) ((Zw xs).length-1)<0):Xa xs=Zw xs:=by unfold Xa Lv;rw [aD O]
theorem Zkn(b:(Zw xs).length≠0)(h:cf (Zw xs) ((Zw xs).length-1)<0):Xa xs=Zq (Zw xs) (-1):=by unfold Xa Lv;rw [aG ⟨b,h⟩]
theorem Zfn (P:Nat->Prop) : ∀n,P n->∃m,P m/\∀k,k<m->¬P k:=by
 intro n
 induction n using Nat.strongRecOn with
 | _ n e=>
  intro h;by_cases d:∃k,k<n/\P k
  .obtain⟨k,c,b⟩:=d;exact e k c b
  .exact⟨n,h,λk c b=>d ⟨k,c,b⟩⟩
theorem Yfl{n:Nat}(h:2<=n):∃p,2<=p/\p∣n/\∀d,2<=d->d∣n->p<=d:=by
 obtain⟨p,⟨e,f⟩,g⟩:=Zfn (λd=>2<=d/\d∣n) n ⟨h,Nat.dvd_refl n⟩;exact⟨p,e,f,λd i c=>by
  rcases aZ d p with b|b
  .exact absurd ⟨i,c⟩ (g d b)
  .exact b⟩
theorem Zvx{n p:Nat}(m:2<=p)(g:p∣n)(i:∀d,2<=d->d∣n->p<=d)(r:0<n){x y:Int}(h:(p:Int)∣x*y):(p:Int)∣x\/(p:Int)∣y:=by
 by_cases f:(p:Int)∣x
 .exact .inl f
 .right;have k:Nat.gcd p x.natAbs=1:=by
   have e:=mM p x.natAbs;have l:0<Nat.gcd p x.natAbs:=Nat.gcd_pos_of_pos_left _ O;rcases aZ (Nat.gcd p x.natAbs) 2 with b|b
   .omega
   .have o:=i _ b (Nat.dvd_trans e g);have q:=mG O e;exfalso;refine f (fX.1 ?_);rw [dH];have j:Nat.gcd p x.natAbs=p:=O;rw [<-j];exact oI _ _
  have c:=fX.2 h;rw [dH,cJ]at c;refine fX.1 ?_;rw [dH];exact(show Nat.Coprime p x.natAbs from k).dvd_of_dvd_mul_left c
theorem gauss{g:List Int}(Z:Ys g=1):∀(n:Nat) (k:Int) (s:List Int),k.natAbs=n->k≠0->(∀t,k*cf a t=(ps s*ps g).c t)->∃q:List Int,∀t,cf a t=(ps q*ps g).c t:=by
 intro n
 induction n using Nat.strongRecOn with
 | _ n ih=>
  intro k s l R h;rcases aZ n 2 with N|N
  .have F:k*k=1:=by have:k=1\/k=-1:=O;rcases this with e|e<;>subst e<;>rfl
   refine⟨Zq s k,λt=>?_⟩;have e:(ps (Zq s k)*ps g).c t=k*(ps s*ps g).c t:=by rw [PS.mul_c,PS.mul_c,<-Ny];exact Xd λi _=>by rw [Ol,Ol,Ol,Yl];grind
   rw [e,<-h,<-eN,F,eX]
  .obtain⟨p,S,V,pm⟩:=Yfl N;have H:∀{x y:Int},(p:Int)∣x*y->(p:Int)∣x\/(p:Int)∣y:=Zvx S V pm O;have o:(p:Int)∣k:=fX.1 (by rw [dH,l];exact V);have v:∃j,¬(p:Int)∣cf g j:=bQ λr=>by have:(p:Int)∣Ys g:=Ea λi=>bQ λhy=>r ⟨i,hy⟩;rw [Z]at this;have:=mJ O3 this;omega
   obtain⟨j0,B⟩:=v;obtain⟨j,hj,D⟩:=Zfn (λj=>¬(p:Int)∣cf g j) j0 B;have hs:∀i,(p:Int)∣cf s i:=λi0=>bQ λw=>by
    obtain⟨i,hi,z⟩:=Zfn (λi=>¬(p:Int)∣cf s i) i0 w;have P:=h (i+j);rw [PS.mul_c]at P;have M:∀m,m<=i+j+1->(p:Int)∣Ye (λk=>if k=i then 0 else(ps s).c k*(ps g).c (i+j-k)) m:=λm=>by
     induction m with
     | zero=>intro _;exact jT _
     | succ m I=>
      intro hm;rw [Yk];refine Int.dvd_add (I O) ?_;split
      .exact jT _
      .rename_i a0;rw [Ol,Ol];rcases aZ m i with u|u
       .exact iK (bQ λr=>z m u r) (jL _ _)
       .exact iK (bQ λr=>D (i+j-m) O r) (Int.dvd_mul_left _ _)
    have W:Ye (λk=>(ps s).c k*(ps g).c (i+j-k)) (i+j+1)=Ye (λk=>if k=i then 0 else(ps s).c k*(ps g).c (i+j-k)) (i+j+1)+cf s i*cf g j:=by
     have Y:Ye (λk=>(ps s).c k*(ps g).c (i+j-k)) (i+j+1)=Ye (λk=>(if k=i then 0 else(ps s).c k*(ps g).c (i+j-k))+(if k=i then(ps s).c k*(ps g).c (i+j-k)else 0)) (i+j+1):=
      Xd λk _=>by split<;>omega
     rw [Y,Fv,Ai i (f:=λk=>if k=i then(ps s).c k*(ps g).c (i+j-k)else 0) O (λq _ hq=>aD hq),aG rfl,Ol,Ol,show i+j-i=j by omega]
    rw [W]at P;have u:(p:Int)∣cf s i*cf g j:=by have d:cf s i*cf g j=k*cf a (i+j)-Ye (λk=>if k=i then 0 else(ps s).c k*(ps g).c (i+j-k)) (i+j+1):=O;rw [d];exact Int.dvd_sub (iK o (jL _ _)) (M _ (aI _))
    rcases H u with d|d
    .exact hi d
    .exact hj d
   obtain⟨c,b⟩:=o;have G:(p:Int)≠0:=O;refine ih c.natAbs ?_ c (s.map (· / (p:Int))) rfl ?_ ?_
   .rw [<-l,b,cJ,dH];have:0<c.natAbs:=by
     rcases aW c.natAbs with Q|Q
     .rw [show c=0 by omega]at b;simp at b;exact absurd b R
     .exact Q
    have:=aJ c.natAbs S;omega
   .intro e;rw [e]at b;simp at b;exact R b
   .intro t;refine gX G ?_;rw [<-eN,<-b,h,PS.mul_c,PS.mul_c,<-Ny];refine Xd λi _=>?_;rw [Ol,Ol,Ol,Zdp O7,<-eN,kU (hs i)]
def ev1:List Int->Int->Int
 | [],_=>0
 | c::r,t=>c+t*ev1 r t
def sdv:List Int->Int->List Int
 | [],_=>[]
 | [_],_=>[]
 | _::c::r,t=>ev1 (c::r) t::sdv (c::r) t
theorem Zmu:∀(u:List Int) (t:Int),(sdv u t).length=u.length-1
 | [],_=>rfl
 | [_],_=>rfl
 | _::c::r,t=>by unfold sdv;rw [dV,Zmu (c::r) t];simp
theorem Yci:∀(u:List Int) (t x:Int),ev1 u x=ev1 u t+(x-t)*ev1 (sdv u t) x
 | [],t,x=>by simp [ev1,sdv]
 | [c],t,x=>by simp [ev1,sdv]
 | a::c::r,t,x=>by have b:=Yci (c::r) t x;show a+x*ev1 (c::r) x=a+t*ev1 (c::r) t+(x-t)*(ev1 (c::r) t+x*ev1 (sdv (c::r) t) x);rw [b];generalize ev1 (c::r) t=A;generalize ev1 (sdv (c::r) t) x=B;grind
theorem Cn(a:Int)(u:List Int)(i:Nat):cf (a::u) i=if i=0 then a else cf u (i-1):=by
 cases i with
 | zero=>rfl
 | succ i=>simp [cf]
def Zcj(i:Nat):cf [] i=0:=Yf (bD _)
theorem Ym4:∀(u:List Int) (t:Int) (i:Nat),cf u (i+1)=cf (sdv u t) i-t*cf (sdv u t) (i+1)
 | [],t,i=>by unfold sdv;simp [Zcj]
 | [c],t,i=>by unfold sdv;rw [Cn,aD O];simp [Zcj]
 | a::c::r,t,i=>by
  unfold sdv;rw [Cn,aD O,eZ];cases i with
  | zero=>
   rw [Cn,aG rfl,Cn,aG rfl,Cn,aD O];show c=ev1 (c::r) t-t*cf (sdv (c::r) t) 0
   match r with
   | []=>simp [ev1,sdv,cf]
   | d::r'=>unfold sdv;rw [Cn,aG rfl];show c=(c+t*ev1 (d::r') t)-_;omega
  | succ i=>
   rw [Cn _ (sdv _ _) (i+1),aD O,Cn _ (sdv _ _),aD O,eZ,eZ];exact Ym4 (c::r) t i
theorem Ysf:∀(u:List Int) (t:Int),cf u 0=ev1 u t-t*cf (sdv u t) 0
 | [],t=>by simp [ev1,sdv,cf]
 | [c],t=>by simp [ev1,sdv,cf]
 | a::c::r,t=>by unfold sdv;rw [Cn,aG rfl,Cn,aG rfl];show a=(a+t*ev1 (c::r) t)-t*ev1 (c::r) t;omega
theorem Zuo:∀(n:Nat) (u:List Int) (R:List Int),u.length=n->(∃i,cf u i≠0)->R.Nodup->(∀t∈R,ev1 u t=0)->R.length<n
 | 0,u,R,d,b,_,_=>by obtain⟨i,hi⟩:=b;rw [aC d,Zcj]at hi;exact absurd rfl hi
 | n+1,u,[],d,b,_,_=>O7
 | n+1,u,t::R,d,b,hd,hR=>by
  have f:=hR t (bT ..);have l:=Zmu u t;have j:∃i,cf (sdv u t) i≠0:=bQ λc=>by
   have e:∀i,cf (sdv u t) i=0:=λi=>bQ λk=>c ⟨i,k⟩;obtain⟨i,hi⟩:=b;cases i with
   | zero=>rw [Ysf u t,f,e]at hi;simp at hi
   | succ i=>rw [Ym4 u t,e,e]at hi;simp at hi
  have:=Zuo n (sdv u t) R O j (List.nodup_cons.1 hd).2 λx c=>by
   have g:=hR x (bH _ c);rw [Yci u t x,f,kH]at g;rcases eR.1 g with h|h
   .exfalso;have:x=t:=O;subst this;exact(List.nodup_cons.1 hd).1 c
   .exact h
  simp;omega
def kk:Nat->Nat
 | 0=>0
 | d+1=>30*kk d+1
def pts:List Int:=[0,1,2,3,4,5,6,7,8,9,10,11,12,13,14]
end Go.Sky

