/- Rules, arithmetic and contracts: part 4. No conditions but those that each theorem names. -/
import Derived.Test.YteikicbnfbgpnaaGreatDe02
import Derived.Test.YteikicbnfbgpnaaGreatProg
import Derived.Test.YteikicbnfbgpnaaGreatRows
import Derived.WalkKit
import Derived.ProofKit
import Derived.OpenShut
import Derived.ShutString
import Derived.ChangeOld
import Derived.Deep.Slices
import Derived.Lib.SmallJoins
set_option linter.all false
namespace Go.Sky
open Go.Proofs
def pU:Enc Tryz.prog 232 1 Mb:=Enc.flat Tryz.sizeOf232 Tryz.isAgg232 (λ_=>rfl)
def pB:Enc Tryz.prog 5 1 Zh4:=Enc.flat Tryz.sizeOf5 Tryz.isAgg5 (λ_=>rfl)
def pN:Enc Tryz.prog 3 1 Ho:=Enc.flat Tryz.sizeOf3 Tryz.isAgg3 (λ_=>rfl)
def pZ:Enc Tryz.prog 3 1 Yo:=Enc.flat Tryz.sizeOf3 Tryz.isAgg3 (λ_=>rfl)
def Zhc(args:Array Value)(w:World):(callFunc 269 args).run Tryz.prog w=((add64Entry args).run Tryz.prog w).andThen λv w'=> .ok (.value v) w':=
 run_callFunc_extern Tryz.func269 O6 O6 O6 O6 args w
def Zzz(args:Array Value)(w:World):(callFunc 270 args).run Tryz.prog w=((Zd4 args).run Tryz.prog w).andThen λv w'=> .ok (.value v) w':=
 run_callFunc_extern Tryz.func270 O6 O6 O6 O6 args w
end Go.Sky
theorem Go.Proofs.Tryz.ti232:Go.Proofs.Tryz.prog.info? 232=some Go.Proofs.Tryz.t232:=Go.Sky.O6
namespace Go.Sky
open Go.Proofs
end Go.Sky
theorem Go.Proofs.Tryz.ti5:Go.Proofs.Tryz.prog.info? 5=some Go.Proofs.Tryz.t5:=Go.Sky.O6
namespace Go.Sky
open Go.Proofs
end Go.Sky
theorem Go.Proofs.Tryz.ti3:Go.Proofs.Tryz.prog.info? 3=some Go.Proofs.Tryz.t3:=Go.Sky.O6
namespace Go.Sky
open Go.Proofs
def pW:Enc Tryz.prog 80 2 Zu8:=Enc.agg O4 Tryz.sizeOf80 Tryz.isAgg80 (λx=>⟨[.bool x.1,.string x.2],rfl,rfl,O12⟩)
def pV:Enc Tryz.prog 80 2 wv:=Enc.agg O4 Tryz.sizeOf80 Tryz.isAgg80 (λx=>⟨[.bool (decide (x<0)),.string (Xu x.natAbs)],rfl,rfl,O12⟩)
def pI:Enc Tryz.prog 89 2 Zdg:=Enc.agg O4 Tryz.sizeOf89 Tryz.isAgg89 (λx=>⟨[.bool (decide (x.1<0)),Qi x.2],rfl,rfl,O12⟩)
def pS{α:Type} : Enc Tryz.prog 40 1 (Kw (α:=α)):=Enc.flat Tryz.sizeOf40 Tryz.isAgg40 (λ_=>rfl)
def pY:Enc Tryz.prog 276 8 iq:=Enc.agg O4 Tryz.sizeOf276 Tryz.isAgg276 (λx=>⟨[.bool (decide (x.1.1<0)),.string (Xu x.1.1.natAbs),.bool (decide (x.1.2<0)),.string (Xu x.1.2.natAbs),.bool (decide (x.2.1<0)),.string (Xu x.2.1.natAbs),.bool (decide (x.2.2<0)),.string (Xu x.2.2.natAbs)],rfl,rfl,O12⟩)
def pQ:Enc Tryz.prog 82 4 rq:=Enc.agg O4 Tryz.sizeOf82 Tryz.isAgg82 (λx=>⟨[.bool (decide (x.1<0)),.string (Xu x.1.natAbs),.bool (decide (x.2<0)),.string (Xu x.2.natAbs)],rfl,rfl,O12⟩)
def pR:Enc Tryz.prog 82 4 encQ:=Enc.agg O4 Tryz.sizeOf82 Tryz.isAgg82 (λx=>⟨[.bool x.1.1,.string x.1.2,.bool x.2.1,.string x.2.2],rfl,rfl,O12⟩)
def sh80:Tryz.prog.stoodInHeld 80=false:=O6
def eg80:Tryz.prog.eqGuardType Tryz.prog.depth 80=false:=O6
def in80(d:Nat)(w:World)(a:Bool)(s:ByteArray)(b:Bool)(t:ByteArray):(Op.equalIn (d+2) 80 (.agg #[.bool a,.string s]) (.agg #[.bool b,.string t])).run Tryz.prog w= .ok (eqW a s b t) w:=by
 have c:Tryz.prog.underlying 80=some (.struct (Tryz.prog.fieldsOf 80)):=by unfold Program.fieldsOf;rw [Tryz.underlying80]
 rw [run_equalIn_agg w (d+1) 80 _ _ c sh80];unfold Program.fieldsOf;rw [Tryz.underlying80];simp [Op.eqFields,part,Tryz.isAgg4,Tryz.isAgg9,run_equalIn_bool' _ _ _ _ _ Tryz.underlying4,run_equalIn_string _ _ _ _ _ Tryz.underlying9];unfold eqW;cases hab:(a == b)
 .simp_all
 .by_cases h:s.toList=t.toList<;>simp_all
def eql80(w:World)(a:Bool)(s:ByteArray)(b:Bool)(t:ByteArray):(binOp .eql 80 (.agg #[.bool a,.string s]) (.agg #[.bool b,.string t])).run Tryz.prog w= .ok (.bool (eqW a s b t)) w:=by rw [run_eql_struct,in80];rfl
def neq80(w:World)(a:Bool)(s:ByteArray)(b:Bool)(t:ByteArray):(binOp .neq 80 (.agg #[.bool a,.string s]) (.agg #[.bool b,.string t])).run Tryz.prog w= .ok (.bool (!eqW a s b t)) w:=by rw [run_neq_struct,in80];rfl
end Go.Sky
theorem Go.Proofs.Tryz.ti33:Go.Proofs.Tryz.prog.info? 33=some Go.Proofs.Tryz.t33:=Go.Sky.O6
namespace Go.Sky
open Go.Proofs
end Go.Sky
theorem Go.Proofs.Tryz.ti35:Go.Proofs.Tryz.prog.info? 35=some Go.Proofs.Tryz.t35:=Go.Sky.O6
namespace Go.Sky
open Go.Proofs
end Go.Sky
theorem Go.Proofs.Tryz.ti38:Go.Proofs.Tryz.prog.info? 38=some Go.Proofs.Tryz.t38:=Go.Sky.O6
namespace Go.Sky
open Go.Proofs
end Go.Sky
theorem Go.Proofs.Tryz.ti40:Go.Proofs.Tryz.prog.info? 40=some Go.Proofs.Tryz.t40:=Go.Sky.O6
namespace Go.Sky
open Go.Proofs
end Go.Sky
theorem Go.Proofs.Tryz.ti80:Go.Proofs.Tryz.prog.info? 80=some Go.Proofs.Tryz.t80:=Go.Sky.O6
namespace Go.Sky
open Go.Proofs
end Go.Sky
theorem Go.Proofs.Tryz.ti82:Go.Proofs.Tryz.prog.info? 82=some Go.Proofs.Tryz.t82:=Go.Sky.O6
namespace Go.Sky
open Go.Proofs
end Go.Sky
theorem Go.Proofs.Tryz.ti89:Go.Proofs.Tryz.prog.info? 89=some Go.Proofs.Tryz.t89:=Go.Sky.O6
namespace Go.Sky
open Go.Proofs
end Go.Sky
theorem Go.Proofs.Tryz.ti130:Go.Proofs.Tryz.prog.info? 130=some Go.Proofs.Tryz.t130:=Go.Sky.O6
namespace Go.Sky
open Go.Proofs
end Go.Sky
theorem Go.Proofs.Tryz.ti23:Go.Proofs.Tryz.prog.info? 23=some Go.Proofs.Tryz.t23:=Go.Sky.O6
namespace Go.Sky
open Go.Proofs
def Zzi{a b c:Value}(d:a.oneCell'=true)(e:b.oneCell'=true)(f:c.oneCell'=true):Tryz.prog.built 23 [(0,a),(1,b),(2,c)]=some #[a,b,c]:=by refine Qp _ Tryz.ti23 Tryz.underlying23 rfl (pl:=[(0,1),(1,1),(2,1)]) (by simp [Tryz.ti3];try decide) ?_;simp [Instr.fill,Zq d,Zq e,Zq f,show(Value.agg #[.int .i64 0,.int .i64 0,.int .i64 0]).cells=#[.int .i64 0,.int .i64 0,.int .i64 0]from rfl]
end Go.Sky
theorem Go.Proofs.Tryz.ti25:Go.Proofs.Tryz.prog.info? 25=some Go.Proofs.Tryz.t25:=Go.Sky.O6
namespace Go.Sky
open Go.Proofs
variable{v0 v1:Value}
theorem Za5{a:Value}(b:v0.oneCell'=true)(c:v1.oneCell'=true)(d:a.oneCell'=true):Tryz.prog.built 25 [(0,v0),(1,v1),(2,a)]=some #[v0,v1,a]:=by refine Qp _ Tryz.ti25 Tryz.underlying25 rfl (pl:=[(0,1),(1,1),(2,1)]) (by simp [Tryz.ti3];try decide) ?_;simp [Instr.fill,Zq b,Zq c,Zq d,show(Value.agg #[.int .i64 0,.int .i64 0,.int .i64 0]).cells=#[.int .i64 0,.int .i64 0,.int .i64 0]from rfl]
theorem b35_01(a:v0.oneCell'=true)(b:v1.oneCell'=true):Tryz.prog.built 35 [(0,v0),(1,v1)]=some #[v0,v1,.int .i64 0,.slice none 0 0,.slice none 0 0,.slice none 0 0]:=by refine Qp _ Tryz.ti35 Tryz.underlying35 rfl (pl:=[(0,1),(1,1),(2,1),(3,1),(4,1),(5,1)]) (by simp [Tryz.ti3,Tryz.ti33];try decide) ?_;simp [Instr.fill,Zq a,Zq b,show(Value.agg #[.int .i64 0,.int .i64 0,.int .i64 0,.slice none 0 0,.slice none 0 0,.slice none 0 0]).cells=#[.int .i64 0,.int .i64 0,.int .i64 0,.slice none 0 0,.slice none 0 0,.slice none 0 0]from rfl]
theorem Zvy{a b c d:Value}(e:v0.oneCell'=true)(f:v1.oneCell'=true)(g:a.oneCell'=true)(h:b.oneCell'=true)(i:c.oneCell'=true)(j:d.oneCell'=true):Tryz.prog.built 35 [(0,v0),(1,v1),(2,a),(3,b),(4,c),(5,d)]=some #[v0,v1,a,b,c,d]:=by refine Qp _ Tryz.ti35 Tryz.underlying35 rfl (pl:=[(0,1),(1,1),(2,1),(3,1),(4,1),(5,1)]) (by simp [Tryz.ti3,Tryz.ti33];try decide) ?_;simp [Instr.fill,Zq e,Zq f,Zq g,Zq h,Zq i,Zq j,show(Value.agg #[.int .i64 0,.int .i64 0,.int .i64 0,.slice none 0 0,.slice none 0 0,.slice none 0 0]).cells=#[.int .i64 0,.int .i64 0,.int .i64 0,.slice none 0 0,.slice none 0 0,.slice none 0 0]from rfl]
end Go.Sky
theorem Go.Proofs.Tryz.ti4:Go.Proofs.Tryz.prog.info? 4=some Go.Proofs.Tryz.t4:=Go.Sky.O6
namespace Go.Sky
open Go.Proofs
end Go.Sky
theorem Go.Proofs.Tryz.ti9:Go.Proofs.Tryz.prog.info? 9=some Go.Proofs.Tryz.t9:=Go.Sky.O6
namespace Go.Sky
open Go.Proofs
variable{v0 v1:Value}
theorem b80_:Tryz.prog.built 80 []=some #[.bool false,.string ⟨#[]⟩]:=by refine Qp _ Tryz.ti80 Tryz.underlying80 rfl (pl:=[(0,1),(1,1)]) (by simp [Tryz.ti4,Tryz.ti9];try decide) ?_;simp [Instr.fill,show(Value.agg #[.bool false,.string ⟨#[]⟩]).cells=#[.bool false,.string ⟨#[]⟩]from rfl]
theorem Zvx(a:v0.oneCell'=true)(b:v1.oneCell'=true):Tryz.prog.built 80 [(0,v0),(1,v1)]=some #[v0,v1]:=by refine Qp _ Tryz.ti80 Tryz.underlying80 rfl (pl:=[(0,1),(1,1)]) (by simp [Tryz.ti4,Tryz.ti9];try decide) ?_;simp [Instr.fill,Zq a,Zq b,show(Value.agg #[.bool false,.string ⟨#[]⟩]).cells=#[.bool false,.string ⟨#[]⟩]from rfl]
theorem Yh2:Tryz.prog.built 82 []=some #[.bool false,.string ⟨#[]⟩,.bool false,.string ⟨#[]⟩]:=by refine Qp _ Tryz.ti82 Tryz.underlying82 rfl (pl:=[(0,2),(2,2)]) (by simp [Tryz.ti80];try decide) ?_;simp [Instr.fill,show(Value.agg #[.bool false,.string ⟨#[]⟩,.bool false,.string ⟨#[]⟩]).cells=#[.bool false,.string ⟨#[]⟩,.bool false,.string ⟨#[]⟩]from rfl]
theorem Zlp{a b c d:Value} : Tryz.prog.built 82 [(0,.agg #[a,b]),(1,.agg #[c,d])]=some #[a,b,c,d]:=by refine Qp _ Tryz.ti82 Tryz.underlying82 rfl (pl:=[(0,2),(2,2)]) (by simp [Tryz.ti80];try decide) ?_;simp [Instr.fill,show(Value.agg #[a,b]).cells=#[a,b]from rfl,show(Value.agg #[c,d]).cells=#[c,d]from rfl,show(Value.agg #[.bool false,.string ⟨#[]⟩,.bool false,.string ⟨#[]⟩]).cells=#[.bool false,.string ⟨#[]⟩,.bool false,.string ⟨#[]⟩]from rfl]
theorem b89_:Tryz.prog.built 89 []=some #[.bool false,.slice none 0 0]:=by refine Qp _ Tryz.ti89 Tryz.underlying89 rfl (pl:=[(0,1),(1,1)]) (by simp [Tryz.ti33,Tryz.ti4];try decide) ?_;simp [Instr.fill,show(Value.agg #[.bool false,.slice none 0 0]).cells=#[.bool false,.slice none 0 0]from rfl]
theorem Yh1(a:v0.oneCell'=true)(b:v1.oneCell'=true):Tryz.prog.built 89 [(0,v0),(1,v1)]=some #[v0,v1]:=by refine Qp _ Tryz.ti89 Tryz.underlying89 rfl (pl:=[(0,1),(1,1)]) (by simp [Tryz.ti33,Tryz.ti4];try decide) ?_;simp [Instr.fill,Zq a,Zq b,show(Value.agg #[.bool false,.slice none 0 0]).cells=#[.bool false,.slice none 0 0]from rfl]
theorem Ztr{a:Value}(b:v0.oneCell'=true)(c:v1.oneCell'=true)(d:a.oneCell'=true):Tryz.prog.built 130 [(0,v0),(1,v1),(2,a)]=some #[v0,v1,a]:=by refine Qp _ Tryz.ti130 Tryz.underlying130 rfl (pl:=[(0,1),(1,1),(2,1)]) (by simp [Tryz.ti3,Tryz.ti40];try decide) ?_;simp [Instr.fill,Zq b,Zq c,Zq d,show(Value.agg #[.int .i64 0,.int .i64 0,.slice none 0 0]).cells=#[.int .i64 0,.int .i64 0,.slice none 0 0]from rfl]
end Go.Sky
theorem Go.Proofs.Tryz.ti162:Go.Proofs.Tryz.prog.info? 162=some Go.Proofs.Tryz.t162:=Go.Sky.O6
namespace Go.Sky
open Go.Proofs
def Zni{a b c d e f g h:Value} : Tryz.prog.built 162 [(0,.agg #[a,b]),(1,.agg #[c,d]),(2,.agg #[e,f]),(3,.agg #[g,h])]=some #[a,b,c,d,e,f,g,h]:=by refine Qp _ Tryz.ti162 Tryz.underlying162 rfl (pl:=[(0,2),(2,2),(4,2),(6,2)]) (by simp [Tryz.ti80];try decide) ?_;simp [Instr.fill,show(Value.agg #[a,b]).cells=#[a,b]from rfl,show(Value.agg #[c,d]).cells=#[c,d]from rfl,show(Value.agg #[e,f]).cells=#[e,f]from rfl,show(Value.agg #[g,h]).cells=#[g,h]from rfl,show(Value.agg #[.bool false,.string ⟨#[]⟩,.bool false,.string ⟨#[]⟩,.bool false,.string ⟨#[]⟩,.bool false,.string ⟨#[]⟩]).cells=#[.bool false,.string ⟨#[]⟩,.bool false,.string ⟨#[]⟩,.bool false,.string ⟨#[]⟩,.bool false,.string ⟨#[]⟩]from rfl]
end Go.Sky
theorem Go.Proofs.Tryz.ti189:Go.Proofs.Tryz.prog.info? 189=some Go.Proofs.Tryz.t189:=Go.Sky.O6
namespace Go.Sky
open Go.Proofs
def Zlq{a b c:Value}(d:a.oneCell'=true)(e:b.oneCell'=true)(f:c.oneCell'=true):Tryz.prog.built 189 [(0,a),(1,b),(2,c)]=some #[a,b,c]:=by refine Qp _ Tryz.ti189 Tryz.underlying189 rfl (pl:=[(0,1),(1,1),(2,1)]) (by simp [Tryz.ti3,Tryz.ti33];try decide) ?_;simp [Instr.fill,Zq d,Zq e,Zq f,show(Value.agg #[.slice none 0 0,.slice none 0 0,.int .i64 0]).cells=#[.slice none 0 0,.slice none 0 0,.int .i64 0]from rfl]
end Go.Sky
theorem Go.Proofs.Tryz.ti219:Go.Proofs.Tryz.prog.info? 219=some Go.Proofs.Tryz.t219:=Go.Sky.O6
namespace Go.Sky
open Go.Proofs
end Go.Sky
theorem Go.Proofs.Tryz.ti217:Go.Proofs.Tryz.prog.info? 217=some Go.Proofs.Tryz.t217:=Go.Sky.O6
namespace Go.Sky
open Go.Proofs
def Kb{a b:Value}(c:a.oneCell'=true)(d:b.oneCell'=true):Tryz.prog.built 219 [(0,a),(1,b)]=some #[a,b]:=by refine Qp _ Tryz.ti219 Tryz.underlying219 rfl (pl:=[(0,1),(1,1)]) (by simp [Tryz.ti217,Tryz.ti4];try decide) ?_;simp [Instr.fill,Zq c,Zq d,show(Value.agg #[.bool false,.slice none 0 0]).cells=#[.bool false,.slice none 0 0]from rfl]
end Go.Sky
theorem Go.Proofs.Tryz.ti276:Go.Proofs.Tryz.prog.info? 276=some Go.Proofs.Tryz.t276:=Go.Sky.O6
namespace Go.Sky
open Go.Proofs
variable{N:Nat}{sc:Nat->Prop}{o:Oper}{env:Qt}{r:Value}{t:TypeId}
theorem Yms{a b c d e f g h:Value} : Tryz.prog.built 276 [(0,.agg #[a,b,c,d]),(1,.agg #[e,f,g,h])]=some #[a,b,c,d,e,f,g,h]:=by refine Qp _ Tryz.ti276 Tryz.underlying276 rfl (pl:=[(0,4),(4,4)]) (by simp [Tryz.ti82];try decide) ?_;simp [Instr.fill,show(Value.agg #[a,b,c,d]).cells=#[a,b,c,d]from rfl,show(Value.agg #[e,f,g,h]).cells=#[e,f,g,h]from rfl,show(Value.agg #[.bool false,.string ⟨#[]⟩,.bool false,.string ⟨#[]⟩,.bool false,.string ⟨#[]⟩,.bool false,.string ⟨#[]⟩]).cells=#[.bool false,.string ⟨#[]⟩,.bool false,.string ⟨#[]⟩,.bool false,.string ⟨#[]⟩,.bool false,.string ⟨#[]⟩]from rfl]
def J{α:Sort _}{a:α} : a=a:=rfl
abbrev Xo (P:Program) (f:FuncId) (a:Array Value) (p:List Pc) (v:Value):Prop:=Cal P f a p false (G:=Unit) (λ_=>True) (λ_=>v) (λ_=>[])
abbrev rX (x y:Int):Value:= .agg #[.bool (decide (x<0)),.string (Xu x.natAbs),.bool (decide (y<0)),.string (Xu y.natAbs)]
def vB{a b:Bool}(h:a=b):Value.bool a=Value.bool b:=aK _ h
def dF{P:Program}{H:Hp}(h:Nv P N sc o env H r)(e:r= .bool false):Nv P N sc o env H (.bool false):=Xq h e
def dT{P:Program}{H:Hp}(h:Nv P N sc o env H r)(e:r= .bool true):Nv P N sc o env H (.bool true):=Xq h e
def K1{t0:Sort _}{a:t0} : a=a/\True:=⟨rfl,aA⟩
def K2{t0:Sort _}{a:t0}{t1:Sort _}{b:t1} : a=a/\b=b/\True:=⟨rfl,rfl,aA⟩
def K3{t0:Sort _}{a:t0}{t1:Sort _}{b:t1}{t2:Sort _}{c:t2} : a=a/\b=b/\c=c/\True:=⟨rfl,rfl,rfl,aA⟩
def K4{t0:Sort _}{a:t0}{t1:Sort _}{b:t1}{t2:Sort _}{c:t2}{t3:Sort _}{d:t3} : a=a/\b=b/\c=c/\d=d/\True:=⟨rfl,rfl,rfl,rfl,aA⟩
def K6{t0:Sort _}{a:t0}{t1:Sort _}{b:t1}{t2:Sort _}{c:t2}{t3:Sort _}{d:t3}{t4:Sort _}{e:t4}{t5:Sort _}{f:t5} : a=a/\b=b/\c=c/\d=d/\e=e/\f=f/\True:=⟨rfl,rfl,rfl,rfl,rfl,rfl,aA⟩
def K8{t0:Sort _}{a:t0}{t1:Sort _}{b:t1}{t2:Sort _}{c:t2}{t3:Sort _}{d:t3}{t4:Sort _}{e:t4}{t5:Sort _}{f:t5}{t6:Sort _}{g:t6}{t7:Sort _}{h:t7} : a=a/\b=b/\c=c/\d=d/\e=e/\f=f/\g=g/\h=h/\True:=⟨rfl,rfl,rfl,rfl,rfl,rfl,rfl,rfl,aA⟩
def K12{t0:Sort _}{c:t0}{t1:Sort _}{d:t1}{t2:Sort _}{e:t2}{t3:Sort _}{f:t3}{t4:Sort _}{g:t4}{t5:Sort _}{h:t5}{t6:Sort _}{i:t6}{t7:Sort _}{j:t7}{t8:Sort _}{k:t8}{t9:Sort _}{l:t9}{t10:Sort _}{a:t10}{t11:Sort _}{b:t11} : c=c/\d=d/\e=e/\f=f/\g=g/\h=h/\i=i/\j=j/\k=k/\l=l/\a=a/\b=b/\True:=⟨rfl,rfl,rfl,rfl,rfl,rfl,rfl,rfl,rfl,rfl,rfl,rfl,aA⟩
def Ztl:=@Go.Proofs.Tryz.call202
def iA3:=@Go.Proofs.Tryz.isAgg3
def Lx:=@Go.Proofs.Tryz.sizeOf232
def Km:=@Go.Proofs.Tryz.sizeOf3
def Zi0:=@Go.Proofs.Tryz.sizeOf33
def Ir:=@Go.Proofs.Tryz.sizeOf35
def Lf:=@Go.Proofs.Tryz.sizeOf80
def Zlv:=@Go.Proofs.Tryz.sizeOf89
def uT121:=@Go.Proofs.Tryz.underlying121
def uT130:=@Go.Proofs.Tryz.underlying130
def Zi8:=@Go.Proofs.Tryz.underlying166
def Zv9:=@Go.Proofs.Tryz.underlying193
def Zhf:=@Go.Proofs.Tryz.underlying197
def Pk:=@Go.Proofs.Tryz.underlying217
def Al:=@Go.Proofs.Tryz.underlying232
def Zi7:=@Go.Proofs.Tryz.underlying242
def Zmg:=@Go.Proofs.Tryz.underlying243
def Zmf:=@Go.Proofs.Tryz.underlying268
def uT3:=@Go.Proofs.Tryz.underlying3
def Pj:=@Go.Proofs.Tryz.underlying33
def Bd:=@Go.Proofs.Tryz.underlying35
def Ia:=@Go.Proofs.Tryz.underlying38
def Yiy:=@Go.Proofs.Tryz.underlying39
def Nw:=@Go.Proofs.Tryz.underlying40
def Zgi:=@Go.Proofs.Tryz.underlying46
def Yix:=@Go.Proofs.Tryz.underlying47
def uT5:=@Go.Proofs.Tryz.underlying5
def Yb1:=@Go.Proofs.Tryz.underlying50
def uT9:=@Go.Proofs.Tryz.underlying9
open Go.ChangeShapes Go.WideShapes Go.ChangeAt Go.RowKit Go.Joins Go.Deep
variable {P:Program} {W:World} {H:Type} {enc:TypeId×Value->H}
theorem Zhy{α:Type}[Inhabited α]{p:Nat->α->Prop} : ∀n,(∀i,i<n->∃x,p i x)->∃xs:List α,xs.length=n/\∀i x,xs[i]? = some x->p i x
 | 0,_=>⟨[],rfl,λi x h=>by simp at h⟩
 | n+1,h=>by
  obtain⟨xs,c,d⟩:=Zhy n λi hi=>h i O1;obtain⟨x,e⟩:=h n O1;refine⟨xs ++ [x],by simp [c],λi y a=>?_⟩;rcases bC i n with hi|hi
  .rw [dA O1]at a;exact d i y a
  .rw [dQ O1,c]at a;rcases aU (i-n)with b|b
   .rw [b]at a;simp at a;subst a;rw [show i=n by omega];exact e
   .rw [bD O9]at a;cases a
theorem Zkb{r:Reach}{i:Nat}{e:TypeId}{a:Addr}{g c:Nat}(hs:P.underlying t=some (.slice e))(b:Value.okWide P W r i t (.slice (some a) g c)):a.spot=none/\a.block<W.heap.size:=by
 unfold Value.okWide at b;rw [hs]at b;simp only at b;unfold Cell.okWide at b;rw [hs]at b;simp only at b;unfold Cell.ok at b;rw [hs]at b;simp only at b;obtain⟨_,_,_,j,k,d,f,_⟩:=b;refine⟨j,?_⟩;unfold World.shape? at f;rcases bC a.block W.heap.size with h|h
 .exact h
 .rw [mL h]at f;simp at f
end Go.Sky
namespace Go.Sky
abbrev qT (z:SL×List (Int×SL)):Pc:=pp (Qi z.1) z.2
abbrev T0:SL×List (Int×SL):=((none,0,0),[])
abbrev intsT (zs:List (SL×List (Int×SL))):List (List Int):=zs.map λz=>Pw z.2
set_option maxRecDepth 20000
def Zc7(zs:List (Int×SL))(z:Int×SL):Pw (zs ++ [z])=Pw zs ++ [z.1]:=by simp [Pw]
def Yi7{x:Int}{m:Nat}(h:bl x.natAbs<=m)(n:Nat):bl (x^n).natAbs<=n*m+1:=by
 rcases aU n with a|a
 .rw [a,cT];have:bl (1:Int).natAbs=1:=O4;omega
 .have:=Dd x h n a;omega
def Ml(p:List Int)(c:Int):(Zl p c).length<=p.length:=by unfold Zl;have:=Iu (p.map (· * c));rwa [aW]at this
def Lu{y:Int}(h:y≠0):∀n:Nat,y^n≠0
 | 0=>by rw [cT];omega
 | n+1=>by rw [dK];exact bH (Lu h n) h
def Zus(xs ys:List Int):xs.map wr=ys.map wr↔xs=ys:=by refine⟨λh=>?_,λh=>by rw [h]⟩;exact List.map_inj_right (λx y h=>Ybs (aK Prod.fst h) (aK Prod.snd h)) |>.1 h
def Cal.imp2{P:Program}{f:FuncId}{args:Array Value}{m p q:Pc}{pre:List Pc}{al:Bool}{G:Type}{φ:G->Prop}{Ye:G->Value}{i:G->List Pc}(h:Cal P f args (m::p::pre) al φ Ye i)(x:∀w,q.holds w->p.holds w)(u:∀b,p.fp b->q.fp b) :
  Cal P f args (m::q::pre) al φ Ye i:=λw k=>by
 refine(h w λr a=>?_).mono ?_
 .rcases bJ.1 a with rfl|a
  .exact k _ (bT ..)
  .rcases bJ.1 a with rfl|a
   .exact x w (k q (bF _ (bT ..)))
   .exact k r (bF _ (bF _ a))
 .rintro e z ⟨g,t,v,j,d⟩;refine⟨g,t,v,j,λy l=>?_⟩;obtain⟨n,o,s⟩:=d y l;refine⟨n,o,λb j=>?_⟩;rcases s b j with h|⟨h,r,a,c⟩
  .exact .inl h
  .refine .inr ⟨h,?_⟩;rcases bJ.1 a with rfl|a
   .exact⟨r,bT ..,c⟩
   .rcases bJ.1 a with rfl|a
    .exact⟨q,bF _ (bT ..),u b c⟩
    .exact⟨r,bF _ (bF _ a),c⟩
def shm(q:List Int)(c:Int)(s i:Nat):List Int:=mk (s+i) λt=>if t<s then 0 else c*cf q (t-s)
def Yhl(q:List Int)(c:Int)(s t:Nat):cf (shm q c s q.length) t=if s<=t/\t<s+q.length then c*cf q (t-s)else 0:=by
 unfold shm;rw [Ng];by_cases b:t<s
 .rw [aE (by omega:¬(s<=t/\t<s+q.length))];split
  .rfl
  .rfl
 .by_cases a:t<s+q.length
  .rw [aH a,aE b,aH (show s<=t/\t<s+q.length by omega)]
  .rw [aE a,aE (show ¬(s<=t/\t<s+q.length) by omega)]
section
variable {p q:List Int}
theorem Zjt(c:0<q.length)(b:q.length<=p.length):∀j,j<=p.length-q.length+1->∀t,p.length-j<=t->cf (Ql p q j) t=0
 | 0,_,t,d=>Yk (by unfold Ql;omega)
 | j+1,e,t,d=>by
  rcases bC t p.length with h|h
  .unfold Ql;rw [Ztj (by rw [Mu];exact h)];by_cases a:t=p.length-1-j
   .subst a;rw [aH O1,show p.length-1-j-(p.length-1-j-(q.length-1))=q.length-1 by omega];omega
   .rw [Zjt c b j O1 t O1,dB,aE O1];rfl
  .exact Yk (by rw [Mu];omega)
def RestInv(p q R:List Int)(j:Nat):Prop:=Tr R/\∀t,cf R t=cf (Ql p q j) t*cf q (q.length-1)^(p.length-q.length+1-j)
end
end Go.Sky
namespace Go.Sky
section
variable {P:Program} {N:Nat} {sc:Nat->Prop} {env env':Qt} {H H':Hp}
end
end Go.Sky
namespace Go.Sky
variable{P:Program}{sc M:Nat->Prop}{ops:Array Oper}{F i:Nat}{rest:List (Nat×Nat)}{b a s c:List Int}
def rterm(a b:Int):Nat->List Int
 | 0=>[1]
 | i+1=>Qg (rterm a b i) (tzl [a,b])
def rsum(p:List Int)(a b d:Int):Nat->List Int
 | 0=>[]
 | i+1=>Ah (rsum p a b d i) (Zl (rterm a b i) (cf p i*d^(p.length-1-i)))
def hs(f:Nat->PS):Nat->PS
 | 0=>0
 | n+1=>hs f n+f n
def Ydx(p:List Int):ps (tzl p)=ps p:=PS.ext' λi=>Ky p i
abbrev RW:=List (Bool×ByteArray)
abbrev qR (z:SL×RW):Pc:=Ym 2 Zu8 (Qi z.1) z.2
abbrev qZ (z:SL×List Int):Pc:=Ym 2 wv (Qi z.1) z.2
abbrev R0:SL×RW:=((none,0,0),[])
def short1(r:RW):Bool:=(decide (r.length<=14) || decide (r.length=26)) && r.all λc=>decide (c.2.size<=16)
def shortb(d:List RW):Bool:=d.all short1
def Zj0  {N:Nat}   {env:Qt} {H:Hp}  {F:Qt->Hp->Prop}   {o:Oper} {G:Type} {φ:G->Prop} {d:G->Qt} {k:G->Hp} {j e:Nat} {b:Bool} (p:ops[i]? = some o) (m:o.guard=some (j,b)) (n:(ops[j]?).bind (·.dst)=some e) (l:lk env e=some (.bool b)) (f:Nat.blt e N=true) (q:T P N sc M o env H φ d k)
  (h:∀g,φ g->LD P N sc M ops F rest (d g) (k g)) :
  LD P N sc M ops F ((i,1)::rest) env H:=r1g q p m n l f h
theorem Cq{f:Nat->Int}{k:Nat} : ∀{n:Nat},k<n->(∀i,i<n->i≠k->f i=0)->Yd f n=f k
 | 0,d,_=>absurd d (cI _)
 | n+1,d,h=>by
  rw [Yf];by_cases e:k=n
  .subst e;rw [Fe λi hi=>h i O1 O1,lH]
  .rw [h n O1 (λx=>e x.symm),Cq O1 (λi hi=>h i O1),fR]
theorem Cz{p q:List Int}{a b:Nat}(d:∀i,a<i->cf p i=0)(e:∀i,b<i->cf q i=0):(ps p*ps q).c (a+b)=cf p a*cf q b:=by
 rw [PS.mul_c,Cq (k:=a) O1 λi hi f=>?_]
 .rw [Nc,Nc,show a+b-a=b by omega]
 .rw [Nc,Nc];rcases bC a i with h|h
  .rw [d i h,dB]
  .rw [e (a+b-i) O1,dP]
theorem Zki(s e:List Int)(c d:Int)(f:PS)(t:Nat):(ps (Cb (Zl s c) (Zl e d))*f).c t=c*(ps s*f).c t-d*(ps e*f).c t:=by rw [PS.mul_c,PS.mul_c,PS.mul_c,<-Me,fL,<-nL,<-Me,<-Eg];refine Yp λk _=>?_;rw [Nc,Nc,Nc,Ci,Xg,Xg];grind
theorem Yko{q r:List Int}(o:Tr q)(e:q≠[])(h:∀t,(ps s*ps q).c t=cf r t)(u:∀t,q.length-1<=t->cf r t=0):∀t,cf s t=0:=by
 have d:=o.mem e;have l:0<q.length:=aC.2 e;have hs:tzl s=[]:=by
  rcases Zid (tzl s)with f|⟨w,y,f⟩
  .exact f
  .exfalso;have v:=Qh s;have j:tzl s≠[]:=by rw [f];simp
   have m:=v.mem j;have k:=Cz (p:=tzl s) (q:=q) (a:=(tzl s).length-1) (b:=q.length-1) (λi hi=>Yk O1) (λi hi=>Yk O1);have n:ps (tzl s)=ps s:=PS.ext' λi=>Ky s i;rw [n,h,u _ O1]at k;rcases eX.1 k.symm with g|g
   .exact m g
   .exact d g
 exact(Lh s).1 hs
theorem Lr(h:∀t,cf s t=0)(f:PS)(t:Nat):(ps s*f).c t=0:=by rw [PS.mul_c];exact Fe λk _=>by rw [Nc,h,dB]
theorem Oe{p q:List Int}(f:Tr p)(g:Tr q)(d:p≠[])(e:q≠[]):(Qg p q).length=p.length+q.length-1:=by have h:=aC.2 d;have j:=aC.2 e;unfold Qg;rw [Ac,Yj];right;rw [Yj,Ng,aH O1,show p.length+q.length-1-1=(p.length-1)+(q.length-1) by omega,Cz (λi hi=>Yk O1) (λi hi=>Yk O1)];exact bH (f.mem d) (g.mem e)
def mono(s:Nat)(c:Int):List Int:=List.replicate s 0 ++ [c]
theorem Zit(s:Nat)(c:Int)(i:Nat):cf (mono s c) i=if i=s then c else 0:=by
 unfold mono;rw [Zdd,aV];split
 .rw [aE O1];unfold cf;simp [aF,iN];split<;>rfl
 .rename_i h;split
  .rename_i d;subst d;simp [cf]
  .exact Yk O9
theorem Zkj(s:Nat)(c:Int)(f:PS)(t:Nat):(ps (mono s c)*f).c t=if s<=t then c*f.c (t-s)else 0:=by
 rw [PS.mul_c];split
 .rw [Cq (k:=s) O1 λi _ d=>by rw [Nc,Zit,aE d,dB],Nc,Zit,aH rfl]
 .exact Fe λk e=>by rw [Nc,Zit,aE O1,dB]
theorem Zgs{p q:List Int}(r:0<q.length)(o:q.length<=p.length):∀j,j<=p.length-q.length+1->∃s:List Int,∀t,cf q (q.length-1)^j*cf p t=(ps s*ps q).c t+cf (Ql p q j) t
 | 0,_=>⟨[],λt=>by rw [Lr (λt=>Yk (bG _)),cT];unfold Ql;omega⟩
 | j+1,y=>by
  obtain⟨s,u⟩:=Zgs r o j O1;refine⟨Cb (Zl s (cf q (q.length-1))) (Zl (mono (p.length-1-j-(q.length-1)) (cf (Ql p q j) (p.length-1-j))) (-1)),λt=>?_⟩;rw [Zki,Zkj];have d:=u t;show _=_+cf (Zhm q (Ql p q j) (p.length-1-j)) t;rw [dK];rcases bC t p.length with h|h
  .rw [Ztj (by rw [Mu];exact h)];generalize p.length-1-j-(q.length-1)=g;generalize cf (Ql p q j) (p.length-1-j)=R;generalize cf (Ql p q j) t=m at d ⊢;generalize (ps s*ps q).c t=X at d ⊢;generalize cf q (q.length-1)^j=L at d ⊢;generalize cf q (q.length-1)=l at d ⊢;have e:L*l*cf p t=l*X+m*l:=by rw [eU,cY l,<-eU,d];grind
   rw [e];by_cases f:g<=t
   .rw [aH f,Nc];by_cases n:t<g+q.length
    .rw [aH ⟨f,n⟩];omega
    .rw [aE O1,Yk (p:=q) (i:=t-_) O1];omega
   .rw [aE f,aE O1];omega
  .have k:cf p t=0:=Yk h;have v:cf (Ql p q j) t=0:=Yk (by rw [Mu];exact h);have w:cf (Zhm q (Ql p q j) (p.length-1-j)) t=0:=Yk (by rw [Zft,Mu];exact h);have x:cf q (t-(p.length-1-j-(q.length-1)))=0:=Yk O1;rw [k,v,dP,fR]at d;rw [k,w,aH O1,Nc,x,<-d];simp
theorem Av(p:List Int){q:List Int}(e:q≠[]):∃(k:Nat) (s:List Int),∀t,cf q (q.length-1)^k*cf p t=(ps s*ps q).c t+cf (Qb p q) t:=by
 have d:0<q.length:=aC.2 e;rcases bC p.length q.length with h|h
 .refine⟨0,[],λt=>?_⟩;rw [Lr (λt=>Yk (bG _)),cT];unfold Qb;rw [aH h];omega
 .obtain⟨s,hs⟩:=Zgs d h _ (aI _);refine⟨p.length-q.length+1,s,λt=>?_⟩;rw [hs t];unfold Qb;rw [aE O1,Ky]
theorem Po(p:List Int){q:List Int}(e:q≠[]):(Qb p q).length<q.length:=by
 have d:0<q.length:=aC.2 e;unfold Qb;split
 .assumption
 .have:=Zap (p:=Ql p q (p.length-q.length+1)) (n:=q.length-1) λi hi=>Zjt d O1 _ (aI _) i O1;omega
theorem Ib{p q:List Int}(d:Tr p):Tr (Qb p q):=by
 unfold Qb;split
 .exact d
 .exact Qh _
def Sim(a b:List Int):Prop:=∃m n:Int,m≠0/\n≠0/\∀i,m*cf a i=n*cf b i
def Sim.refl(a:List Int):Sim a a:=⟨1,1,O4,O4,λ_=>rfl⟩
def Sim.symm : Sim a b->Sim b a:=λ⟨m,n,d,e,h⟩=>⟨n,m,e,d,λi=>(h i).symm⟩
theorem Sim.trans : Sim a b->Sim b c->Sim a c:=λ⟨m,n,d,e,h⟩ ⟨u,v,f,g,k⟩=>
 ⟨m*u,n*v,bH d f,bH e g,λi=>by have j:=h i;have l:=k i;grind⟩
theorem Sim.zero(h:Sim a b)(hi:cf a i=0):cf b i=0:=by
 obtain⟨m,n,e,d,h⟩:=h;have:=h i;rw [hi,dP]at this;rcases eX.1 this.symm with h|h
 .exact absurd h d
 .exact h
theorem Sim.len_le(h:Sim a b)(f:Tr b):b.length<=a.length:=by
 rcases bC a.length b.length with e|e
 .exfalso;have d:b≠[]:=aC.1 O1;exact f.mem d (h.zero (Yk O1))
 .exact e
def Sim.len(h:Sim a b)(d:Tr a)(e:Tr b):a.length=b.length:=jT (h.symm.len_le d) (h.len_le e)
theorem Sim.nil(h:Sim a b)(e:Tr b)(d:a=[]):b=[]:=by have:=h.len_le e;rw [d]at this;exact aD (by simpa using this)
theorem Za9(c:Int):∀(p:List Int) (g:Int),0<=g->(p.map (· * c)).foldl (λg c=>(Int.gcd g c:Int)) (g*c.natAbs)=p.foldl (λg c=>(Int.gcd g c:Int)) g*c.natAbs
 | [],g,_=>rfl
 | x::p,g,hg=>by
  rw [cP,gY,gY,<-Za9 c p _ O1];congr 1;have:Int.gcd (g*(c.natAbs:Int)) (x*c)=Int.gcd g x*c.natAbs:=by unfold Int.gcd;rw [cF,cF,dC,Nat.gcd_mul_right]
  rw [this];push_cast;rfl
theorem Zgx(p:List Int)(c:Int):Ys (p.map (· * c))=Ys p*c.natAbs:=by have:=Za9 c p 0 (eO _);rw [dB]at this;exact this
theorem Hk(p:List Int)(i:Nat):cf (Zu p) i*Ys p=cf p i:=by rw [Zai];exact fU (Mv p i)
def Yaj:Zu []=[]:=rfl
def Cx{p:List Int}(h:Tr p)(d:p≠[]):Ys p≠0:=λe=>h.mem d ((Zbr p).1 e _)
theorem Ll{p:List Int}(h:Tr p)(e:p≠[]):Ys (Zu p)=1:=by
 have j:=Cx h e;have d:=Zgx (Zu p) (Ys p);rw [show(Zu p).map (· * Ys p)=p from Kg (by rw [aW,Zv]) λi _=>by rw [Zcd _ _ O7];exact Hk p i]at d;have k:=Oq p;have f:Ys p*(Ys (Zu p)-1)=0:=by rw [Int.mul_sub,iF,cY];have:((Ys p).natAbs:Int)=Ys p:=O1;rw [this]at d;omega
 rcases eX.1 f with g|g<;>omega
theorem Zfg{p:List Int}(h:Ys p=1):Zu p=p:=Kg (Zv p) λi _=>by rw [Zai,h,Int.ediv_one]
theorem Cv{p:List Int}(h:Tr p):Zu (Zu p)=Zu p:=by
 by_cases d:p=[]
 .subst d;rfl
 .exact Zfg (Ll h d)
theorem Qf{p:List Int}(h:Tr p):Sim (Zu p) p:=by
 by_cases d:p=[]
 .subst d;exact Sim.refl _
 .exact⟨Ys p,1,Cx h d,O4,λi=>by rw [fF,cY];exact Hk p i⟩
def Yw(p:List Int):List Int:=Hb (Zu p)
theorem Zjk{x y:List Int}(q:Tr x)(r:Tr y)(t:x≠[])(f:Ys x=1)(g:Ys y=1)(h:Sim x y):x=y\/∀i,cf x i=- cf y i:=by
 have d:=h.len q r;obtain⟨m,n,o,p,e⟩:=h;have j:=Zgx x m;have k:=Zgx y n;rw [show x.map (· * m)=y.map (· * n)from Kg (by simp [d]) λi _=>by rw [Zcd _ _ O7,Zcd _ _ O7,cY,cY (cf y i)];exact e i,k,f,g]at j
 have l:m=n\/m=-n:=O1;rcases l with rfl|rfl
 .exact .inl (Kg d λi _=>gX o (e i))
 .exact .inr λi=>gX p (by have:=e i;grind)
theorem Fu(g:List Int)(i:Nat):cf (Hb g) i=if g.length≠0/\cf g (g.length-1)<0 then-cf g i else cf g i:=by
 unfold Hb;split
 .rw [Xg];omega
 .rfl
theorem Ol{g:List Int}(h:Tr g):Tr (Hb g):=by
 unfold Hb;split
 .exact Xx _ _
 .exact h
theorem Ik(g:List Int):Sim (Hb g) g:=by
 by_cases h:g.length≠0/\cf g (g.length-1)<0
 .exact⟨-1,1,O4,O4,λi=>by rw [Fu,aH h];omega⟩
 .exact⟨1,1,O4,O4,λi=>by rw [Fu,aE h]⟩
theorem Zxe(g:Tr a)(j:Tr b)(h:Sim a b):Yw a=Yw b:=by
 by_cases f:a=[]
 .rw [h.nil j f,f]
 .have m:b≠[]:=λe=>f (h.symm.nil g e);have hs:Sim (Zu a) (Zu b):=(Qf g).trans (h.trans (Qf j).symm);have p:=Yr g;have k:=Yr j;have n:=hs.len p k;have d:Zu a≠[]:=λe=>f (aD (by rw [<-Zv,e];rfl));rcases Zjk p k d (Ll g f) (Ll j m) hs with e|e
  .unfold Yw;rw [e]
  .unfold Yw;refine(Ol p).ext (Ol k) λi=>?_;rw [Fu,Fu,<-n,e i,e ((Zu a).length-1)];have r:cf (Zu b) ((Zu a).length-1)≠0:=by rw [n];exact k.mem (λl=>d (aD (by rw [n,l];rfl)))
   have o:(Zu a).length≠0:=λl=>d (aD l);by_cases q:cf (Zu b) ((Zu a).length-1)<0
   .rw [aE O1,aH ⟨o,q⟩]
   .rw [aH O1,aE O1];omega
theorem Zss:∀(f:Nat) {a b:List Int},Tr a->Tr b->Tr (eu f a b)
 | 0,_,_,h,_=>h
 | f+1,a,b,d,e=>by
  unfold eu;split
  .exact d
  .exact Zss f e (Yr (Ib d))
theorem Zx5:∀(f:Nat) {a b:List Int},Tr a->Tr b->Zu a=a->Zu b=b->Zu (eu f a b)=eu f a b
 | 0,_,_,_,_,h,_=>h
 | f+1,a,b,d,j,e,g=>by
  unfold eu;split
  .exact e
  .exact Zx5 f j (Yr (Ib d)) g (Cv (Ib d))
theorem Zja{p q:List Int}(d:Tr p)(e:Tr q):Tr (gA p q):=by unfold gA;split<;>exact Yr ‹_›
theorem Zi9{p q:List Int}(d:Tr p)(e:Tr q):Tr (gB p q):=by unfold gB;split<;>exact Yr ‹_›
theorem Yea{p q:List Int}(d:Tr p)(e:Tr q):Ny F p q=Yw (eu F (gA p q) (gB p q)):=by
 unfold Ny Yw;rw [Zx5 F (Zja d e) (Zi9 d e)]
 .unfold gA;split
  .exact Cv e
  .exact Cv d
 .unfold gB;split
  .exact Cv d
  .exact Cv e
def chk:Nat->Nat->Nat->Nat->Nat->Bool
 | 0,_,d,_,_=>Nat.beq d 0
 | f+1,e,d,A,B=>Nat.beq d 0 || (bif Nat.blt e d then chk f d e B A else
   Nat.ble (A+(e-d+1)*B) 65537 && (List.range d).all λl=>chk f d l B (bif Nat.ble l 1 then 2 else A+(e-d+1)*B))
theorem cp_nf{p:List Int}{x y z:Int}{n m:Nat}(d:Sz n p)(k:bl x.natAbs<=m)(l:bl y.natAbs<=m)(o:bl z.natAbs<=m)(j:p.length<=25)(h:n+24*(m+1)+8<=65536):Qm p+(p.length-1)*(Qm [x,y,z]+1)+8<=65536:=by
 have e:=Pm d;have f:Qm [x,y,z]<=m:=by simp only [Qm];omega
 have g:(p.length-1)*(Qm [x,y,z]+1)<=24*(m+1):=aQ O1 O1;omega
theorem cp_not{p:List Int}{x y z:Int}(h:Qm p+(p.length-1)*(Qm [x,y,z]+1)+8<=65536):¬Zlc p x y z:=λd=>by have:=d.2;omega
theorem Zec(p:List Int)(x y z:Int):(Ke p x y z).length<=p.length:=by
 unfold Ke;split
 .exact bG _
 .refine aB (Iu _) ?_;rw [Zbz];omega
theorem Zsb(x y:Int):Lb x y∣x:=by
 unfold Lb;split
 .exact Int.neg_dvd.2 (jL ..)
 .exact jL ..
theorem Zkn(x y:Int):Lb x y∣y:=by
 unfold Lb;split
 .exact Int.neg_dvd.2 (iE ..)
 .exact iE ..
def s8(l:List Int):Prop:=∀x∈l,(Xu x.natAbs).size<=8
abbrev Z0:SL×List Int:=((none,0,0),[])
theorem vp_eu:∀(f:Nat) {a b:List Int},Vp a->Vp b->eok f a b->Vp (eu f a b)
 | 0,_,_,h,_,_=>h
 | f+1,a,b,d,e,h=>by
  unfold eu;split
  .exact d
  .rcases h with h|h
   .contradiction
   .exact vp_eu f e (Kz (Zbg d h.1)) h.2
theorem Ybx{g:List Int}(h:Vp g):Vp (Hb g):=by
 unfold Hb;split
 .refine⟨λi=>by rw [Xg];exact Za4 h.sz i,Xx _ _,aB (Ml _ _) h.len⟩
 .exact h
def Yit{p q:List Int}(d:Vp p)(e:Vp q)(h:eok F (gA p q) (gB p q)):Vp (Ny F p q):=Ybx (vp_eu F (vp_gA d e) (vp_gB d e) h)
def pevn(p:List Int)(x y:Int)(n:Nat):Int:=Yd (λi=>cf p i*(x^i*y^(n-1-i))) n
def dn(p:List Int)(y:Int):Int:=y^(p.length-1)
def Gp(q:List Int):Qg [] q=[]:=Zfh (.inl rfl)
def Zav(p:List Int):Qg p []=[]:=Zfh (.inr rfl)
theorem Ye8(N D:Int):N/Lb N D*D=N*(D/Lb N D):=by have e:=fU (Zsb N D);have f:=fU (Zkn N D);generalize N/Lb N D=n at *;generalize D/Lb N D=d at *;generalize Lb N D=g at *;subst e f;grind
theorem Yaw{N D:Int}(h:0<D):0<D/Lb N D:=by
 have f:Lb N D=(Int.gcd N D:Int):=aE O1;have g:=fU (Zkn N D);rw [f]at g ⊢;generalize D/(Int.gcd N D:Int)=d at *;rcases fY 0 d with e|e
 .exact e
 .exfalso;have:d*(Int.gcd N D:Int)<=0:=gT e O1;omega
section
variable {p q:List Int}
theorem Zei(v:Tr p)(m:Tr q)(h:p≠[])(e:q≠[]):∀j,j<=p.length->∀t,cf (Qo (Qg p q) q j) t=(ps (p.take (p.length-j))*ps q).c t
 | 0,_,t=>by rw [iR,bP];exact Iq p q t
 | j+1,B,t=>by
  have w:=Zei v m h e j O1;have D:=aC.2 h;have G:=aC.2 e;have u:=Oe v m h e;have y:Qo (Qg p q) q (j+1)=Zk8 q (Qo (Qg p q) q j) (p.length-1-j):=by show Zk8 q _ _=_;rw [u];congr 1;omega
  have n:=m.mem e;have d:cf (Qo (Qg p q) q j) (p.length-1-j+q.length-1)=cf p (p.length-1-j)*cf q (q.length-1):=by rw [w,show p.length-1-j+q.length-1=(p.length-1-j)+(q.length-1) by omega,Cz (λi hi=>by rw [Fr,aE O1]) (λi hi=>Yk O1),Fr,aH O1]
  have l:dq q (Qo (Qg p q) q j) (p.length-1-j)=cf p (p.length-1-j):=by unfold dq;rw [d];exact nQ _ n
  have z:(ps (p.take (p.length-j))*ps q).c t=(ps (p.take (p.length-(j+1)))*ps q).c t+(ps (mono (p.length-1-j) (cf p (p.length-1-j)))*ps q).c t:=by
   rw [PS.mul_c,PS.mul_c,PS.mul_c,<-Eg];refine Yp λk _=>?_;rw [Nc,Nc,Nc,Nc,Fr,Fr,Zit];by_cases f:k=p.length-1-j
   .rw [aH O1,aE O1,aH f,<-f];omega
   .rw [aE f];by_cases o:k<p.length-j
    .rw [aH o,aH O1];omega
    .rw [aE o,aE O1];omega
  rw [y];unfold Zk8;rw [Ng,Aj,u,l,w,z,Zkj,Nc];by_cases r:t<p.length+q.length-1
  .rw [aH r];by_cases g:p.length-1-j<=t
   .rw [aH g];by_cases x:t<p.length-1-j+q.length
    .rw [aH ⟨g,x⟩];omega
    .rw [aE O1,Yk (p:=q) O1];omega
   .rw [aE g,aE O1];omega
  .rw [aE r,PS.mul_c];refine(Fe λk _=>?_).symm;rw [Nc,Nc,Fr];split
   .rw [Yk (p:=q) O1,dP]
   .rw [dB]
theorem Zol(j:Tr p)(l:Tr q)(e:q≠[]):pdv (Qg p q) q/\Kd (Qg p q) q=p:=by
 by_cases d:p=[]
 .subst d;rw [Gp];exact⟨.inl rfl,rfl⟩
 have u:=aC.2 d;have v:=aC.2 e;have r:=Oe j l d e;have n:=l.mem e;have o:∀k,k<=p.length-1->cf (Qo (Qg p q) q (p.length-1-k)) (k+q.length-1)=cf p k*cf q (q.length-1):=λk f=>by rw [Zei j l d e _ O1,show k+q.length-1=k+(q.length-1) by omega,Cz (λi hi=>by rw [Fr,aE O1]) (λi hi=>Yk O1),Fr,aH O1]
 have h:(Qg p q).length-q.length=p.length-1:=O1;have m:Qg p q≠[]:=aC.1 O1;refine⟨.inr ⟨O1,λk f=>?_,?_⟩,?_⟩
 .unfold Im;rw [h]at f ⊢;rw [o k f];exact Int.mul_emod_left _ _
 .rw [h,show p.length-1+1=p.length by omega];refine(Lh _).2 λi=>?_;rw [Zei j l d e _ (aI _),lF,eH];exact Lr (λt=>Yk (bG _)) _ _
 .rw [Zrp m];unfold Yd0;rw [h,show p.length-1+1=p.length by omega,Ge (g:=cf p) λk f=>?_,Zc3,Ac j];unfold Zyj dq;rw [h,o k O1];exact nQ _ n
end
def Dv(g a:List Int):Prop:=∃(k:Int) (s:List Int),k≠0/\∀t,k*cf a t=(ps s*ps g).c t
theorem Zrz(f:PS)(t:Nat):(ps [1]*f).c t=f.c t:=by rw [PS.mul_c,Cq (k:=0) O1 λi _ d=>by rw [Nc,Yk (p:=[1]) O9,dB],Nc,show cf [1] 0=1 from rfl,fF,iR]
theorem Dv.refl(a:List Int):Dv a a:=⟨1,[1],O4,λt=>by rw [Zrz,fF,Nc]⟩
theorem Dv.nil(g:List Int):Dv g []:=⟨1,[],O4,λt=>by rw [Lr (λt=>Yk (bG _)),Yk (bG _)];rfl⟩
theorem Dv.sim{g:List Int} : Dv g a->Sim a b->Dv g b:=λ⟨k,s,d,h⟩ ⟨m,n,j,f,e⟩=>
 ⟨k*n,Zl s m,bH d f,λt=>by rw [PS.mul_c,show(λi=>(ps (Zl s m)).c i*(ps g).c (t-i))=λi=>m*((ps s).c i*(ps g).c (t-i))from oP λi=>by rw [Nc,Nc,Nc,Xg];grind,Me,<-PS.mul_c,<-h,Int.mul_assoc,<-e];grind⟩
theorem Dv.lin{g:List Int}(r:Dv g a)(w:Dv g b)(s:List Int)(L:Int)(o:L≠0)(h:∀t,L*cf c t=(ps s*ps a).c t+cf b t):Dv g c:=by
 obtain⟨k,u,x,j⟩:=r;obtain⟨m,v,y,l⟩:=w;refine⟨L*(k*m),Ah (Zl (Qg s u) m) (Zl v k),bH o (bH x y),λt=>?_⟩;have z:ps g=ps g:=rfl;have d:k*(ps s*ps a).c t=(ps (Qg s u)*ps g).c t:=by rw [Yka,PS.mul_assoc',PS.mul_c,PS.mul_c,<-Me];refine Yp λi _=>?_;rw [<-j,Nc,Nc];grind
 have e:(ps (Ah (Zl (Qg s u) m) (Zl v k))*ps g).c t=m*(ps (Qg s u)*ps g).c t+k*(ps v*ps g).c t:=by rw [PS.mul_c,PS.mul_c,PS.mul_c,<-Me,<-Me,<-Eg];refine Yp λi _=>?_;rw [Nc,Nc,Nc,Nc,Zp5,Xg,Xg];grind
 have f:=h t;have n:=l t;rw [e,<-d,<-n];generalize (ps s*ps a).c t=X at *;generalize cf c t=C at *;generalize cf b t=B at *;have:L*(k*m)*C=k*m*(L*C):=O5;rw [this,f];grind
theorem eu_dv:∀(f:Nat) {a b:List Int},Tr a->Tr b->eok f a b->Dv (eu f a b) a/\Dv (eu f a b) b
 | 0,a,b,l,g,h=>by rw [show b=[]from h];exact⟨Dv.refl _,Dv.nil _⟩
 | f+1,a,b,l,g,h=>by
  by_cases d:b=[]
  .subst d;rw [Zg6];exact⟨Dv.refl _,Dv.nil _⟩
  .rcases h with h|h
   .exact absurd h d
   .have e:eu (f+1) a b=eu f b (Zu (Qb a b)):=by
     conv=>lhs;unfold eu
     rw [aE d]
    rw [e];have t1:=Ib (q:=b) l;obtain⟨j,m⟩:=eu_dv f g (Yr t1) h.2;obtain⟨k,s,hs⟩:=Av a d;exact⟨j.lin (m.sim (Qf t1)) s _ (Lu (g.mem d) k) hs,j⟩
theorem Dv.of_sim{g d:List Int} : Dv g a->Sim g d->Dv d a:=λ⟨k,s,f,h⟩ ⟨m,n,j,l,e⟩=>
 ⟨m*k,Zl s n,bH j f,λt=>by rw [eU,h,PS.mul_c,PS.mul_c,<-Me];refine Yp λi _=>?_;rw [Nc,Nc,Nc,Nc,Xg];have:=e (t-i);grind⟩
theorem Dv.zero(f:Tr a)(h:Dv [] a):a=[]:=by
 obtain⟨k,s,g,h⟩:=h;rw [<-Ac f,Lh];intro i;have e:=h i;rw [PS.mul_comm',Lr (λt=>Yk (bG _))]at e;rcases eX.1 e with d|d
 .exact absurd d g
 .exact d
theorem Zcx{p q:List Int}(g:Tr p)(j:Tr q)(h:eok F (gA p q) (gB p q)):Dv (Ny F p q) p/\Dv (Ny F p q) q:=by
 have k:=Zja g j;have l:=Zi9 g j;obtain⟨d,e⟩:=eu_dv F k l h;have hs:Sim (eu F (gA p q) (gB p q)) (Ny F p q):=(Ik _).symm;have d:=d.of_sim hs;have e:=e.of_sim hs;by_cases f:p.length<q.length
 .rw [show gA p q=Zu q from aH f]at d;rw [show gB p q=Zu p from aH f]at e;exact⟨e.sim (Qf g),d.sim (Qf j)⟩
 .rw [show gA p q=Zu p from aE f]at d;rw [show gB p q=Zu q from aE f]at e;exact⟨d.sim (Qf g),e.sim (Qf j)⟩
def Zez{p q:List Int}(d:Tr p)(e:Tr q):Tr (Ny F p q):=Ol (Zss F (Zja d e) (Zi9 d e))
theorem Zd6(p:List Int){c:Int}(h:c≠0):Sim p (Zl p c):=⟨c,1,h,O4,λi=>by rw [Xg];grind⟩
def fin8(d A:Nat):Bool:=Nat.ble d 2 || Nat.ble (64+(9-d)*A) 65536
def chk2:Nat->Nat->Nat->Nat->Nat->Bool
 | 0,d,_,A,_=>fin8 d A
 | f+1,d,e,A,B=>bif Nat.beq e 0 then fin8 d A else bif Nat.blt d e then chk2 f e d B A else
   (List.range e).all λl=>chk2 f e l B (bif Nat.ble l 1 then 2 else A+(d-e+1)*B)
def Zay{g:List Int}(h:Tr g):(Hb g).length=g.length:=(Ik g).len (Ol h) h
theorem Zhr(g:List Int):Ys (Hb g)=Ys g:=by
 have d:Ys (Hb g)∣Ys g:=Gy λi=>by
  have h:=Mv (Hb g) i;rw [Fu]at h;split at h
  .exact lZ.1 h
  .exact h
 have e:Ys g∣Ys (Hb g):=Gy λi=>by
  rw [Fu];split
  .exact lZ.2 (Mv g i)
  .exact Mv g i
 exact Int.dvd_antisymm (Oq _) (Oq _) d e
theorem Zka{p q:List Int}(f:Tr p)(g:Tr q)(d:Ny F p q≠[]):Ys (Ny F p q)=1:=by rw [Yea f g]at d ⊢;unfold Yw at d ⊢;rw [Zhr];refine Ll (Zss F (Zja f g) (Zi9 f g)) λe=>d ?_;rw [e];rfl
end Go.Sky
namespace Go.Sky
variable{a p xs:List Int}{P:Nat->Prop}
def Ap(xs:List Int):Prop:=xs.length=0\/(xs.length+2)*(xs.length+2)*(Qm xs+16)<=65536
instance (xs:List Int):Decidable (Ap xs):=by unfold Ap;infer_instance
def sqf(F:Nat)(xs:List Int):List Int:=Kd (Yw xs) (Ny F (Yw xs) (Yu (Yw xs)))
def Yje(F:Nat)(xs:List Int):Prop:=(∀i,i<xs.length->bl (cf (Yw xs) (i+1)*((i:Int)+1)).natAbs<=65536)/\¬Zm8 (Yw xs) (Yu (Yw xs))/\eok F (gA (Yw xs) (Yu (Yw xs))) (gB (Yw xs) (Yu (Yw xs)))/\
 Cg (Yw xs) (Ny F (Yw xs) (Yu (Yw xs)))=0/\pdv (Yw xs) (Ny F (Yw xs) (Yu (Yw xs)))
def Nb(x y:List Int):List Int:=if cf y (y.length-1)<0/\(x.length-y.length+1)%2=1 then Zu (Qb x y)else Zl (Zu (Qb x y)) (-1)
def cok:Nat->List Int->List Int->Prop
 | 0,_,y=>y=[]
 | f+1,x,y=>y=[]\/(Cg x y=0/\y.length<=x.length/\cok f y (Nb x y))
def Mi:Nat->List Int->List Int->List (List Int)
 | 0,x,_=>[x]
 | f+1,x,y=>if y=[]then [x]else x::Mi f y (Nb x y)
theorem Ct(f:Nat)(x:List Int):Mi f x []=[x]:=by cases f<;>rfl
theorem Zle{f:Nat}{b:List Int}(h:cok f a b)(c:b≠[]):∃g,f=g+1/\Cg a b=0/\b.length<=a.length/\cok g b (Nb a b)/\Mi f a b=a::Mi g b (Nb a b):=by
 cases f with
 | zero=>exact absurd h c
 | succ g=>
  rcases h with h|h
  .exact absurd h c
  .exact⟨g,rfl,h.1,h.2.1,h.2.2,by show(if b=[]then [a]else _)=_;rw [aE c]⟩
def chn(F:Nat)(xs:List Int):List (List Int):=Mi F (sqf F xs) (Zu (Yu (sqf F xs)))
def Bg(F:Nat)(xs:List Int):Prop:=Yje F xs/\(∀i,i<xs.length->bl (cf (sqf F xs) (i+1)*((i:Int)+1)).natAbs<=65536)/\cok F (sqf F xs) (Zu (Yu (sqf F xs)))
theorem Ybw(h:Vp p):Vp (Yw p):=by
 unfold Yw;have b:=Kz h;refine⟨λi=>?_,Ol b.tr,by rw [Zay b.tr];exact b.len⟩;rw [Fu];split
 .rw [eC];exact b.sz i
 .exact b.sz i
theorem Qz(h:Tr p):(Yw p).length=p.length:=by unfold Yw;rw [Zay (Yr h),Zv]
theorem Zqs{x y:List Int}(c:Vp x)(b:Cg x y=0):Vp (Nb x y):=by
 have h:=Kz (Zbg c b);unfold Nb;split
 .exact h
 .exact⟨λi=>by rw [Xg];exact Za4 h.sz i,Xx _ _,aB (Ml _ _) h.len⟩
def Mc(s:Int×Int)(x:Int):Int×Int:=if x=0 then s else(if x=-s.2 then s.1+1 else s.1,x)
def chg(l:List Int):Int:=(l.foldl Mc (0,0)).1
def Zee{α β:Type}(f:α->β->α)(a:α)(l:List β)(x:β):(l ++ [x]).foldl f a=f (l.foldl f a) x:=O7
theorem chg1_n(s:Int×Int)(x:Int):(Mc s x).1=s.1\/(Mc s x).1=s.1+1:=by
 unfold Mc;split
 .exact .inl rfl
 .dsimp only;split
  .exact .inr rfl
  .exact .inl rfl
def sgs(b:List (List Int))(x y:Int):List Int:=b.map λp=>(pev p x y).sign
def sgr(b:List (List Int)):List Int:=b.map λp=>(cf p (p.length-1)).sign
def sgl(b:List (List Int)):List Int:=b.map λp=>if p.length%2=0 then-(cf p (p.length-1)).sign else(cf p (p.length-1)).sign
def smost(xs:List Int):Nat:=(xs.take (xs.length-1)).foldl (λm c=>max m c.natAbs) 0
def sbound(xs:List Int):Int:=((smost xs/(cf xs (xs.length-1)).natAbs:Nat):Int)+2
def Zvl(xs:List Int):Int:=if xs.length=0 then 3 else if Ap xs then 0 else 7
def ef(z:Int×Int):Bool:=decide (512<bl z.1.natAbs) || decide (512<bl z.2.natAbs)
def chk2r(xs:List Int)(x y b c:Int):Int:=if xs.length=0 then 3 else if 0<x*c-b*y then 3 else if Ap xs/\ef (x,y)=false/\ef (b,c)=false then 0 else 7
theorem Ymd(b:xs≠[])(h:Ap xs):Zvl xs=0:=by unfold Zvl;rw [aE (λe=>b (aD e)),aH h]
theorem Zoq(h:¬cf (Zu xs) ((Zu xs).length-1)<0):Yw xs=Zu xs:=by unfold Yw Hb;rw [aE O1]
theorem Zor(b:(Zu xs).length≠0)(h:cf (Zu xs) ((Zu xs).length-1)<0):Yw xs=Zl (Zu xs) (-1):=by unfold Yw Hb;rw [aH ⟨b,h⟩]
theorem Zef : ∀n,P n->∃m,P m/\∀k,k<m->¬P k:=by
 intro n
 induction n using Nat.strongRecOn with
 | _ n e=>
  intro h;by_cases d:∃k,k<n/\P k
  .obtain⟨k,c,b⟩:=d;exact e k c b
  .exact⟨n,h,λk c b=>d ⟨k,c,b⟩⟩
theorem Yay{n:Nat}(h:2<=n):∃p,2<=p/\p∣n/\∀d,2<=d->d∣n->p<=d:=by
 obtain⟨p,⟨e,f⟩,g⟩:=Zef (P:=λd=>2<=d/\d∣n) n ⟨h,Nat.dvd_refl n⟩;exact⟨p,e,f,λd i c=>by
  rcases bC d p with b|b
  .exact absurd ⟨i,c⟩ (g d b)
  .exact b⟩
theorem Zsj{n p:Nat}(m:2<=p)(g:p∣n)(i:∀d,2<=d->d∣n->p<=d)(r:0<n){x y:Int}(h:(p:Int)∣x*y):(p:Int)∣x\/(p:Int)∣y:=by
 by_cases f:(p:Int)∣x
 .exact .inl f
 .right;have k:Nat.gcd p x.natAbs=1:=by
   have e:=mJ p x.natAbs;have l:0<Nat.gcd p x.natAbs:=Nat.gcd_pos_of_pos_left _ O1;rcases bC (Nat.gcd p x.natAbs) 2 with b|b
   .omega
   .have o:=i _ b (Nat.dvd_trans e g);have q:=mC O1 e;exfalso;refine f (fV.1 ?_);rw [dC];have j:Nat.gcd p x.natAbs=p:=O1;rw [<-j];exact oH _ _
  have c:=fV.2 h;rw [dC,cF]at c;refine fV.1 ?_;rw [dC];exact(show Nat.Coprime p x.natAbs from k).dvd_of_dvd_mul_left c
theorem gauss{g:List Int}(hg:Ys g=1):∀(n:Nat) (k:Int) (s:List Int),k.natAbs=n->k≠0->(∀t,k*cf a t=(ps s*ps g).c t)->∃q:List Int,∀t,cf a t=(ps q*ps g).c t:=by
 intro n
 induction n using Nat.strongRecOn with
 | _ n ih=>
  intro k s l S h;rcases bC n 2 with N|N
  .have F:k*k=1:=by have:k=1\/k=-1:=O1;rcases this with e|e<;>subst e<;>rfl
   refine⟨Zl s k,λt=>?_⟩;have e:(ps (Zl s k)*ps g).c t=k*(ps s*ps g).c t:=by rw [PS.mul_c,PS.mul_c,<-Me];exact Yp λi _=>by rw [Nc,Nc,Nc,Xg];grind
   rw [e,<-h,<-eU,F,fF]
  .obtain⟨p,V,W,pm⟩:=Yay N;have H:∀{x y:Int},(p:Int)∣x*y->(p:Int)∣x\/(p:Int)∣y:=Zsj V W pm O1;have o:(p:Int)∣k:=fV.1 (by rw [dC,l];exact W);have v:∃j,¬(p:Int)∣cf g j:=bE λr=>by have:(p:Int)∣Ys g:=Gy λi=>bE λhy=>r ⟨i,hy⟩;rw [hg]at this;have:=mE O4 this;omega
   obtain⟨j0,B⟩:=v;obtain⟨j,hj,D⟩:=Zef (P:=λj=>¬(p:Int)∣cf g j) j0 B;have hs:∀i,(p:Int)∣cf s i:=λi0=>bE λw=>by
    obtain⟨i,hi,z⟩:=Zef (P:=λi=>¬(p:Int)∣cf s i) i0 w;have Q:=h (i+j);rw [PS.mul_c]at Q;have M:∀m,m<=i+j+1->(p:Int)∣Yd (λk=>if k=i then 0 else(ps s).c k*(ps g).c (i+j-k)) m:=λm=>by
     induction m with
     | zero=>intro _;exact jM _
     | succ m I=>
      intro hm;rw [Yf];refine Int.dvd_add (I O1) ?_;split
      .exact jM _
      .rename_i a0;rw [Nc,Nc];rcases bC m i with u|u
       .exact fO (bE λr=>z m u r) (jF _ _)
       .exact fO (bE λr=>D (i+j-m) O1 r) (Int.dvd_mul_left _ _)
    have Y:Yd (λk=>(ps s).c k*(ps g).c (i+j-k)) (i+j+1)=Yd (λk=>if k=i then 0 else(ps s).c k*(ps g).c (i+j-k)) (i+j+1)+cf s i*cf g j:=by
     have Z:Yd (λk=>(ps s).c k*(ps g).c (i+j-k)) (i+j+1)=Yd (λk=>(if k=i then 0 else(ps s).c k*(ps g).c (i+j-k))+(if k=i then(ps s).c k*(ps g).c (i+j-k)else 0)) (i+j+1):=
      Yp λk _=>by split<;>omega
     rw [Z,Eg,Cq (f:=λk=>if k=i then(ps s).c k*(ps g).c (i+j-k)else 0) (k:=i) O1 (λq _ hq=>aE hq),aH rfl,Nc,Nc,show i+j-i=j by omega]
    rw [Y]at Q;have u:(p:Int)∣cf s i*cf g j:=by have d:cf s i*cf g j=k*cf a (i+j)-Yd (λk=>if k=i then 0 else(ps s).c k*(ps g).c (i+j-k)) (i+j+1):=O1;rw [d];exact Int.dvd_sub (fO o (jF _ _)) (M _ (aI _))
    rcases H u with d|d
    .exact hi d
    .exact hj d
   obtain⟨c,b⟩:=o;have G:(p:Int)≠0:=O1;refine ih c.natAbs ?_ c (s.map (· / (p:Int))) rfl ?_ ?_
   .rw [<-l,b,cF,dC];have:0<c.natAbs:=by
     rcases aU c.natAbs with R|R
     .rw [show c=0 by omega]at b;simp at b;exact absurd b S
     .exact R
    have:=aN c.natAbs V;omega
   .intro e;rw [e]at b;simp at b;exact S b
   .intro t;refine gX G ?_;rw [<-eU,<-b,h,PS.mul_c,PS.mul_c,<-Me];refine Yp λi _=>?_;rw [Nc,Nc,Nc,Zcd _ _ O7,<-eU,kU (hs i)]
def ev1:List Int->Int->Int
 | [],_=>0
 | c::r,t=>c+t*ev1 r t
def sdv:List Int->Int->List Int
 | [],_=>[]
 | [_],_=>[]
 | _::c::r,t=>ev1 (c::r) t::sdv (c::r) t
theorem Zkq:∀(u:List Int) (t:Int),(sdv u t).length=u.length-1
 | [],_=>rfl
 | [_],_=>rfl
 | _::c::r,t=>by unfold sdv;rw [dG,Zkq (c::r) t];simp
theorem Zx3:∀(u:List Int) (t x:Int),ev1 u x=ev1 u t+(x-t)*ev1 (sdv u t) x
 | [],t,x=>by simp [ev1,sdv]
 | [c],t,x=>by simp [ev1,sdv]
 | a::c::r,t,x=>by have b:=Zx3 (c::r) t x;show a+x*ev1 (c::r) x=a+t*ev1 (c::r) t+(x-t)*(ev1 (c::r) t+x*ev1 (sdv (c::r) t) x);rw [b];generalize ev1 (c::r) t=A;generalize ev1 (sdv (c::r) t) x=B;grind
theorem Db(a:Int)(u:List Int)(i:Nat):cf (a::u) i=if i=0 then a else cf u (i-1):=by
 cases i with
 | zero=>rfl
 | succ i=>simp [cf]
def Za3(i:Nat):cf [] i=0:=Yk (bG _)
theorem Yhm:∀(u:List Int) (t:Int) (i:Nat),cf u (i+1)=cf (sdv u t) i-t*cf (sdv u t) (i+1)
 | [],t,i=>by unfold sdv;simp [Za3]
 | [c],t,i=>by unfold sdv;rw [Db,aE O1];simp [Za3]
 | a::c::r,t,i=>by
  unfold sdv;rw [Db,aE O1,fJ];cases i with
  | zero=>
   rw [Db,aH rfl,Db,aH rfl,Db,aE O1];show c=ev1 (c::r) t-t*cf (sdv (c::r) t) 0
   match r with
   | []=>simp [ev1,sdv,cf]
   | d::r'=>unfold sdv;rw [Db,aH rfl];show c=(c+t*ev1 (d::r') t)-_;omega
  | succ i=>
   rw [Db _ (sdv _ _) (i+1),aE O1,Db _ (sdv _ _),aE O1,fJ,fJ];exact Yhm (c::r) t i
theorem Ymg:∀(u:List Int) (t:Int),cf u 0=ev1 u t-t*cf (sdv u t) 0
 | [],t=>by simp [ev1,sdv,cf]
 | [c],t=>by simp [ev1,sdv,cf]
 | a::c::r,t=>by unfold sdv;rw [Db,aH rfl,Db,aH rfl];show a=(a+t*ev1 (c::r) t)-t*ev1 (c::r) t;omega
theorem Zrh:∀(n:Nat) (u:List Int) (R:List Int),u.length=n->(∃i,cf u i≠0)->R.Nodup->(∀t∈R,ev1 u t=0)->R.length<n
 | 0,u,R,d,b,_,_=>by obtain⟨i,hi⟩:=b;rw [aD d,Za3]at hi;exact absurd rfl hi
 | n+1,u,[],d,b,_,_=>O7
 | n+1,u,t::R,d,b,hd,hR=>by
  have f:=hR t (bT ..);have l:=Zkq u t;have j:∃i,cf (sdv u t) i≠0:=bE λc=>by
   have e:∀i,cf (sdv u t) i=0:=λi=>bE λk=>c ⟨i,k⟩;obtain⟨i,hi⟩:=b;cases i with
   | zero=>rw [Ymg u t,f,e]at hi;simp at hi
   | succ i=>rw [Yhm u t,e,e]at hi;simp at hi
  have:=Zrh n (sdv u t) R O1 j (List.nodup_cons.1 hd).2 λx c=>by
   have g:=hR x (bF _ c);rw [Zx3 u t x,f,lH]at g;rcases eX.1 g with h|h
   .exfalso;have:x=t:=O1;subst this;exact(List.nodup_cons.1 hd).1 c
   .exact h
  simp;omega
def kk:Nat->Nat
 | 0=>0
 | d+1=>30*kk d+1
def pts:List Int:=[0,1,2,3,4,5,6,7,8,9,10,11,12,13,14]
end Go.Sky

