/- Rules, arithmetic and contracts: part 4. No conditions but those that each theorem names. -/
import Derived.Test.YteikicbnfbgpnaaGreatDb02
import Derived.Test.YteikicbnfbgpnaaGreatProg
import Derived.Test.YteikicbnfbgpnaaGreatRows
import Derived.WalkKit
import Derived.ProofKit
import Derived.OpenShut
import Derived.ShutString
import Derived.ChangeOld
import Derived.Deep.Slices
import Derived.Lib.SmallJoins
set_option linter.all false
namespace Go.Sky
open Go.Proofs
theorem pU:Enc Tryz.prog 232 1 Nl:=Enc.flat Tryz.sizeOf232 Tryz.isAgg232 (fun _=>rfl)
theorem pB:Enc Tryz.prog 5 1 Zgh:=Enc.flat Tryz.sizeOf5 Tryz.isAgg5 (fun _=>rfl)
theorem pN:Enc Tryz.prog 3 1 Ks:=Enc.flat Tryz.sizeOf3 Tryz.isAgg3 (fun _=>rfl)
theorem pZ:Enc Tryz.prog 3 1 Zx:=Enc.flat Tryz.sizeOf3 Tryz.isAgg3 (fun _=>rfl)
theorem Zfr(args:Array Value)(w:World):(callFunc 269 args).run Tryz.prog w=((add64Entry args).run Tryz.prog w).andThen fun v w'=> .ok (.value v) w':=
 run_callFunc_extern Tryz.func269 O6 O6 O6 O6 args w
theorem Zxa(args:Array Value)(w:World):(callFunc 270 args).run Tryz.prog w=((Zcq args).run Tryz.prog w).andThen fun v w'=> .ok (.value v) w':=
 run_callFunc_extern Tryz.func270 O6 O6 O6 O6 args w
end Go.Sky
theorem Go.Proofs.Tryz.ti232:Go.Proofs.Tryz.prog.info? 232=some Go.Proofs.Tryz.t232:=Go.Sky.O6
namespace Go.Sky
open Go.Proofs
end Go.Sky
theorem Go.Proofs.Tryz.ti5:Go.Proofs.Tryz.prog.info? 5=some Go.Proofs.Tryz.t5:=Go.Sky.O6
namespace Go.Sky
open Go.Proofs
end Go.Sky
theorem Go.Proofs.Tryz.ti3:Go.Proofs.Tryz.prog.info? 3=some Go.Proofs.Tryz.t3:=Go.Sky.O6
namespace Go.Sky
open Go.Proofs
theorem pW:Enc Tryz.prog 80 2 Zs1:=Enc.agg O3 Tryz.sizeOf80 Tryz.isAgg80 (fun x=>⟨[.bool x.1,.string x.2],rfl,rfl,O10⟩)
theorem pV:Enc Tryz.prog 80 2 wv:=Enc.agg O3 Tryz.sizeOf80 Tryz.isAgg80 (fun x=>⟨[.bool (decide (x<0)),.string (Xz x.natAbs)],rfl,rfl,O10⟩)
theorem pI:Enc Tryz.prog 89 2 Fl:=Enc.agg O3 Tryz.sizeOf89 Tryz.isAgg89 (fun x=>⟨[.bool (decide (x.1<0)),Xb x.2],rfl,rfl,O10⟩)
theorem pS{α:Type} : Enc Tryz.prog 40 1 (Li (α:=α)):=Enc.flat Tryz.sizeOf40 Tryz.isAgg40 (fun _=>rfl)
theorem pY:Enc Tryz.prog 276 8 iq:=Enc.agg O3 Tryz.sizeOf276 Tryz.isAgg276 (fun x=>⟨[.bool (decide (x.1.1<0)),.string (Xz x.1.1.natAbs),.bool (decide (x.1.2<0)),.string (Xz x.1.2.natAbs),.bool (decide (x.2.1<0)),.string (Xz x.2.1.natAbs),.bool (decide (x.2.2<0)),.string (Xz x.2.2.natAbs)],rfl,rfl,O10⟩)
theorem pQ:Enc Tryz.prog 82 4 rq:=Enc.agg O3 Tryz.sizeOf82 Tryz.isAgg82 (fun x=>⟨[.bool (decide (x.1<0)),.string (Xz x.1.natAbs),.bool (decide (x.2<0)),.string (Xz x.2.natAbs)],rfl,rfl,O10⟩)
theorem pR:Enc Tryz.prog 82 4 encQ:=Enc.agg O3 Tryz.sizeOf82 Tryz.isAgg82 (fun x=>⟨[.bool x.1.1,.string x.1.2,.bool x.2.1,.string x.2.2],rfl,rfl,O10⟩)
theorem sh80:Tryz.prog.stoodInHeld 80=false:=O6
theorem eg80:Tryz.prog.eqGuardType Tryz.prog.depth 80=false:=O6
theorem in80(d:Nat)(w:World)(a:Bool)(s:ByteArray)(b:Bool)(t:ByteArray):(Op.equalIn (d+2) 80 (.agg #[.bool a,.string s]) (.agg #[.bool b,.string t])).run Tryz.prog w= .ok (eqW a s b t) w:=by
 have hu:Tryz.prog.underlying 80=some (.struct (Tryz.prog.fieldsOf 80)):=by unfold Program.fieldsOf;rw [Tryz.underlying80]
 rw [run_equalIn_agg w (d+1) 80 _ _ hu sh80]
 unfold Program.fieldsOf
 rw [Tryz.underlying80]
 simp [Op.eqFields,part,Tryz.isAgg4,Tryz.isAgg9,run_equalIn_bool' _ _ _ _ _ Tryz.underlying4,run_equalIn_string _ _ _ _ _ Tryz.underlying9]
 unfold eqW
 cases hab:(a == b)
 ·simp_all
 ·by_cases h:s.toList=t.toList<;>simp_all
theorem eql80(w:World)(a:Bool)(s:ByteArray)(b:Bool)(t:ByteArray):(binOp .eql 80 (.agg #[.bool a,.string s]) (.agg #[.bool b,.string t])).run Tryz.prog w= .ok (.bool (eqW a s b t)) w:=by
 rw [run_eql_struct,in80];rfl
theorem neq80(w:World)(a:Bool)(s:ByteArray)(b:Bool)(t:ByteArray):(binOp .neq 80 (.agg #[.bool a,.string s]) (.agg #[.bool b,.string t])).run Tryz.prog w= .ok (.bool (!eqW a s b t)) w:=by
 rw [run_neq_struct,in80];rfl
end Go.Sky
theorem Go.Proofs.Tryz.ti33:Go.Proofs.Tryz.prog.info? 33=some Go.Proofs.Tryz.t33:=Go.Sky.O6
namespace Go.Sky
open Go.Proofs
end Go.Sky
theorem Go.Proofs.Tryz.ti35:Go.Proofs.Tryz.prog.info? 35=some Go.Proofs.Tryz.t35:=Go.Sky.O6
namespace Go.Sky
open Go.Proofs
end Go.Sky
theorem Go.Proofs.Tryz.ti38:Go.Proofs.Tryz.prog.info? 38=some Go.Proofs.Tryz.t38:=Go.Sky.O6
namespace Go.Sky
open Go.Proofs
end Go.Sky
theorem Go.Proofs.Tryz.ti40:Go.Proofs.Tryz.prog.info? 40=some Go.Proofs.Tryz.t40:=Go.Sky.O6
namespace Go.Sky
open Go.Proofs
end Go.Sky
theorem Go.Proofs.Tryz.ti47:Go.Proofs.Tryz.prog.info? 47=some Go.Proofs.Tryz.t47:=Go.Sky.O6
namespace Go.Sky
open Go.Proofs
end Go.Sky
theorem Go.Proofs.Tryz.ti80:Go.Proofs.Tryz.prog.info? 80=some Go.Proofs.Tryz.t80:=Go.Sky.O6
namespace Go.Sky
open Go.Proofs
end Go.Sky
theorem Go.Proofs.Tryz.ti82:Go.Proofs.Tryz.prog.info? 82=some Go.Proofs.Tryz.t82:=Go.Sky.O6
namespace Go.Sky
open Go.Proofs
end Go.Sky
theorem Go.Proofs.Tryz.ti89:Go.Proofs.Tryz.prog.info? 89=some Go.Proofs.Tryz.t89:=Go.Sky.O6
namespace Go.Sky
open Go.Proofs
end Go.Sky
theorem Go.Proofs.Tryz.ti130:Go.Proofs.Tryz.prog.info? 130=some Go.Proofs.Tryz.t130:=Go.Sky.O6
namespace Go.Sky
open Go.Proofs
end Go.Sky
theorem Go.Proofs.Tryz.ti23:Go.Proofs.Tryz.prog.info? 23=some Go.Proofs.Tryz.t23:=Go.Sky.O6
namespace Go.Sky
open Go.Proofs
theorem Yi6{v0 v1 v2:Value}(h0:v0.oneCell'=true)(h1:v1.oneCell'=true)(h2:v2.oneCell'=true):Tryz.prog.built 23 [(0,v0),(1,v1),(2,v2)]=some #[v0,v1,v2]:=by
 refine Qn _ Tryz.ti23 Tryz.underlying23 rfl (pl:=[(0,1),(1,1),(2,1)]) (by simp [Tryz.ti3];try decide) ?_
 simp [Instr.fill,Zu h0,Zu h1,Zu h2,show(Value.agg #[.int .i64 0,.int .i64 0,.int .i64 0]).cells=#[.int .i64 0,.int .i64 0,.int .i64 0]from rfl]
end Go.Sky
theorem Go.Proofs.Tryz.ti25:Go.Proofs.Tryz.prog.info? 25=some Go.Proofs.Tryz.t25:=Go.Sky.O6
namespace Go.Sky
open Go.Proofs
theorem Zwt{v0 v1 v2:Value}(h0:v0.oneCell'=true)(h1:v1.oneCell'=true)(h2:v2.oneCell'=true):Tryz.prog.built 25 [(0,v0),(1,v1),(2,v2)]=some #[v0,v1,v2]:=by
 refine Qn _ Tryz.ti25 Tryz.underlying25 rfl (pl:=[(0,1),(1,1),(2,1)]) (by simp [Tryz.ti3];try decide) ?_
 simp [Instr.fill,Zu h0,Zu h1,Zu h2,show(Value.agg #[.int .i64 0,.int .i64 0,.int .i64 0]).cells=#[.int .i64 0,.int .i64 0,.int .i64 0]from rfl]
theorem b35_01{v0 v1:Value}(h0:v0.oneCell'=true)(h1:v1.oneCell'=true):Tryz.prog.built 35 [(0,v0),(1,v1)]=some #[v0,v1,.int .i64 0,.slice none 0 0,.slice none 0 0,.slice none 0 0]:=by
 refine Qn _ Tryz.ti35 Tryz.underlying35 rfl (pl:=[(0,1),(1,1),(2,1),(3,1),(4,1),(5,1)]) (by simp [Tryz.ti3,Tryz.ti33];try decide) ?_
 simp [Instr.fill,Zu h0,Zu h1,show(Value.agg #[.int .i64 0,.int .i64 0,.int .i64 0,.slice none 0 0,.slice none 0 0,.slice none 0 0]).cells=#[.int .i64 0,.int .i64 0,.int .i64 0,.slice none 0 0,.slice none 0 0,.slice none 0 0]from rfl]
theorem Zts{v0 v1 v2 v3 v4 v5:Value}(h0:v0.oneCell'=true)(h1:v1.oneCell'=true)(h2:v2.oneCell'=true)(h3:v3.oneCell'=true)(h4:v4.oneCell'=true)(h5:v5.oneCell'=true):Tryz.prog.built 35 [(0,v0),(1,v1),(2,v2),(3,v3),(4,v4),(5,v5)]=some #[v0,v1,v2,v3,v4,v5]:=by
 refine Qn _ Tryz.ti35 Tryz.underlying35 rfl (pl:=[(0,1),(1,1),(2,1),(3,1),(4,1),(5,1)]) (by simp [Tryz.ti3,Tryz.ti33];try decide) ?_
 simp [Instr.fill,Zu h0,Zu h1,Zu h2,Zu h3,Zu h4,Zu h5,show(Value.agg #[.int .i64 0,.int .i64 0,.int .i64 0,.slice none 0 0,.slice none 0 0,.slice none 0 0]).cells=#[.int .i64 0,.int .i64 0,.int .i64 0,.slice none 0 0,.slice none 0 0,.slice none 0 0]from rfl]
end Go.Sky
theorem Go.Proofs.Tryz.ti4:Go.Proofs.Tryz.prog.info? 4=some Go.Proofs.Tryz.t4:=Go.Sky.O6
namespace Go.Sky
open Go.Proofs
end Go.Sky
theorem Go.Proofs.Tryz.ti9:Go.Proofs.Tryz.prog.info? 9=some Go.Proofs.Tryz.t9:=Go.Sky.O6
namespace Go.Sky
open Go.Proofs
theorem b80_:Tryz.prog.built 80 []=some #[.bool false,.string ⟨#[]⟩]:=by
 refine Qn _ Tryz.ti80 Tryz.underlying80 rfl (pl:=[(0,1),(1,1)]) (by simp [Tryz.ti4,Tryz.ti9];try decide) ?_
 simp [Instr.fill,show(Value.agg #[.bool false,.string ⟨#[]⟩]).cells=#[.bool false,.string ⟨#[]⟩]from rfl]
theorem Ztr{v0 v1:Value}(h0:v0.oneCell'=true)(h1:v1.oneCell'=true):Tryz.prog.built 80 [(0,v0),(1,v1)]=some #[v0,v1]:=by
 refine Qn _ Tryz.ti80 Tryz.underlying80 rfl (pl:=[(0,1),(1,1)]) (by simp [Tryz.ti4,Tryz.ti9];try decide) ?_
 simp [Instr.fill,Zu h0,Zu h1,show(Value.agg #[.bool false,.string ⟨#[]⟩]).cells=#[.bool false,.string ⟨#[]⟩]from rfl]
theorem Yet:Tryz.prog.built 82 []=some #[.bool false,.string ⟨#[]⟩,.bool false,.string ⟨#[]⟩]:=by
 refine Qn _ Tryz.ti82 Tryz.underlying82 rfl (pl:=[(0,2),(2,2)]) (by simp [Tryz.ti80];try decide) ?_
 simp [Instr.fill,show(Value.agg #[.bool false,.string ⟨#[]⟩,.bool false,.string ⟨#[]⟩]).cells=#[.bool false,.string ⟨#[]⟩,.bool false,.string ⟨#[]⟩]from rfl]
theorem Zjq{c0_0 c0_1 c1_0 c1_1:Value} : Tryz.prog.built 82 [(0,.agg #[c0_0,c0_1]),(1,.agg #[c1_0,c1_1])]=some #[c0_0,c0_1,c1_0,c1_1]:=by
 refine Qn _ Tryz.ti82 Tryz.underlying82 rfl (pl:=[(0,2),(2,2)]) (by simp [Tryz.ti80];try decide) ?_
 simp [Instr.fill,show(Value.agg #[c0_0,c0_1]).cells=#[c0_0,c0_1]from rfl,show(Value.agg #[c1_0,c1_1]).cells=#[c1_0,c1_1]from rfl,show(Value.agg #[.bool false,.string ⟨#[]⟩,.bool false,.string ⟨#[]⟩]).cells=#[.bool false,.string ⟨#[]⟩,.bool false,.string ⟨#[]⟩]from rfl]
theorem Yes:Tryz.prog.built 89 []=some #[.bool false,.slice none 0 0]:=by
 refine Qn _ Tryz.ti89 Tryz.underlying89 rfl (pl:=[(0,1),(1,1)]) (by simp [Tryz.ti33,Tryz.ti4];try decide) ?_
 simp [Instr.fill,show(Value.agg #[.bool false,.slice none 0 0]).cells=#[.bool false,.slice none 0 0]from rfl]
theorem Yer{v0 v1:Value}(h0:v0.oneCell'=true)(h1:v1.oneCell'=true):Tryz.prog.built 89 [(0,v0),(1,v1)]=some #[v0,v1]:=by
 refine Qn _ Tryz.ti89 Tryz.underlying89 rfl (pl:=[(0,1),(1,1)]) (by simp [Tryz.ti33,Tryz.ti4];try decide) ?_
 simp [Instr.fill,Zu h0,Zu h1,show(Value.agg #[.bool false,.slice none 0 0]).cells=#[.bool false,.slice none 0 0]from rfl]
theorem Yex{v0 v1 v2:Value}(h0:v0.oneCell'=true)(h1:v1.oneCell'=true)(h2:v2.oneCell'=true):Tryz.prog.built 130 [(0,v0),(1,v1),(2,v2)]=some #[v0,v1,v2]:=by
 refine Qn _ Tryz.ti130 Tryz.underlying130 rfl (pl:=[(0,1),(1,1),(2,1)]) (by simp [Tryz.ti3,Tryz.ti40];try decide) ?_
 simp [Instr.fill,Zu h0,Zu h1,Zu h2,show(Value.agg #[.int .i64 0,.int .i64 0,.slice none 0 0]).cells=#[.int .i64 0,.int .i64 0,.slice none 0 0]from rfl]
end Go.Sky
theorem Go.Proofs.Tryz.ti162:Go.Proofs.Tryz.prog.info? 162=some Go.Proofs.Tryz.t162:=Go.Sky.O6
namespace Go.Sky
open Go.Proofs
theorem Zyx{c0_0 c0_1 c1_0 c1_1 c2_0 c2_1 c3_0 c3_1:Value} : Tryz.prog.built 162 [(0,.agg #[c0_0,c0_1]),(1,.agg #[c1_0,c1_1]),(2,.agg #[c2_0,c2_1]),(3,.agg #[c3_0,c3_1])]=some #[c0_0,c0_1,c1_0,c1_1,c2_0,c2_1,c3_0,c3_1]:=by
 refine Qn _ Tryz.ti162 Tryz.underlying162 rfl (pl:=[(0,2),(2,2),(4,2),(6,2)]) (by simp [Tryz.ti80];try decide) ?_
 simp [Instr.fill,show(Value.agg #[c0_0,c0_1]).cells=#[c0_0,c0_1]from rfl,show(Value.agg #[c1_0,c1_1]).cells=#[c1_0,c1_1]from rfl,show(Value.agg #[c2_0,c2_1]).cells=#[c2_0,c2_1]from rfl,show(Value.agg #[c3_0,c3_1]).cells=#[c3_0,c3_1]from rfl,show(Value.agg #[.bool false,.string ⟨#[]⟩,.bool false,.string ⟨#[]⟩,.bool false,.string ⟨#[]⟩,.bool false,.string ⟨#[]⟩]).cells=#[.bool false,.string ⟨#[]⟩,.bool false,.string ⟨#[]⟩,.bool false,.string ⟨#[]⟩,.bool false,.string ⟨#[]⟩]from rfl]
end Go.Sky
theorem Go.Proofs.Tryz.ti189:Go.Proofs.Tryz.prog.info? 189=some Go.Proofs.Tryz.t189:=Go.Sky.O6
namespace Go.Sky
open Go.Proofs
theorem Zjr{v0 v1 v2:Value}(h0:v0.oneCell'=true)(h1:v1.oneCell'=true)(h2:v2.oneCell'=true):Tryz.prog.built 189 [(0,v0),(1,v1),(2,v2)]=some #[v0,v1,v2]:=by
 refine Qn _ Tryz.ti189 Tryz.underlying189 rfl (pl:=[(0,1),(1,1),(2,1)]) (by simp [Tryz.ti3,Tryz.ti33];try decide) ?_
 simp [Instr.fill,Zu h0,Zu h1,Zu h2,show(Value.agg #[.slice none 0 0,.slice none 0 0,.int .i64 0]).cells=#[.slice none 0 0,.slice none 0 0,.int .i64 0]from rfl]
end Go.Sky
theorem Go.Proofs.Tryz.ti219:Go.Proofs.Tryz.prog.info? 219=some Go.Proofs.Tryz.t219:=Go.Sky.O6
namespace Go.Sky
open Go.Proofs
end Go.Sky
theorem Go.Proofs.Tryz.ti217:Go.Proofs.Tryz.prog.info? 217=some Go.Proofs.Tryz.t217:=Go.Sky.O6
namespace Go.Sky
open Go.Proofs
theorem Lp{v0 v1:Value}(h0:v0.oneCell'=true)(h1:v1.oneCell'=true):Tryz.prog.built 219 [(0,v0),(1,v1)]=some #[v0,v1]:=by
 refine Qn _ Tryz.ti219 Tryz.underlying219 rfl (pl:=[(0,1),(1,1)]) (by simp [Tryz.ti217,Tryz.ti4];try decide) ?_
 simp [Instr.fill,Zu h0,Zu h1,show(Value.agg #[.bool false,.slice none 0 0]).cells=#[.bool false,.slice none 0 0]from rfl]
end Go.Sky
theorem Go.Proofs.Tryz.ti276:Go.Proofs.Tryz.prog.info? 276=some Go.Proofs.Tryz.t276:=Go.Sky.O6
namespace Go.Sky
open Go.Proofs
theorem Yi5{c0_0 c0_1 c0_2 c0_3 c1_0 c1_1 c1_2 c1_3:Value} : Tryz.prog.built 276 [(0,.agg #[c0_0,c0_1,c0_2,c0_3]),(1,.agg #[c1_0,c1_1,c1_2,c1_3])]=some #[c0_0,c0_1,c0_2,c0_3,c1_0,c1_1,c1_2,c1_3]:=by
 refine Qn _ Tryz.ti276 Tryz.underlying276 rfl (pl:=[(0,4),(4,4)]) (by simp [Tryz.ti82];try decide) ?_
 simp [Instr.fill,show(Value.agg #[c0_0,c0_1,c0_2,c0_3]).cells=#[c0_0,c0_1,c0_2,c0_3]from rfl,show(Value.agg #[c1_0,c1_1,c1_2,c1_3]).cells=#[c1_0,c1_1,c1_2,c1_3]from rfl,show(Value.agg #[.bool false,.string ⟨#[]⟩,.bool false,.string ⟨#[]⟩,.bool false,.string ⟨#[]⟩,.bool false,.string ⟨#[]⟩]).cells=#[.bool false,.string ⟨#[]⟩,.bool false,.string ⟨#[]⟩,.bool false,.string ⟨#[]⟩,.bool false,.string ⟨#[]⟩]from rfl]
theorem J{α:Sort _}{a:α} : a=a:=rfl
abbrev Om (P:Program) (f:FuncId) (a:Array Value) (p:List Pc) (v:Value):Prop:=Cal P f a p false (G:=Unit) (fun _=>True) (fun _=>v) (fun _=>[])
abbrev rX (x y:Int):Value:= .agg #[.bool (decide (x<0)),.string (Xz x.natAbs),.bool (decide (y<0)),.string (Xz y.natAbs)]
theorem vB{a b:Bool}(h:a=b):Value.bool a=Value.bool b:=congrArg _ h
theorem dF{P:Program}{N:Nat}{sc:Nat→Prop}{o:Oper}{env:Qw}{H:Hp}{r:Value}(h:Nt P N sc o env H r)(e:r= .bool false):Nt P N sc o env H (.bool false):=Zw h e
theorem dT{P:Program}{N:Nat}{sc:Nat→Prop}{o:Oper}{env:Qw}{H:Hp}{r:Value}(h:Nt P N sc o env H r)(e:r= .bool true):Nt P N sc o env H (.bool true):=Zw h e
theorem K1{t0:Sort _}{a0:t0} : a0=a0∧True:=⟨rfl,trivial⟩
theorem K2{t0:Sort _}{a0:t0}{t1:Sort _}{a1:t1} : a0=a0∧a1=a1∧True:=⟨rfl,rfl,trivial⟩
theorem K3{t0:Sort _}{a0:t0}{t1:Sort _}{a1:t1}{t2:Sort _}{a2:t2} : a0=a0∧a1=a1∧a2=a2∧True:=⟨rfl,rfl,rfl,trivial⟩
theorem K4{t0:Sort _}{a0:t0}{t1:Sort _}{a1:t1}{t2:Sort _}{a2:t2}{t3:Sort _}{a3:t3} : a0=a0∧a1=a1∧a2=a2∧a3=a3∧True:=⟨rfl,rfl,rfl,rfl,trivial⟩
theorem K6{t0:Sort _}{a0:t0}{t1:Sort _}{a1:t1}{t2:Sort _}{a2:t2}{t3:Sort _}{a3:t3}{t4:Sort _}{a4:t4}{t5:Sort _}{a5:t5} : a0=a0∧a1=a1∧a2=a2∧a3=a3∧a4=a4∧a5=a5∧True:=⟨rfl,rfl,rfl,rfl,rfl,rfl,trivial⟩
def Zq8:=@Go.Proofs.Tryz.call202
def Lk:=@Go.Proofs.Tryz.sizeOf232
def zT3:=@Go.Proofs.Tryz.sizeOf3
def Ki:=@Go.Proofs.Tryz.sizeOf80
def zT89:=@Go.Proofs.Tryz.sizeOf89
def Zfu:=@Go.Proofs.Tryz.underlying197
def Pb:=@Go.Proofs.Tryz.underlying217
def Zaj:=@Go.Proofs.Tryz.underlying232
def Zkf:=@Go.Proofs.Tryz.underlying268
def uT3:=@Go.Proofs.Tryz.underlying3
def Ec:=@Go.Proofs.Tryz.underlying33
def Yfm:=@Go.Proofs.Tryz.underlying39
def Nf:=@Go.Proofs.Tryz.underlying40
def Ze2:=@Go.Proofs.Tryz.underlying47
def uT5:=@Go.Proofs.Tryz.underlying5
def uT9:=@Go.Proofs.Tryz.underlying9
open Go.ChangeShapes Go.WideShapes Go.ChangeAt Go.RowKit Go.Joins Go.Deep
variable {P:Program} {W:World} {H:Type} {enc:TypeId×Value→H}
theorem Zse{r:Reach}{b0:Nat}{t e:TypeId}{a:Addr}{len cap:Nat}(hs:P.underlying t=some (.slice e))(hv:Value.okWide P W r b0 t (.slice (some a) len cap)):a.spot=none∧a.block<W.heap.size:=by
 unfold Value.okWide at hv
 rw [hs]at hv
 simp only at hv
 unfold Cell.okWide at hv
 rw [hs]at hv
 simp only at hv
 unfold Cell.ok at hv
 rw [hs]at hv
 simp only at hv
 obtain⟨_,_,_,h1,row,cells,h2,_⟩:=hv
 refine⟨h1,?_⟩
 unfold World.shape? at h2
 rcases Nat.lt_or_ge a.block W.heap.size with h | h
 ·exact h
 ·rw [Array.getElem?_eq_none h]at h2
  simp at h2
theorem Zsd {t e:TypeId} {v:Value} {d:DataW H} {p:List MemPlace} (hs:P.underlying t=some (.slice e)) (he:P.underlying e=some (.int .i64)) (hc:P.cellsOf e=1)
  {r:Reach} {b0:Nat} (hv:Value.okWide P W r b0 t v) (h:DataW.Trod enc P W 0 (fun _=>true) true t v d p) :
  ∃l:List Int,(Yh 1 Zx v l).holds W∧∀x∈l,Xx x:=by
 obtain⟨a0,len,cap,rfl⟩:=okWide_slice hs hv
 obtain⟨fuel,hf⟩:=h
 rcases open_ints hs he hc hf with⟨hcs,_⟩ | ⟨a,len',cap',zs,hcs,_,hl,hm,hz,_,hcell,hwz⟩
 ·simp [Value.cells]at hcs
  obtain⟨rfl,rfl,rfl⟩:=hcs
  exact⟨[],Zbu 1 Zx W,fun x hx=>by cases hx⟩
 ·simp [Value.cells]at hcs
  obtain⟨rfl,rfl,rfl⟩:=hcs
  obtain⟨g,off,spot⟩:=a
  obtain⟨hsp,hlt⟩:=Zse hs hv
  simp only at hsp
  subst hsp
  have hz2:zs.length=cap:=by simpa using hz
  have htl:(zs.take len).length=len:=by rw [List.length_take];omega
  refine⟨zs.take len,⟨⟨some ⟨g,off,none⟩,cap,by rw [htl],by rw [htl];exact hl,hm,.inr ⟨g,off,rfl,fun i x hi j u hj=>?_⟩⟩,fun b hb=>by cases hb.2;exact hlt⟩,fun x hx=>?_⟩
  ·have hil:i<len:=by
    rcases Nat.lt_or_ge i len with h | h
    ·exact h
    ·rw [List.getElem?_eq_none (by rw [htl];exact h)]at hi;cases hi
   have hj0:j=0:=by
    rcases j with _ | j
    ·rfl
    ·simp [Value.cells]at hj
   subst hj0
   have h2:=hcell i O
   rw [Pq]at h2
   rw [List.getElem?_take_of_lt hil]at hi
   rw [List.getD_eq_getElem?_getD,hi]at h2
   simp [Value.cells]at hj
   subst hj
   simpa using h2
  ·have h2:=hwz x (List.mem_of_mem_take hx)
   have h3:=bounds_i64 h2
   exact⟨O,O⟩
end Go.Sky
namespace Go.Sky
theorem Cal.toS {P:Program} {f:FuncId} {args:Array Value} {pre:List Pc} {al:Bool} {φ:Value×List (Int×SL)→Prop}
  (h:Cal P f args pre al (G:=Value×List (Int×SL)) φ (fun r=>r.1) (fun r=>[pp r.1 r.2])) :
  Cal P f args pre al (G:=SL×List (Int×SL)) (fun r=>φ (Xb r.1,r.2)) (fun r=>Xb r.1) (fun r=>[pp (Xb r.1) r.2]):=fun w hw=>by
 refine(h w hw).mono fun e w' ⟨g,he,hφ,hb,hi⟩=>?_
 obtain⟨v,z⟩:=g
 have h0:=(hi _ (List.mem_cons_self ..)).1
 obtain⟨ad,c,h1,_⟩:=Zn w' h0
 have h2:v=Xb (ad,z.length,c):=h1
 subst h2
 exact⟨((ad,z.length,c),z),he,hφ,hb,hi⟩
abbrev qT (z:SL×List (Int×SL)):Pc:=pp (Xb z.1) z.2
abbrev T0:SL×List (Int×SL):=((none,0,0),[])
abbrev intsT (zs:List (SL×List (Int×SL))):List (List Int):=zs.map fun z=>Yf z.2
set_option maxRecDepth 20000
theorem Yi0{K:Nat}{f:Nat→Int}{n:Nat}(h:∀i,i<n→bl (f i).natAbs≤K)(hn:n≤1023):bl (Zy f n).natAbs≤K+10:=by
 rw [Xw]
 have h1:=Ztn h
 have h2:n*(2^K-1)≤1023*(2^K-1):=Nat.mul_le_mul_right _ hn
 have h3:0<2^K:=Nat.two_pow_pos K
 rw [Nat.pow_add]
 omega
theorem Fj(zs:List (Int×SL))(z:Int×SL):Yf (zs ++ [z])=Yf zs ++ [z.1]:=by simp [Yf]
theorem Ygs(p q:List Int):tzl (mk (max p.length q.length) fun t=>cf p t+cf q t)=Ei p q:=rfl
theorem Zr7(p:List Int)(c:Int):tzl (mk p.length fun t=>cf p t*c)=Zm p c:=by rw [Zmp p (· * c)];rfl
theorem Ygp(p q:List Int):tzl (mk (p.length+q.length-1) fun t=>Zy (fun k=>cf p k*cf q (t-k)) (t+1))=Xs p q:=rfl
theorem Pt(p:List Int)(c:Int):(Zm p c).length≤p.length:=by
 unfold Zm;have:=Ko (p.map (· * c));rwa [List.length_map]at this
theorem Lg{y:Int}(h:y≠0):∀n:Nat,y^n≠0
 | 0=>by rw [Int.pow_zero];omega
 | n+1=>by rw [Int.pow_succ];exact Int.mul_ne_zero (Lg h n) h
theorem Zsn(xs ys:List Int):xs.map wr=ys.map wr↔xs=ys:=by
 refine⟨fun h=>?_,fun h=>by rw [h]⟩
 exact List.map_inj_right (fun x y h=>Zy6 (congrArg Prod.fst h) (congrArg Prod.snd h)) |>.1 h
theorem Cal.imp2{P:Program}{f:FuncId}{args:Array Value}{p1 p q:Pc}{pre:List Pc}{al:Bool}{G:Type}{φ:G→Prop}{Ye:G→Value}{its:G→List Pc}(h:Cal P f args (p1 :: p :: pre) al φ Ye its)(hh:∀w,q.holds w→p.holds w)(hf:∀b,p.fp b→q.fp b) :
  Cal P f args (p1 :: q :: pre) al φ Ye its:=fun w hp=>by
 refine(h w fun r hr=>?_).mono ?_
 ·rcases List.mem_cons.1 hr with rfl | hr
  ·exact hp _ (List.mem_cons_self ..)
  ·rcases List.mem_cons.1 hr with rfl | hr
   ·exact hh w (hp q (List.mem_cons_of_mem _ (List.mem_cons_self ..)))
   ·exact hp r (List.mem_cons_of_mem _ (List.mem_cons_of_mem _ hr))
 ·rintro e w' ⟨g,he,hg,hb,hits⟩
  refine⟨g,he,hg,hb,fun p' hp'=>?_⟩
  obtain⟨h1,h2,h3⟩:=hits p' hp'
  refine⟨h1,h2,fun b hb=>?_⟩
  rcases h3 b hb with h | ⟨h,r,hr,hrb⟩
  ·exact .inl h
  ·refine .inr ⟨h,?_⟩
   rcases List.mem_cons.1 hr with rfl | hr
   ·exact⟨r,List.mem_cons_self ..,hrb⟩
   ·rcases List.mem_cons.1 hr with rfl | hr
    ·exact⟨q,List.mem_cons_of_mem _ (List.mem_cons_self ..),hf b hrb⟩
    ·exact⟨r,List.mem_cons_of_mem _ (List.mem_cons_of_mem _ hr),hrb⟩
def shm(q:List Int)(c:Int)(s i:Nat):List Int:=mk (s+i) fun t=>if t<s then 0 else c*cf q (t-s)
theorem Yec(q:List Int)(c:Int)(s t:Nat):cf (shm q c s q.length) t=if s≤t∧t<s+q.length then c*cf q (t-s)else 0:=by
 unfold shm
 rw [Mh]
 by_cases h1:t<s
 ·rw [if_neg (by omega:¬(s≤t∧t<s+q.length))];split
  ·rfl
  ·rfl
 ·by_cases h2:t<s+q.length
  ·rw [if_pos h2,if_neg h1,if_pos (show s≤t∧t<s+q.length by omega)]
  ·rw [if_neg h2,if_neg (show ¬(s≤t∧t<s+q.length) by omega)]
section
variable {p q:List Int}
theorem Zhz(hq:0<q.length)(hl:q.length≤p.length):∀j,j≤p.length-q.length+1→∀t,p.length-j≤t→cf (Qj p q j) t=0
 | 0,_,t,ht=>Yl (by unfold Qj;omega)
 | j+1,hj,t,ht=>by
  rcases Nat.lt_or_ge t p.length with h | h
  ·unfold Qj
   rw [Zq6 (by rw [Mg];exact h)]
   by_cases he:t=p.length-1-j
   ·subst he
    rw [if_pos O,show p.length-1-j-(p.length-1-j-(q.length-1))=q.length-1 by omega]
    omega
   ·rw [Zhz hq hl j O t O,Int.zero_mul,if_neg O];rfl
  ·exact Yl (by rw [Mg];omega)
def RestInv(p q R:List Int)(j:Nat):Prop:=Tr R∧∀t,cf R t=cf (Qj p q j) t*cf q (q.length-1)^(p.length-q.length+1-j)
end
end Go.Sky
namespace Go.Sky
section
variable {P:Program} {N:Nat} {sc:Nat→Prop} {env env':Qw} {H H':Hp}
end
end Go.Sky
namespace Go.Sky
def rterm(a b:Int):Nat→List Int
 | 0=>[1]
 | i+1=>Xs (rterm a b i) (tzl [a,b])
def rsum(p:List Int)(a b d:Int):Nat→List Int
 | 0=>[]
 | i+1=>Ei (rsum p a b d i) (Zm (rterm a b i) (cf p i*d^(p.length-1-i)))
def hs(f:Nat→PS):Nat→PS
 | 0=>0
 | n+1=>hs f n+f n
theorem Ya4(p:List Int):ps (tzl p)=ps p:=PS.ext' fun i=>Lj p i
theorem C_c(n:Int)(i:Nat):(PS.C n).c i=if i=0 then n else 0:=by
 have h:=PS.C_mul_c n 1 i
 rw [show PS.C n*1=PS.C n from PS.mul_one' _,PS.one_c]at h
 rw [h];split<;>simp
abbrev RW:=List (Bool×ByteArray)
abbrev qR (z:SL×RW):Pc:=Yh 2 Zs1 (Xb z.1) z.2
abbrev qZ (z:SL×List Int):Pc:=Yh 2 wv (Xb z.1) z.2
abbrev R0:SL×RW:=((none,0,0),[])
def short1(r:RW):Bool:=(decide (r.length≤14) || decide (r.length=26)) && r.all fun c=>decide (c.2.size≤16)
def shortb(ls:List RW):Bool:=ls.all short1
theorem Zpc {P:Program} {N:Nat} {sc:Nat→Prop} {M:Nat→Prop} {env:Qw} {H:Hp} {ops:Array Oper} {F:Qw→Hp→Prop} {rest:List (Nat×Nat)} {i:Nat} {o:Oper} {G:Type} {φ:G→Prop} {genv:G→Qw} {gH:G→Hp} {j e:Nat} {b:Bool} (ho:ops[i]? = some o) (hg:o.guard=some (j,b)) (hj:(ops[j]?).bind (·.dst)=some e) (he:lk env e=some (.bool b)) (heN:Nat.blt e N=true) (ht:T P N sc M o env H φ genv gH)
  (h:∀g,φ g→LD P N sc M ops F rest (genv g) (gH g)) :
  LD P N sc M ops F ((i,1) :: rest) env H:=r1g ht ho hg hj he heN h
theorem Dn{f:Nat→Int}{k:Nat} : ∀{n:Nat},k<n→(∀i,i<n→i≠k→f i=0)→Zy f n=f k
 | 0,hk,_=>absurd hk (Nat.not_lt_zero _)
 | n+1,hk,h=>by
  rw [Yi]
  by_cases e:k=n
  ·subst e
   rw [Hb fun i hi=>h i O O,Int.zero_add]
  ·rw [h n O (fun x=>e x.symm),Dn O (fun i hi=>h i O),Int.add_zero]
theorem Dz{p q:List Int}{a b:Nat}(ha:∀i,a<i→cf p i=0)(hb:∀i,b<i→cf q i=0):(ps p*ps q).c (a+b)=cf p a*cf q b:=by
 rw [PS.mul_c,Dn (k:=a) O fun i hi hne=>?_]
 ·rw [Oj,Oj,show a+b-a=b by omega]
 ·rw [Oj,Oj]
  rcases Nat.lt_or_ge a i with h | h
  ·rw [ha i h,Int.zero_mul]
  ·rw [hb (a+b-i) O,Int.mul_zero]
theorem Zig(s s':List Int)(c c':Int)(f:PS)(t:Nat):(ps (Bb (Zm s c) (Zm s' c'))*f).c t=c*(ps s*f).c t-c'*(ps s'*f).c t:=by
 rw [PS.mul_c,PS.mul_c,PS.mul_c,←Np,Int.sub_eq_add_neg,←Int.neg_mul,←Np,←Fe]
 refine Yu fun k _=>?_
 rw [Oj,Oj,Oj,Dd,Yr,Yr]
 grind
theorem Yg4{q s r:List Int}(hq:Tr q)(hq0:q≠[])(h:∀t,(ps s*ps q).c t=cf r t)(hr:∀t,q.length-1≤t→cf r t=0):∀t,cf s t=0:=by
 have hlead:=hq.mem hq0
 have hlen:0<q.length:=List.length_pos_iff.2 hq0
 have hs:tzl s=[]:=by
  rcases Zgq (tzl s)with h1 | ⟨ys,y,h1⟩
  ·exact h1
  ·exfalso
   have ht:=Xp s
   have hne:tzl s≠[]:=by rw [h1];simp
   have h2:=ht.mem hne
   have h3:=Dz (p:=tzl s) (q:=q) (a:=(tzl s).length-1) (b:=q.length-1) (fun i hi=>Yl O) (fun i hi=>Yl O)
   have h4:ps (tzl s)=ps s:=PS.ext' fun i=>Lj s i
   rw [h4,h,hr _ O]at h3
   rcases Int.mul_eq_zero.1 h3.symm with h5 | h5
   ·exact h2 h5
   ·exact hlead h5
 exact(Mu s).1 hs
theorem Lf{s:List Int}(h:∀t,cf s t=0)(f:PS)(t:Nat):(ps s*f).c t=0:=by
 rw [PS.mul_c]
 exact Hb fun k _=>by rw [Oj,h,Int.zero_mul]
theorem Pu{p q:List Int}(hp:Tr p)(hq:Tr q)(h1:p≠[])(h2:q≠[]):(Xs p q).length=p.length+q.length-1:=by
 have l1:=List.length_pos_iff.2 h1
 have l2:=List.length_pos_iff.2 h2
 unfold Xs
 rw [Ai,Yq]
 right
 rw [Yq,Mh,if_pos O,show p.length+q.length-1-1=(p.length-1)+(q.length-1) by omega,Dz (fun i hi=>Yl O) (fun i hi=>Yl O)]
 exact Int.mul_ne_zero (hp.mem h1) (hq.mem h2)
def mono(s:Nat)(c:Int):List Int:=List.replicate s 0 ++ [c]
theorem Zg6(s:Nat)(c:Int)(i:Nat):cf (mono s c) i=if i=s then c else 0:=by
 unfold mono
 rw [Zb4,List.length_replicate]
 split
 ·rw [if_neg O]
  unfold cf
  simp [List.getD_eq_getElem?_getD,List.getElem?_replicate]
  split<;>rfl
 ·rename_i h
  split
  ·rename_i h2;subst h2;simp [cf]
  ·exact Yl O8
theorem Zih(s:Nat)(c:Int)(f:PS)(t:Nat):(ps (mono s c)*f).c t=if s≤t then c*f.c (t-s)else 0:=by
 rw [PS.mul_c]
 split
 ·rw [Dn (k:=s) O fun i _ hne=>by rw [Oj,Zg6,if_neg hne,Int.zero_mul],Oj,Zg6,if_pos rfl]
 ·exact Hb fun k hk=>by rw [Oj,Zg6,if_neg O,Int.zero_mul]
theorem Zfc{p q:List Int}(hq:0<q.length)(hl:q.length≤p.length):∀j,j≤p.length-q.length+1→∃s:List Int,∀t,cf q (q.length-1)^j*cf p t=(ps s*ps q).c t+cf (Qj p q j) t
 | 0,_=>⟨[],fun t=>by rw [Lf (fun t=>Yl (Nat.zero_le _)),Int.pow_zero];unfold Qj;omega⟩
 | j+1,hj=>by
  obtain⟨s,ih⟩:=Zfc hq hl j O
  refine⟨Bb (Zm s (cf q (q.length-1))) (Zm (mono (p.length-1-j-(q.length-1)) (cf (Qj p q j) (p.length-1-j))) (-1)),fun t=>?_⟩
  rw [Zig,Zih]
  have h0:=ih t
  show _=_+cf (Zf1 q (Qj p q j) (p.length-1-j)) t
  rw [Int.pow_succ]
  rcases Nat.lt_or_ge t p.length with h | h
  ·rw [Zq6 (by rw [Mg];exact h)]
   generalize p.length-1-j-(q.length-1)=sh
   generalize cf (Qj p q j) (p.length-1-j)=R
   generalize cf (Qj p q j) t=R' at h0 ⊢
   generalize (ps s*ps q).c t=X at h0 ⊢
   generalize cf q (q.length-1)^j=L at h0 ⊢
   generalize cf q (q.length-1)=l at h0 ⊢
   have e:L*l*cf p t=l*X+R'*l:=by rw [Int.mul_assoc,Int.mul_comm l,←Int.mul_assoc,h0];grind
   rw [e]
   by_cases h1:sh≤t
   ·rw [if_pos h1,Oj]
    by_cases h2:t<sh+q.length
    ·rw [if_pos ⟨h1,h2⟩];omega
    ·rw [if_neg O,Yl (p:=q) (i:=t-_) O];omega
   ·rw [if_neg h1,if_neg O];omega
  ·have z1:cf p t=0:=Yl h
   have z2:cf (Qj p q j) t=0:=Yl (by rw [Mg];exact h)
   have z3:cf (Zf1 q (Qj p q j) (p.length-1-j)) t=0:=Yl (by rw [Zed,Mg];exact h)
   have z4:cf q (t-(p.length-1-j-(q.length-1)))=0:=Yl O
   rw [z1,z2,Int.mul_zero,Int.add_zero]at h0
   rw [z1,z3,if_pos O,Oj,z4,←h0];simp
theorem Bj(p:List Int){q:List Int}(hq:q≠[]):∃(k:Nat) (s:List Int),∀t,cf q (q.length-1)^k*cf p t=(ps s*ps q).c t+cf (Xy p q) t:=by
 have hq':0<q.length:=List.length_pos_iff.2 hq
 rcases Nat.lt_or_ge p.length q.length with h | h
 ·refine⟨0,[],fun t=>?_⟩
  rw [Lf (fun t=>Yl (Nat.zero_le _)),Int.pow_zero]
  unfold Xy;rw [if_pos h];omega
 ·obtain⟨s,hs⟩:=Zfc hq' h _ (Nat.le_refl _)
  refine⟨p.length-q.length+1,s,fun t=>?_⟩
  rw [hs t]
  unfold Xy
  rw [if_neg O,Lj]
theorem Pf(p:List Int){q:List Int}(hq:q≠[]):(Xy p q).length<q.length:=by
 have hq':0<q.length:=List.length_pos_iff.2 hq
 unfold Xy
 split
 ·assumption
 ·have:=Aj (p:=Qj p q (p.length-q.length+1)) (n:=q.length-1) fun i hi=>Zhz hq' O _ (Nat.le_refl _) i O
  omega
theorem Kk{p q:List Int}(hp:Tr p):Tr (Xy p q):=by
 unfold Xy;split
 ·exact hp
 ·exact Xp _
def Sim(a b:List Int):Prop:=∃m n:Int,m≠0∧n≠0∧∀i,m*cf a i=n*cf b i
theorem Sim.refl(a:List Int):Sim a a:=⟨1,1,O3,O3,fun _=>rfl⟩
theorem Sim.symm{a b:List Int} : Sim a b→Sim b a:=fun⟨m,n,hm,hn,h⟩=>⟨n,m,hn,hm,fun i=>(h i).symm⟩
theorem Sim.trans{a b c:List Int} : Sim a b→Sim b c→Sim a c:=fun⟨m,n,hm,hn,h⟩ ⟨u,v,hu,hv,k⟩=>
 ⟨m*u,n*v,Int.mul_ne_zero hm hu,Int.mul_ne_zero hn hv,fun i=>by have h1:=h i;have h2:=k i;grind⟩
theorem Sim.zero{a b:List Int}(h:Sim a b){i:Nat}(hi:cf a i=0):cf b i=0:=by
 obtain⟨m,n,hm,hn,h⟩:=h
 have:=h i
 rw [hi,Int.mul_zero]at this
 rcases Int.mul_eq_zero.1 this.symm with h | h
 ·exact absurd h hn
 ·exact h
theorem Sim.len_le{a b:List Int}(h:Sim a b)(hb:Tr b):b.length≤a.length:=by
 rcases Nat.lt_or_ge a.length b.length with hl | hl
 ·exfalso
  have hne:b≠[]:=List.length_pos_iff.1 O
  exact hb.mem hne (h.zero (Yl O))
 ·exact hl
theorem Sim.len{a b:List Int}(h:Sim a b)(ha:Tr a)(hb:Tr b):a.length=b.length:=Nat.le_antisymm (h.symm.len_le ha) (h.len_le hb)
theorem Sim.nil{a b:List Int}(h:Sim a b)(hb:Tr b)(ha:a=[]):b=[]:=by
 have:=h.len_le hb
 rw [ha]at this
 exact List.eq_nil_of_length_eq_zero (by simpa using this)
theorem Zad(c:Int):∀(p:List Int) (g:Int),0≤g→(p.map (· * c)).foldl (fun g c=>(Int.gcd g c:Int)) (g*c.natAbs)=p.foldl (fun g c=>(Int.gcd g c:Int)) g*c.natAbs
 | [],g,_=>rfl
 | x :: p,g,hg=>by
  rw [List.map_cons,List.foldl_cons,List.foldl_cons,←Zad c p _ O]
  congr 1
  have:Int.gcd (g*(c.natAbs:Int)) (x*c)=Int.gcd g x*c.natAbs:=by
   unfold Int.gcd
   rw [Int.natAbs_mul,Int.natAbs_mul,Int.natAbs_natCast,Nat.gcd_mul_right]
  rw [this];push_cast;rfl
theorem Zff(p:List Int)(c:Int):Ym (p.map (· * c))=Ym p*c.natAbs:=by
 have:=Zad c p 0 (Int.le_refl _)
 rw [Int.zero_mul]at this
 exact this
theorem Hs(p:List Int)(i:Nat):cf (Zt p) i*Ym p=cf p i:=by
 rw [Bz];exact Int.ediv_mul_cancel (Mj p i)
theorem Zxs:Zt []=[]:=rfl
theorem Dx{p:List Int}(h:Tr p)(h0:p≠[]):Ym p≠0:=fun e=>h.mem h0 ((Zat p).1 e _)
theorem Mz{p:List Int}(h:Tr p)(h0:p≠[]):Ym (Zt p)=1:=by
 have h1:=Dx h h0
 have h2:=Zff (Zt p) (Ym p)
 rw [show(Zt p).map (· * Ym p)=p from Lv (by rw [List.length_map,Zr]) fun i _=>by rw [Za9 _ _ O7];exact Hs p i]at h2
 have h3:=Oe p
 have h4:Ym p*(Ym (Zt p)-1)=0:=by
  rw [Int.mul_sub,Int.mul_one,Int.mul_comm]
  have:((Ym p).natAbs:Int)=Ym p:=O
  rw [this]at h2;omega
 rcases Int.mul_eq_zero.1 h4 with h5 | h5<;>omega
theorem Zd0{p:List Int}(h:Ym p=1):Zt p=p:=Lv (Zr p) fun i _=>by rw [Bz,h,Int.ediv_one]
theorem Du{p:List Int}(h:Tr p):Zt (Zt p)=Zt p:=by
 by_cases h0:p=[]
 ·subst h0;rfl
 ·exact Zd0 (Mz h h0)
theorem Qb{p:List Int}(h:Tr p):Sim (Zt p) p:=by
 by_cases h0:p=[]
 ·subst h0;exact Sim.refl _
 ·exact⟨Ym p,1,Dx h h0,O3,fun i=>by rw [Int.one_mul,Int.mul_comm];exact Hs p i⟩
def Yy(p:List Int):List Int:=Ic (Zt p)
theorem Zhq{x y:List Int}(hx:Tr x)(hy:Tr y)(h0:x≠[])(h1:Ym x=1)(h2:Ym y=1)(h:Sim x y):x=y∨∀i,cf x i=- cf y i:=by
 have hl:=h.len hx hy
 obtain⟨m,n,hm,hn,e⟩:=h
 have h3:=Zff x m
 have h4:=Zff y n
 rw [show x.map (· * m)=y.map (· * n)from Lv (by simp [hl]) fun i _=>by
  rw [Za9 _ _ O7,Za9 _ _ O7,Int.mul_comm,Int.mul_comm (cf y i)];exact e i,h4,h1,h2]at h3
 have h5:m=n∨m=-n:=O
 rcases h5 with rfl | rfl
 ·exact .inl (Lv hl fun i _=>Int.eq_of_mul_eq_mul_left hm (e i))
 ·exact .inr fun i=>Int.eq_of_mul_eq_mul_left hn (by have:=e i;grind)
theorem Gt(g:List Int)(i:Nat):cf (Ic g) i=if g.length≠0∧cf g (g.length-1)<0 then-cf g i else cf g i:=by
 unfold Ic;split
 ·rw [Yr];omega
 ·rfl
theorem Oc{g:List Int}(h:Tr g):Tr (Ic g):=by
 unfold Ic;split
 ·exact Xq _ _
 ·exact h
theorem Kn(g:List Int):Sim (Ic g) g:=by
 by_cases h:g.length≠0∧cf g (g.length-1)<0
 ·exact⟨-1,1,O3,O3,fun i=>by rw [Gt,if_pos h];omega⟩
 ·exact⟨1,1,O3,O3,fun i=>by rw [Gt,if_neg h]⟩
theorem Zu2{a b:List Int}(ha:Tr a)(hb:Tr b)(h:Sim a b):Yy a=Yy b:=by
 by_cases h0:a=[]
 ·rw [h.nil hb h0,h0]
 ·have h0':b≠[]:=fun e=>h0 (h.symm.nil ha e)
  have hs:Sim (Zt a) (Zt b):=(Qb ha).trans (h.trans (Qb hb).symm)
  have hx:=Yv ha
  have hy:=Yv hb
  have hl:=hs.len hx hy
  have hx0:Zt a≠[]:=fun e=>h0 (List.eq_nil_of_length_eq_zero (by rw [←Zr,e];rfl))
  rcases Zhq hx hy hx0 (Mz ha h0) (Mz hb h0') hs with e | e
  ·unfold Yy;rw [e]
  ·unfold Yy
   refine(Oc hx).ext (Oc hy) fun i=>?_
   rw [Gt,Gt,←hl,e i,e ((Zt a).length-1)]
   have hne:cf (Zt b) ((Zt a).length-1)≠0:=by rw [hl];exact hy.mem (fun e2=>hx0 (List.eq_nil_of_length_eq_zero (by rw [hl,e2];rfl)))
   have hl0:(Zt a).length≠0:=fun e2=>hx0 (List.eq_nil_of_length_eq_zero e2)
   by_cases h3:cf (Zt b) ((Zt a).length-1)<0
   ·rw [if_neg O,if_pos ⟨hl0,h3⟩]
   ·rw [if_pos O,if_neg O];omega
theorem Zqh:∀(f:Nat) {a b:List Int},Tr a→Tr b→Tr (eu f a b)
 | 0,_,_,h,_=>h
 | f+1,a,b,ha,hb=>by
  unfold eu
  split
  ·exact ha
  ·exact Zqh f hb (Yv (Kk ha))
theorem Zvp:∀(f:Nat) {a b:List Int},Tr a→Tr b→Zt a=a→Zt b=b→Zt (eu f a b)=eu f a b
 | 0,_,_,_,_,h,_=>h
 | f+1,a,b,ha,hb,h1,h2=>by
  unfold eu
  split
  ·exact h1
  ·exact Zvp f hb (Yv (Kk ha)) h2 (Du (Kk ha))
theorem Zhh{p q:List Int}(hp:Tr p)(hq:Tr q):Tr (gA p q):=by unfold gA;split<;>exact Yv ‹_›
theorem Zhg{p q:List Int}(hp:Tr p)(hq:Tr q):Tr (gB p q):=by unfold gB;split<;>exact Yv ‹_›
theorem Ybi{F:Nat}{p q:List Int}(hp:Tr p)(hq:Tr q):Ni F p q=Yy (eu F (gA p q) (gB p q)):=by
 unfold Ni Yy
 rw [Zvp F (Zhh hp hq) (Zhg hp hq)]
 ·unfold gA;split
  ·exact Du hq
  ·exact Du hp
 ·unfold gB;split
  ·exact Du hp
  ·exact Du hq
def chk:Nat→Nat→Nat→Nat→Nat→Bool
 | 0,_,lb,_,_=>Nat.beq lb 0
 | f+1,la,lb,A,B=>Nat.beq lb 0 || (bif Nat.blt la lb then chk f lb la B A else
   Nat.ble (A+(la-lb+1)*B) 65537 && (List.range lb).all fun l=>chk f lb l B (bif Nat.ble l 1 then 2 else A+(la-lb+1)*B))
theorem cp_nf{p:List Int}{x y z:Int}{n m:Nat}(hp:Sz n p)(hx:bl x.natAbs≤m)(hy:bl y.natAbs≤m)(hz:bl z.natAbs≤m)(hl:p.length≤25)(hF:n+24*(m+1)+8≤65536):Qk p+(p.length-1)*(Qk [x,y,z]+1)+8≤65536:=by
 have h1:=Pd hp
 have h2:Qk [x,y,z]≤m:=by simp only [Qk];omega
 have h3:(p.length-1)*(Qk [x,y,z]+1)≤24*(m+1):=Nat.mul_le_mul O O
 omega
theorem cp_not{p:List Int}{x y z:Int}(h:Qk p+(p.length-1)*(Qk [x,y,z]+1)+8≤65536):¬Zjb p x y z:=fun h2=>by have:=h2.2;omega
theorem Zc2(p:List Int)(x y z:Int):(Lt p x y z).length≤p.length:=by
 unfold Lt
 split
 ·exact Nat.zero_le _
 ·refine Nat.le_trans (Ko _) ?_
  rw [Zay];omega
theorem Zp0(x y:Int):Mn x y∣x:=by
 unfold Mn;split
 ·exact Int.neg_dvd.2 (Int.gcd_dvd_left ..)
 ·exact Int.gcd_dvd_left ..
theorem Zin(x y:Int):Mn x y∣y:=by
 unfold Mn;split
 ·exact Int.neg_dvd.2 (Int.gcd_dvd_right ..)
 ·exact Int.gcd_dvd_right ..
def s8(l:List Int):Prop:=∀x∈l,(Xz x.natAbs).size≤8
abbrev Z0:SL×List Int:=((none,0,0),[])
theorem vp_eu:∀(f:Nat) {a b:List Int},Vp a→Vp b→eok f a b→Vp (eu f a b)
 | 0,_,_,h,_,_=>h
 | f+1,a,b,ha,hb,h=>by
  unfold eu
  split
  ·exact ha
  ·rcases h with h | h
   ·contradiction
   ·exact vp_eu f hb (Kj (Zai ha h.1)) h.2
theorem Zzb{g:List Int}(h:Vp g):Vp (Ic g):=by
 unfold Ic
 split
 ·refine⟨fun i=>by rw [Yr];exact Zaa h.sz i,Xq _ _,Nat.le_trans (Pt _ _) h.len⟩
 ·exact h
theorem Yfi{F:Nat}{p q:List Int}(hp:Vp p)(hq:Vp q)(h:eok F (gA p q) (gB p q)):Vp (Ni F p q):=Zzb (vp_eu F (vp_gA hp hq) (vp_gB hp hq) h)
def pevn(p:List Int)(x y:Int)(n:Nat):Int:=Zy (fun i=>cf p i*(x^i*y^(n-1-i))) n
def dn(p:List Int)(y:Int):Int:=y^(p.length-1)
theorem Hj(q:List Int):Xs [] q=[]:=Bm (.inl rfl)
theorem Ar(p:List Int):Xs p []=[]:=Bm (.inr rfl)
theorem Ycd(N D:Int):N/Mn N D*D=N*(D/Mn N D):=by
 have h1:=Int.ediv_mul_cancel (Zp0 N D)
 have h2:=Int.ediv_mul_cancel (Zin N D)
 generalize N/Mn N D=n at *
 generalize D/Mn N D=d at *
 generalize Mn N D=g at *
 subst h1 h2
 grind
theorem Zx6{N D:Int}(h:0<D):0<D/Mn N D:=by
 have h1:Mn N D=(Int.gcd N D:Int):=if_neg O
 have h2:=Int.ediv_mul_cancel (Zin N D)
 rw [h1]at h2 ⊢
 generalize D/(Int.gcd N D:Int)=d at *
 rcases Int.lt_or_le 0 d with h3 | h3
 ·exact h3
 ·exfalso
  have:d*(Int.gcd N D:Int)≤0:=Int.mul_nonpos_of_nonpos_of_nonneg h3 O
  omega
section
variable {p q:List Int}
theorem Zc7(hp:Tr p)(hq:Tr q)(h1:p≠[])(h2:q≠[]):∀j,j≤p.length→∀t,cf (Qm (Xs p q) q j) t=(ps (p.take (p.length-j))*ps q).c t
 | 0,_,t=>by
  rw [Nat.sub_zero,List.take_length];exact Kq p q t
 | j+1,hj,t=>by
  have ih:=Zc7 hp hq h1 h2 j O
  have l1:=List.length_pos_iff.2 h1
  have l2:=List.length_pos_iff.2 h2
  have hl:=Pu hp hq h1 h2
  have e0:Qm (Xs p q) q (j+1)=Zi6 q (Qm (Xs p q) q j) (p.length-1-j):=by
   show Zi6 q _ _=_;rw [hl];congr 1;omega
  have hq0:=hq.mem h2
  have htop:cf (Qm (Xs p q) q j) (p.length-1-j+q.length-1)=cf p (p.length-1-j)*cf q (q.length-1):=by
   rw [ih,show p.length-1-j+q.length-1=(p.length-1-j)+(q.length-1) by omega,Dz (fun i hi=>by rw [Gr,if_neg O]) (fun i hi=>Yl O),Gr,if_pos O]
  have hdq:dq q (Qm (Xs p q) q j) (p.length-1-j)=cf p (p.length-1-j):=by
   unfold dq;rw [htop];exact Int.mul_ediv_cancel _ hq0
  have e1:(ps (p.take (p.length-j))*ps q).c t=(ps (p.take (p.length-(j+1)))*ps q).c t+(ps (mono (p.length-1-j) (cf p (p.length-1-j)))*ps q).c t:=by
   rw [PS.mul_c,PS.mul_c,PS.mul_c,←Fe]
   refine Yu fun k _=>?_
   rw [Oj,Oj,Oj,Oj,Gr,Gr,Zg6]
   by_cases a1:k=p.length-1-j
   ·rw [if_pos O,if_neg O,if_pos a1,←a1];omega
   ·rw [if_neg a1]
    by_cases a2:k<p.length-j
    ·rw [if_pos a2,if_pos O];omega
    ·rw [if_neg a2,if_neg O];omega
  rw [e0]
  unfold Zi6
  rw [Mh,Bc,hl,hdq,ih,e1,Zih,Oj]
  by_cases b1:t<p.length+q.length-1
  ·rw [if_pos b1]
   by_cases b2:p.length-1-j≤t
   ·rw [if_pos b2]
    by_cases b3:t<p.length-1-j+q.length
    ·rw [if_pos ⟨b2,b3⟩];omega
    ·rw [if_neg O,Yl (p:=q) O];omega
   ·rw [if_neg b2,if_neg O];omega
  ·rw [if_neg b1,PS.mul_c]
   refine(Hb fun k _=>?_).symm
   rw [Oj,Oj,Gr]
   split
   ·rw [Yl (p:=q) O,Int.mul_zero]
   ·rw [Int.zero_mul]
theorem Zmf(hp:Tr p)(hq:Tr q)(h2:q≠[]):pdv (Xs p q) q∧Lr (Xs p q) q=p:=by
 by_cases h1:p=[]
 ·subst h1;rw [Hj];exact⟨.inl rfl,rfl⟩
 have l1:=List.length_pos_iff.2 h1
 have l2:=List.length_pos_iff.2 h2
 have hl:=Pu hp hq h1 h2
 have hq0:=hq.mem h2
 have hd:∀k,k≤p.length-1→cf (Qm (Xs p q) q (p.length-1-k)) (k+q.length-1)=cf p k*cf q (q.length-1):=fun k hk=>by
  rw [Zc7 hp hq h1 h2 _ O,show k+q.length-1=k+(q.length-1) by omega,Dz (fun i hi=>by rw [Gr,if_neg O]) (fun i hi=>Yl O),Gr,if_pos O]
 have hn:(Xs p q).length-q.length=p.length-1:=O
 have hne:Xs p q≠[]:=List.length_pos_iff.1 O
 refine⟨.inr ⟨O,fun k hk=>?_,?_⟩,?_⟩
 ·unfold Kp;rw [hn]at hk ⊢;rw [hd k hk];exact Int.mul_emod_left _ _
 ·rw [hn,show p.length-1+1=p.length by omega]
  refine(Mu _).2 fun i=>?_
  rw [Zc7 hp hq h1 h2 _ (Nat.le_refl _),Nat.sub_self,List.take_zero]
  exact Lf (fun t=>Yl (Nat.zero_le _)) _ _
 ·rw [Zpg hne]
  unfold Ya7
  rw [hn,show p.length-1+1=p.length by omega,Ix (g:=cf p) fun k hk=>?_,Zbw,Ai hp]
  unfold Zv1 dq
  rw [hn,hd k O]
  exact Int.mul_ediv_cancel _ hq0
end
def Dv(g a:List Int):Prop:=∃(k:Int) (s:List Int),k≠0∧∀t,k*cf a t=(ps s*ps g).c t
theorem Zpp(f:PS)(t:Nat):(ps [1]*f).c t=f.c t:=by
 rw [PS.mul_c,Dn (k:=0) O fun i _ hne=>by rw [Oj,Yl (p:=[1]) O8,Int.zero_mul],Oj,show cf [1] 0=1 from rfl,Int.one_mul,Nat.sub_zero]
theorem Dv.refl(a:List Int):Dv a a:=⟨1,[1],O3,fun t=>by rw [Zpp,Int.one_mul,Oj]⟩
theorem Dv.nil(g:List Int):Dv g []:=⟨1,[],O3,fun t=>by rw [Lf (fun t=>Yl (Nat.zero_le _)),Yl (Nat.zero_le _)];rfl⟩
theorem Dv.sim{g a b:List Int} : Dv g a→Sim a b→Dv g b:=fun⟨k,s,hk,h⟩ ⟨m,n,hm,hn,e⟩=>
 ⟨k*n,Zm s m,Int.mul_ne_zero hk hn,fun t=>by
  rw [PS.mul_c,show(fun i=>(ps (Zm s m)).c i*(ps g).c (t-i))=fun i=>m*((ps s).c i*(ps g).c (t-i))from funext fun i=>by rw [Oj,Oj,Oj,Yr];grind,Np,←PS.mul_c,←h,Int.mul_assoc,←e];grind⟩
theorem Dv.lin{g a b c:List Int}(ha:Dv g a)(hb:Dv g b)(s:List Int)(L:Int)(hL:L≠0)(h:∀t,L*cf c t=(ps s*ps a).c t+cf b t):Dv g c:=by
 obtain⟨k,u,hk,h1⟩:=ha
 obtain⟨m,v,hm,h2⟩:=hb
 refine⟨L*(k*m),Ei (Zm (Xs s u) m) (Zm v k),Int.mul_ne_zero hL (Int.mul_ne_zero hk hm),fun t=>?_⟩
 have e1:ps g=ps g:=rfl
 have e2:k*(ps s*ps a).c t=(ps (Xs s u)*ps g).c t:=by
  rw [Zl7,PS.mul_assoc',PS.mul_c,PS.mul_c,←Np]
  refine Yu fun i _=>?_
  rw [←h1,Oj,Oj];grind
 have e3:(ps (Ei (Zm (Xs s u) m) (Zm v k))*ps g).c t=m*(ps (Xs s u)*ps g).c t+k*(ps v*ps g).c t:=by
  rw [PS.mul_c,PS.mul_c,PS.mul_c,←Np,←Np,←Fe]
  refine Yu fun i _=>?_
  rw [Oj,Oj,Oj,Oj,Cu,Yr,Yr];grind
 have h0:=h t
 have h3:=h2 t
 rw [e3,←e2,←h3]
 generalize (ps s*ps a).c t=X at *
 generalize cf c t=C at *
 generalize cf b t=B at *
 have:L*(k*m)*C=k*m*(L*C):=O4
 rw [this,h0];grind
theorem eu_dv:∀(f:Nat) {a b:List Int},Tr a→Tr b→eok f a b→Dv (eu f a b) a∧Dv (eu f a b) b
 | 0,a,b,ha,hb,h=>by rw [show b=[]from h];exact⟨Dv.refl _,Dv.nil _⟩
 | f+1,a,b,ha,hb,h=>by
  by_cases h0:b=[]
  ·subst h0;rw [Zfl];exact⟨Dv.refl _,Dv.nil _⟩
  ·rcases h with h | h
   ·exact absurd h h0
   ·have e:eu (f+1) a b=eu f b (Zt (Xy a b)):=by
     conv=>lhs;unfold eu
     rw [if_neg h0]
    rw [e]
    have t1:=Kk (q:=b) ha
    obtain⟨d1,d2⟩:=eu_dv f hb (Yv t1) h.2
    obtain⟨k,s,hs⟩:=Bj a h0
    exact⟨d1.lin (d2.sim (Qb t1)) s _ (Lg (hb.mem h0) k) hs,d1⟩
theorem Dv.of_sim{g g' a:List Int} : Dv g a→Sim g g'→Dv g' a:=fun⟨k,s,hk,h⟩ ⟨m,n,hm,hn,e⟩=>
 ⟨m*k,Zm s n,Int.mul_ne_zero hm hk,fun t=>by
  rw [Int.mul_assoc,h,PS.mul_c,PS.mul_c,←Np]
  refine Yu fun i _=>?_
  rw [Oj,Oj,Oj,Oj,Yr]
  have:=e (t-i)
  grind⟩
theorem Dv.zero{a:List Int}(ha:Tr a)(h:Dv [] a):a=[]:=by
 obtain⟨k,s,hk,h⟩:=h
 rw [←Ai ha,Mu]
 intro i
 have h1:=h i
 rw [PS.mul_comm',Lf (fun t=>Yl (Nat.zero_le _))]at h1
 rcases Int.mul_eq_zero.1 h1 with h2 | h2
 ·exact absurd h2 hk
 ·exact h2
theorem Zbq{F:Nat}{p q:List Int}(hp:Tr p)(hq:Tr q)(h:eok F (gA p q) (gB p q)):Dv (Ni F p q) p∧Dv (Ni F p q) q:=by
 have hA:=Zhh hp hq
 have hB:=Zhg hp hq
 obtain⟨h1,h2⟩:=eu_dv F hA hB h
 have hs:Sim (eu F (gA p q) (gB p q)) (Ni F p q):=(Kn _).symm
 have h1:=h1.of_sim hs
 have h2:=h2.of_sim hs
 by_cases hl:p.length<q.length
 ·rw [show gA p q=Zt q from if_pos hl]at h1
  rw [show gB p q=Zt p from if_pos hl]at h2
  exact⟨h2.sim (Qb hp),h1.sim (Qb hq)⟩
 ·rw [show gA p q=Zt p from if_neg hl]at h1
  rw [show gB p q=Zt q from if_neg hl]at h2
  exact⟨h1.sim (Qb hp),h2.sim (Qb hq)⟩
theorem Zdk{F:Nat}{p q:List Int}(hp:Tr p)(hq:Tr q):Tr (Ni F p q):=Oc (Zqh F (Zhh hp hq) (Zhg hp hq))
theorem Zcr(p:List Int){c:Int}(h:c≠0):Sim p (Zm p c):=⟨c,1,h,O3,fun i=>by rw [Yr];grind⟩
def fin8(la A:Nat):Bool:=Nat.ble la 2 || Nat.ble (64+(9-la)*A) 65536
def chk2:Nat→Nat→Nat→Nat→Nat→Bool
 | 0,la,_,A,_=>fin8 la A
 | f+1,la,lb,A,B=>bif Nat.beq lb 0 then fin8 la A else bif Nat.blt la lb then chk2 f lb la B A else
   (List.range lb).all fun l=>chk2 f lb l B (bif Nat.ble l 1 then 2 else A+(la-lb+1)*B)
theorem Aw{g:List Int}(h:Tr g):(Ic g).length=g.length:=(Kn g).len (Oc h) h
theorem Zf5(g:List Int):Ym (Ic g)=Ym g:=by
 have d1:Ym (Ic g)∣Ym g:=Hx fun i=>by
  have h:=Mj (Ic g) i
  rw [Gt]at h
  split at h
  ·exact Int.dvd_neg.1 h
  ·exact h
 have d2:Ym g∣Ym (Ic g):=Hx fun i=>by
  rw [Gt];split
  ·exact Int.dvd_neg.2 (Mj g i)
  ·exact Mj g i
 exact Int.dvd_antisymm (Oe _) (Oe _) d1 d2
theorem Zia{F:Nat}{p q:List Int}(hp:Tr p)(hq:Tr q)(h0:Ni F p q≠[]):Ym (Ni F p q)=1:=by
 rw [Ybi hp hq]at h0 ⊢
 unfold Yy at h0 ⊢
 rw [Zf5]
 refine Mz (Zqh F (Zhh hp hq) (Zhg hp hq)) fun e=>h0 ?_
 rw [e];rfl
end Go.Sky
namespace Go.Sky
def Bh(xs:List Int):Prop:=xs.length=0∨(xs.length+2)*(xs.length+2)*(Qk xs+16)≤65536
instance (xs:List Int):Decidable (Bh xs):=by unfold Bh;infer_instance
def sqf(F:Nat)(xs:List Int):List Int:=Lr (Yy xs) (Ni F (Yy xs) (Yx (Yy xs)))
def Yf0(F:Nat)(xs:List Int):Prop:=(∀i,i<xs.length→bl (cf (Yy xs) (i+1)*((i:Int)+1)).natAbs≤65536)∧¬Zk6 (Yy xs) (Yx (Yy xs))∧eok F (gA (Yy xs) (Yx (Yy xs))) (gB (Yy xs) (Yx (Yy xs)))∧
 Dc (Yy xs) (Ni F (Yy xs) (Yx (Yy xs)))=0∧pdv (Yy xs) (Ni F (Yy xs) (Yx (Yy xs)))
def Oo(x y:List Int):List Int:=if cf y (y.length-1)<0∧(x.length-y.length+1)%2=1 then Zt (Xy x y)else Zm (Zt (Xy x y)) (-1)
def cok:Nat→List Int→List Int→Prop
 | 0,_,y=>y=[]
 | f+1,x,y=>y=[]∨(Dc x y=0∧y.length≤x.length∧cok f y (Oo x y))
def Nu:Nat→List Int→List Int→List (List Int)
 | 0,x,_=>[x]
 | f+1,x,y=>if y=[]then [x]else x :: Nu f y (Oo x y)
theorem Ds(f:Nat)(x:List Int):Nu f x []=[x]:=by cases f<;>rfl
theorem Zjd{f:Nat}{a b:List Int}(h:cok f a b)(hb:b≠[]):∃g,f=g+1∧Dc a b=0∧b.length≤a.length∧cok g b (Oo a b)∧Nu f a b=a :: Nu g b (Oo a b):=by
 cases f with
 | zero=>exact absurd h hb
 | succ g=>
  rcases h with h | h
  ·exact absurd h hb
  ·exact⟨g,rfl,h.1,h.2.1,h.2.2,by show(if b=[]then [a]else _)=_;rw [if_neg hb]⟩
def chn(F:Nat)(xs:List Int):List (List Int):=Nu F (sqf F xs) (Zt (Yx (sqf F xs)))
def Cd(F:Nat)(xs:List Int):Prop:=Yf0 F xs∧(∀i,i<xs.length→bl (cf (sqf F xs) (i+1)*((i:Int)+1)).natAbs≤65536)∧cok F (sqf F xs) (Zt (Yx (sqf F xs)))
theorem Zza{p:List Int}(h:Vp p):Vp (Yy p):=by
 unfold Yy
 have h1:=Kj h
 refine⟨fun i=>?_,Oc h1.tr,by rw [Aw h1.tr];exact h1.len⟩
 rw [Gt];split
 ·rw [Int.natAbs_neg];exact h1.sz i
 ·exact h1.sz i
theorem Qu{p:List Int}(h:Tr p):(Yy p).length=p.length:=by unfold Yy;rw [Aw (Yv h),Zr]
theorem Zoe{x y:List Int}(hx:Vp x)(hd:Dc x y=0):Vp (Oo x y):=by
 have h:=Kj (Zai hx hd)
 unfold Oo
 split
 ·exact h
 ·exact⟨fun i=>by rw [Yr];exact Zaa h.sz i,Xq _ _,Nat.le_trans (Pt _ _) h.len⟩
def Nm(s:Int×Int)(x:Int):Int×Int:=if x=0 then s else(if x=-s.2 then s.1+1 else s.1,x)
def chg(l:List Int):Int:=(l.foldl Nm (0,0)).1
theorem Zc4{α β:Type}(f:α→β→α)(a:α)(l:List β)(x:β):(l ++ [x]).foldl f a=f (l.foldl f a) x:=O7
theorem chg1_n(s:Int×Int)(x:Int):(Nm s x).1=s.1∨(Nm s x).1=s.1+1:=by
 unfold Nm;split
 ·exact .inl rfl
 ·dsimp only;split
  ·exact .inr rfl
  ·exact .inl rfl
def sgs(ls:List (List Int))(x y:Int):List Int:=ls.map fun p=>(pev p x y).sign
def sgr(ls:List (List Int)):List Int:=ls.map fun p=>(cf p (p.length-1)).sign
def sgl(ls:List (List Int)):List Int:=ls.map fun p=>if p.length%2=0 then-(cf p (p.length-1)).sign else(cf p (p.length-1)).sign
def smost(xs:List Int):Nat:=(xs.take (xs.length-1)).foldl (fun m c=>max m c.natAbs) 0
def sbound(xs:List Int):Int:=((smost xs/(cf xs (xs.length-1)).natAbs:Nat):Int)+2
def Ztf(xs:List Int):Int:=if xs.length=0 then 3 else if Bh xs then 0 else 7
def ef(z:Int×Int):Bool:=decide (512<bl z.1.natAbs) || decide (512<bl z.2.natAbs)
def chk2r(xs:List Int)(x y x2 y2:Int):Int:=if xs.length=0 then 3 else if 0<x*y2-x2*y then 3 else if Bh xs∧ef (x,y)=false∧ef (x2,y2)=false then 0 else 7
theorem Yin{xs:List Int}(h0:xs≠[])(h:Bh xs):Ztf xs=0:=by
 unfold Ztf
 rw [if_neg (fun e=>h0 (List.eq_nil_of_length_eq_zero e)),if_pos h]
theorem Zmk{xs:List Int}(h:¬cf (Zt xs) ((Zt xs).length-1)<0):Yy xs=Zt xs:=by
 unfold Yy Ic;rw [if_neg O]
theorem Zml{xs:List Int}(h0:(Zt xs).length≠0)(h:cf (Zt xs) ((Zt xs).length-1)<0):Yy xs=Zm (Zt xs) (-1):=by
 unfold Yy Ic;rw [if_pos ⟨h0,h⟩]
theorem Zc5{P:Nat→Prop} : ∀n,P n→∃m,P m∧∀k,k<m→¬P k:=by
 intro n
 induction n using Nat.strongRecOn with
 | _ n ih=>
  intro h
  by_cases hx:∃k,k<n∧P k
  ·obtain⟨k,hk,hf⟩:=hx;exact ih k hk hf
  ·exact⟨n,h,fun k hk hf=>hx ⟨k,hk,hf⟩⟩
theorem Zx8{n:Nat}(h:2≤n):∃p,2≤p∧p∣n∧∀d,2≤d→d∣n→p≤d:=by
 obtain⟨p,⟨h1,h2⟩,h3⟩:=Zc5 (P:=fun d=>2≤d∧d∣n) n ⟨h,Nat.dvd_refl n⟩
 exact⟨p,h1,h2,fun d hd hdn=>by
  rcases Nat.lt_or_ge d p with h4 | h4
  ·exact absurd ⟨hd,hdn⟩ (h3 d h4)
  ·exact h4⟩
theorem Zp8{n p:Nat}(h1:2≤p)(h2:p∣n)(h3:∀d,2≤d→d∣n→p≤d)(hn:0<n){x y:Int}(h:(p:Int)∣x*y):(p:Int)∣x∨(p:Int)∣y:=by
 by_cases hx:(p:Int)∣x
 ·exact .inl hx
 ·right
  have hg:Nat.gcd p x.natAbs=1:=by
   have hd:=Nat.gcd_dvd_left p x.natAbs
   have h0:0<Nat.gcd p x.natAbs:=Nat.gcd_pos_of_pos_left _ O
   rcases Nat.lt_or_ge (Nat.gcd p x.natAbs) 2 with h4 | h4
   ·omega
   ·have h5:=h3 _ h4 (Nat.dvd_trans hd h2)
    have h6:=Nat.le_of_dvd O hd
    exfalso
    refine hx (Int.natAbs_dvd_natAbs.1 ?_)
    rw [Int.natAbs_natCast]
    have h7:Nat.gcd p x.natAbs=p:=O
    rw [←h7];exact Nat.gcd_dvd_right _ _
  have h8:=Int.natAbs_dvd_natAbs.2 h
  rw [Int.natAbs_natCast,Int.natAbs_mul]at h8
  refine Int.natAbs_dvd_natAbs.1 ?_
  rw [Int.natAbs_natCast]
  exact(show Nat.Coprime p x.natAbs from hg).dvd_of_dvd_mul_left h8
theorem gauss{g a:List Int}(hg:Ym g=1):∀(n:Nat) (k:Int) (s:List Int),k.natAbs=n→k≠0→(∀t,k*cf a t=(ps s*ps g).c t)→∃q:List Int,∀t,cf a t=(ps q*ps g).c t:=by
 intro n
 induction n using Nat.strongRecOn with
 | _ n ih=>
  intro k s hkn hk h
  rcases Nat.lt_or_ge n 2 with h2 | h2
  ·have hkk:k*k=1:=by
    have:k=1∨k=-1:=O
    rcases this with e | e<;>subst e<;>rfl
   refine⟨Zm s k,fun t=>?_⟩
   have e:(ps (Zm s k)*ps g).c t=k*(ps s*ps g).c t:=by
    rw [PS.mul_c,PS.mul_c,←Np]
    exact Yu fun i _=>by rw [Oj,Oj,Oj,Yr];grind
   rw [e,←h,←Int.mul_assoc,hkk,Int.one_mul]
  ·obtain⟨p,p2,pd,pm⟩:=Zx8 h2
   have hpp:∀{x y:Int},(p:Int)∣x*y→(p:Int)∣x∨(p:Int)∣y:=Zp8 p2 pd pm O
   have hpk:(p:Int)∣k:=Int.natAbs_dvd_natAbs.1 (by rw [Int.natAbs_natCast,hkn];exact pd)
   have hgn:∃j,¬(p:Int)∣cf g j:=Classical.byContradiction fun hx=>by
    have:(p:Int)∣Ym g:=Hx fun i=>Classical.byContradiction fun hy=>hx ⟨i,hy⟩
    rw [hg]at this
    have:=Int.le_of_dvd O3 this
    omega
   obtain⟨j0,hj0⟩:=hgn
   obtain⟨j,hj,hjm⟩:=Zc5 (P:=fun j=>¬(p:Int)∣cf g j) j0 hj0
   have hs:∀i,(p:Int)∣cf s i:=fun i0=>Classical.byContradiction fun hi0=>by
    obtain⟨i,hi,him⟩:=Zc5 (P:=fun i=>¬(p:Int)∣cf s i) i0 hi0
    have h3:=h (i+j)
    rw [PS.mul_c]at h3
    have key:∀m,m≤i+j+1→(p:Int)∣Zy (fun k=>if k=i then 0 else(ps s).c k*(ps g).c (i+j-k)) m:=fun m=>by
     induction m with
     | zero=>intro _;exact Int.dvd_zero _
     | succ m ihm=>
      intro hm
      rw [Yi]
      refine Int.dvd_add (ihm O) ?_
      split
      ·exact Int.dvd_zero _
      ·rename_i hne
       rw [Oj,Oj]
       rcases Nat.lt_or_ge m i with h4 | h4
       ·exact Int.dvd_trans (Classical.byContradiction fun hx=>him m h4 hx) (Int.dvd_mul_right _ _)
       ·exact Int.dvd_trans (Classical.byContradiction fun hx=>hjm (i+j-m) O hx) (Int.dvd_mul_left _ _)
    have e1:Zy (fun k=>(ps s).c k*(ps g).c (i+j-k)) (i+j+1)=Zy (fun k=>if k=i then 0 else(ps s).c k*(ps g).c (i+j-k)) (i+j+1)+cf s i*cf g j:=by
     have e2:Zy (fun k=>(ps s).c k*(ps g).c (i+j-k)) (i+j+1)=Zy (fun k=>(if k=i then 0 else(ps s).c k*(ps g).c (i+j-k))+(if k=i then(ps s).c k*(ps g).c (i+j-k)else 0)) (i+j+1):=
      Yu fun k _=>by split<;>omega
     rw [e2,Fe,Dn (f:=fun k=>if k=i then(ps s).c k*(ps g).c (i+j-k)else 0) (k:=i) O (fun q _ hq=>if_neg hq),if_pos rfl,Oj,Oj,show i+j-i=j by omega]
    rw [e1]at h3
    have h4:(p:Int)∣cf s i*cf g j:=by
     have h5:cf s i*cf g j=k*cf a (i+j)-Zy (fun k=>if k=i then 0 else(ps s).c k*(ps g).c (i+j-k)) (i+j+1):=O
     rw [h5]
     exact Int.dvd_sub (Int.dvd_trans hpk (Int.dvd_mul_right _ _)) (key _ (Nat.le_refl _))
    rcases hpp h4 with h5 | h5
    ·exact hi h5
    ·exact hj h5
   obtain⟨k',hk'⟩:=hpk
   have hp0:(p:Int)≠0:=O
   refine ih k'.natAbs ?_ k' (s.map (· / (p:Int))) rfl ?_ ?_
   ·rw [←hkn,hk',Int.natAbs_mul,Int.natAbs_natCast]
    have:0<k'.natAbs:=by
     rcases Nat.eq_zero_or_pos k'.natAbs with h6 | h6
     ·rw [show k'=0 by omega]at hk';simp at hk';exact absurd hk' hk
     ·exact h6
    have:=Nat.mul_le_mul_right k'.natAbs p2
    omega
   ·intro e;rw [e]at hk';simp at hk';exact hk hk'
   ·intro t
    refine Int.eq_of_mul_eq_mul_left hp0 ?_
    rw [←Int.mul_assoc,←hk',h,PS.mul_c,PS.mul_c,←Np]
    refine Yu fun i _=>?_
    rw [Oj,Oj,Oj,Za9 _ _ O7,←Int.mul_assoc,Int.mul_ediv_cancel' (hs i)]
def ev1:List Int→Int→Int
 | [],_=>0
 | c :: r,t=>c+t*ev1 r t
def sdv:List Int→Int→List Int
 | [],_=>[]
 | [_],_=>[]
 | _ :: c :: r,t=>ev1 (c :: r) t :: sdv (c :: r) t
theorem Ziq:∀(u:List Int) (t:Int),(sdv u t).length=u.length-1
 | [],_=>rfl
 | [_],_=>rfl
 | _ :: c :: r,t=>by unfold sdv;rw [List.length_cons,Ziq (c :: r) t];simp
theorem Zvn:∀(u:List Int) (t x:Int),ev1 u x=ev1 u t+(x-t)*ev1 (sdv u t) x
 | [],t,x=>by simp [ev1,sdv]
 | [c],t,x=>by simp [ev1,sdv]
 | a :: c :: r,t,x=>by
  have ih:=Zvn (c :: r) t x
  show a+x*ev1 (c :: r) x=a+t*ev1 (c :: r) t+(x-t)*(ev1 (c :: r) t+x*ev1 (sdv (c :: r) t) x)
  rw [ih]
  generalize ev1 (c :: r) t=A
  generalize ev1 (sdv (c :: r) t) x=B
  grind
theorem Fw(a:Int)(u:List Int)(i:Nat):cf (a :: u) i=if i=0 then a else cf u (i-1):=by
 cases i with
 | zero=>rfl
 | succ i=>simp [cf]
theorem Az(i:Nat):cf [] i=0:=Yl (Nat.zero_le _)
theorem Yed:∀(u:List Int) (t:Int) (i:Nat),cf u (i+1)=cf (sdv u t) i-t*cf (sdv u t) (i+1)
 | [],t,i=>by unfold sdv;simp [Az]
 | [c],t,i=>by unfold sdv;rw [Fw,if_neg O];simp [Az]
 | a :: c :: r,t,i=>by
  unfold sdv
  rw [Fw,if_neg O,Nat.add_sub_cancel]
  cases i with
  | zero=>
   rw [Fw,if_pos rfl,Fw,if_pos rfl,Fw,if_neg O]
   show c=ev1 (c :: r) t-t*cf (sdv (c :: r) t) 0
   match r with
   | []=>simp [ev1,sdv,cf]
   | d :: r'=>unfold sdv;rw [Fw,if_pos rfl];show c=(c+t*ev1 (d :: r') t)-_;omega
  | succ i=>
   rw [Fw _ (sdv _ _) (i+1),if_neg O,Fw _ (sdv _ _),if_neg O,Nat.add_sub_cancel,Nat.add_sub_cancel]
   exact Yed (c :: r) t i
theorem Yiq:∀(u:List Int) (t:Int),cf u 0=ev1 u t-t*cf (sdv u t) 0
 | [],t=>by simp [ev1,sdv,cf]
 | [c],t=>by simp [ev1,sdv,cf]
 | a :: c :: r,t=>by
  unfold sdv
  rw [Fw,if_pos rfl,Fw,if_pos rfl]
  show a=(a+t*ev1 (c :: r) t)-t*ev1 (c :: r) t
  omega
theorem Zo4:∀(n:Nat) (u:List Int) (R:List Int),u.length=n→(∃i,cf u i≠0)→R.Nodup→(∀t∈R,ev1 u t=0)→R.length<n
 | 0,u,R,hn,hu,_,_=>by
  obtain⟨i,hi⟩:=hu
  rw [List.eq_nil_of_length_eq_zero hn,Az]at hi
  exact absurd rfl hi
 | n+1,u,[],hn,hu,_,_=>O7
 | n+1,u,t :: R,hn,hu,hd,hR=>by
  have h0:=hR t (List.mem_cons_self ..)
  have hl:=Ziq u t
  have hw:∃i,cf (sdv u t) i≠0:=Classical.byContradiction fun hx=>by
   have hz:∀i,cf (sdv u t) i=0:=fun i=>Classical.byContradiction fun hy=>hx ⟨i,hy⟩
   obtain⟨i,hi⟩:=hu
   cases i with
   | zero=>rw [Yiq u t,h0,hz]at hi;simp at hi
   | succ i=>rw [Yed u t,hz,hz]at hi;simp at hi
  have:=Zo4 n (sdv u t) R O hw (List.nodup_cons.1 hd).2 fun x hx=>by
   have h1:=hR x (List.mem_cons_of_mem _ hx)
   rw [Zvn u t x,h0,Int.zero_add]at h1
   rcases Int.mul_eq_zero.1 h1 with h2 | h2
   ·exfalso
    have:x=t:=O
    subst this
    exact(List.nodup_cons.1 hd).1 hx
   ·exact h2
  simp;omega
def kk:Nat→Nat
 | 0=>0
 | d+1=>30*kk d+1
def pts:List Int:=[0,1,2,3,4,5,6,7,8,9,10,11,12,13,14]
end Go.Sky

