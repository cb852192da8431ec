/- Rules, arithmetic and contracts: part 4. No conditions but those that each theorem names. -/
import Derived.Test.YtlnoheikolgejaaGreatLa02
import Derived.Test.YtlnoheikolgejaaGreatProg
import Derived.Test.YtlnoheikolgejaaGreatRows
import Derived.WalkKit
import Derived.ProofKit
import Derived.OpenShut
import Derived.ShutString
import Derived.ChangeOld
import Derived.Deep.Slices
import Derived.Lib.SmallJoins
set_option linter.all false
namespace Go.Sky
open Go.Proofs
def pU:Enc Tryz.prog 222 1 Ot:=Enc.flat Tryz.sizeOf222 Tryz.isAgg222 (λ_=>rfl)
def pB:Enc Tryz.prog 5 1 Zx1:=Enc.flat Tryz.sizeOf5 Tryz.isAgg5 (λ_=>rfl)
def pN:Enc Tryz.prog 3 1 Yie:=Enc.flat Tryz.sizeOf3 Tryz.isAgg3 (λ_=>rfl)
def pZ:Enc Tryz.prog 3 1 Zz:=Enc.flat Tryz.sizeOf3 Tryz.isAgg3 (λ_=>rfl)
def Zfz(args:Array Value)(w:World):(callFunc 338 args).run Tryz.prog w=((add64Entry args).run Tryz.prog w).andThen λv w'=> .ok (.value v) w':=
 run_callFunc_extern Tryz.func338 O5 O5 O5 O5 args w
def Zww(args:Array Value)(w:World):(callFunc 339 args).run Tryz.prog w=((Zcx args).run Tryz.prog w).andThen λv w'=> .ok (.value v) w':=
 run_callFunc_extern Tryz.func339 O5 O5 O5 O5 args w
end Go.Sky
theorem Go.Proofs.Tryz.ti222:Go.Proofs.Tryz.prog.info? 222=some Go.Proofs.Tryz.t222:=Go.Sky.O5
namespace Go.Sky
open Go.Proofs
end Go.Sky
theorem Go.Proofs.Tryz.ti5:Go.Proofs.Tryz.prog.info? 5=some Go.Proofs.Tryz.t5:=Go.Sky.O5
namespace Go.Sky
open Go.Proofs
end Go.Sky
theorem Go.Proofs.Tryz.ti3:Go.Proofs.Tryz.prog.info? 3=some Go.Proofs.Tryz.t3:=Go.Sky.O5
namespace Go.Sky
open Go.Proofs
def pW:Enc Tryz.prog 144 2 Yc9:=Enc.agg O3 Tryz.sizeOf144 Tryz.isAgg144 (λx=>⟨[.bool x.1,.string x.2],rfl,rfl,O10⟩)
def pV:Enc Tryz.prog 144 2 wv:=Enc.agg O3 Tryz.sizeOf144 Tryz.isAgg144 (λx=>⟨[.bool (decide (x<0)),.string (Xn x.natAbs)],rfl,rfl,O10⟩)
def pI:Enc Tryz.prog 167 2 Yif:=Enc.agg O3 Tryz.sizeOf167 Tryz.isAgg167 (λx=>⟨[.bool (decide (x.1<0)),Xw x.2],rfl,rfl,O10⟩)
def pS{α:Type} : Enc Tryz.prog 140 1 (Kx (α:=α)):=Enc.flat Tryz.sizeOf140 Tryz.isAgg140 (λ_=>rfl)
def pY:Enc Tryz.prog 342 8 iq:=Enc.agg O3 Tryz.sizeOf342 Tryz.isAgg342 (λx=>⟨[.bool (decide (x.1.1<0)),.string (Xn x.1.1.natAbs),.bool (decide (x.1.2<0)),.string (Xn x.1.2.natAbs),.bool (decide (x.2.1<0)),.string (Xn x.2.1.natAbs),.bool (decide (x.2.2<0)),.string (Xn x.2.2.natAbs)],rfl,rfl,O10⟩)
def pQ:Enc Tryz.prog 259 4 rq:=Enc.agg O3 Tryz.sizeOf259 Tryz.isAgg259 (λx=>⟨[.bool (decide (x.1<0)),.string (Xn x.1.natAbs),.bool (decide (x.2<0)),.string (Xn x.2.natAbs)],rfl,rfl,O10⟩)
def pR:Enc Tryz.prog 259 4 encQ:=Enc.agg O3 Tryz.sizeOf259 Tryz.isAgg259 (λx=>⟨[.bool x.1.1,.string x.1.2,.bool x.2.1,.string x.2.2],rfl,rfl,O10⟩)
def sh144:Tryz.prog.stoodInHeld 144=false:=O5
def eg144:Tryz.prog.eqGuardType Tryz.prog.depth 144=false:=O5
def in144(d:Nat)(w:World)(a:Bool)(s:ByteArray)(b:Bool)(t:ByteArray):(Op.equalIn (d+2) 144 (.agg #[.bool a,.string s]) (.agg #[.bool b,.string t])).run Tryz.prog w= .ok (eqW a s b t) w:=by
 have c:Tryz.prog.underlying 144=some (.struct (Tryz.prog.fieldsOf 144)):=by unfold Program.fieldsOf;rw [Tryz.underlying144]
 rw [run_equalIn_agg w (d+1) 144 _ _ c sh144];unfold Program.fieldsOf;rw [Tryz.underlying144];simp [Op.eqFields,part,Tryz.isAgg4,Tryz.isAgg9,run_equalIn_bool' _ _ _ _ _ Tryz.underlying4,run_equalIn_string _ _ _ _ _ Tryz.underlying9];unfold eqW;cases hab:(a == b)
 .simp_all
 .by_cases h:s.toList=t.toList<;>simp_all
def eql144(w:World){a:Bool}{s:ByteArray}{b:Bool}{t:ByteArray}:(binOp .eql 144 (.agg #[.bool a,.string s]) (.agg #[.bool b,.string t])).run Tryz.prog w= .ok (.bool (eqW a s b t)) w:=by rw [run_eql_struct,in144];rfl
end Go.Sky
theorem Go.Proofs.Tryz.ti4:Go.Proofs.Tryz.prog.info? 4=some Go.Proofs.Tryz.t4:=Go.Sky.O5
namespace Go.Sky
open Go.Proofs
end Go.Sky
theorem Go.Proofs.Tryz.ti25:Go.Proofs.Tryz.prog.info? 25=some Go.Proofs.Tryz.t25:=Go.Sky.O5
namespace Go.Sky
open Go.Proofs
end Go.Sky
theorem Go.Proofs.Tryz.ti27:Go.Proofs.Tryz.prog.info? 27=some Go.Proofs.Tryz.t27:=Go.Sky.O5
namespace Go.Sky
open Go.Proofs
end Go.Sky
theorem Go.Proofs.Tryz.ti36:Go.Proofs.Tryz.prog.info? 36=some Go.Proofs.Tryz.t36:=Go.Sky.O5
namespace Go.Sky
open Go.Proofs
end Go.Sky
theorem Go.Proofs.Tryz.ti61:Go.Proofs.Tryz.prog.info? 61=some Go.Proofs.Tryz.t61:=Go.Sky.O5
namespace Go.Sky
open Go.Proofs
end Go.Sky
theorem Go.Proofs.Tryz.ti116:Go.Proofs.Tryz.prog.info? 116=some Go.Proofs.Tryz.t116:=Go.Sky.O5
namespace Go.Sky
open Go.Proofs
end Go.Sky
theorem Go.Proofs.Tryz.ti140:Go.Proofs.Tryz.prog.info? 140=some Go.Proofs.Tryz.t140:=Go.Sky.O5
namespace Go.Sky
open Go.Proofs
end Go.Sky
theorem Go.Proofs.Tryz.ti144:Go.Proofs.Tryz.prog.info? 144=some Go.Proofs.Tryz.t144:=Go.Sky.O5
namespace Go.Sky
open Go.Proofs
end Go.Sky
theorem Go.Proofs.Tryz.ti178:Go.Proofs.Tryz.prog.info? 178=some Go.Proofs.Tryz.t178:=Go.Sky.O5
namespace Go.Sky
open Go.Proofs
end Go.Sky
theorem Go.Proofs.Tryz.ti259:Go.Proofs.Tryz.prog.info? 259=some Go.Proofs.Tryz.t259:=Go.Sky.O5
namespace Go.Sky
open Go.Proofs
end Go.Sky
theorem Go.Proofs.Tryz.ti24:Go.Proofs.Tryz.prog.info? 24=some Go.Proofs.Tryz.t24:=Go.Sky.O5
namespace Go.Sky
open Go.Proofs
def Yjr{a b c:Value}(d:a.oneCell'=true)(e:b.oneCell'=true)(f:c.oneCell'=true):Tryz.prog.built 24 [(0,a),(1,b),(2,c)]=some #[a,b,c]:=by refine Xr Tryz.ti24 Tryz.underlying24 rfl (pl:=[(0,1),(1,1),(2,1)]) (by simp [Tryz.ti3];try decide) ?_;simp [Instr.fill,Zi d,Zi e,Zi f,show(Value.agg #[.int .i64 0,.int .i64 0,.int .i64 0]).cells=#[.int .i64 0,.int .i64 0,.int .i64 0]from rfl]
end Go.Sky
theorem Go.Proofs.Tryz.ti40:Go.Proofs.Tryz.prog.info? 40=some Go.Proofs.Tryz.t40:=Go.Sky.O5
namespace Go.Sky
open Go.Proofs
variable{v0 v1 v2:Value}
theorem Znv(a:v0.oneCell'=true)(b:v1.oneCell'=true)(c:v2.oneCell'=true):Tryz.prog.built 40 [(0,v0),(1,v1),(2,v2)]=some #[v0,v1,v2]:=by refine Xr Tryz.ti40 Tryz.underlying40 rfl (pl:=[(0,1),(1,1),(2,1)]) (by simp [Tryz.ti3];try decide) ?_;simp [Instr.fill,Zi a,Zi b,Zi c,show(Value.agg #[.int .i64 0,.int .i64 0,.int .i64 0]).cells=#[.int .i64 0,.int .i64 0,.int .i64 0]from rfl]
theorem Yjp(a:v0.oneCell'=true)(b:v1.oneCell'=true)(c:v2.oneCell'=true):Tryz.prog.built 61 [(0,v0),(1,v1),(2,v2)]=some #[v0,v1,v2]:=by refine Xr Tryz.ti61 Tryz.underlying61 rfl (pl:=[(0,1),(1,1),(2,1)]) (by simp [Tryz.ti3];try decide) ?_;simp [Instr.fill,Zi a,Zi b,Zi c,show(Value.agg #[.int .i64 0,.int .i64 0,.int .i64 0]).cells=#[.int .i64 0,.int .i64 0,.int .i64 0]from rfl]
theorem Yjs(a:v0.oneCell'=true)(b:v1.oneCell'=true):Tryz.prog.built 116 [(0,v0),(1,v1)]=some #[v0,v1,.int .i64 0,.slice none 0 0,.slice none 0 0,.slice none 0 0]:=by refine Xr Tryz.ti116 Tryz.underlying116 rfl (pl:=[(0,1),(1,1),(2,1),(3,1),(4,1),(5,1)]) (by simp [Tryz.ti25,Tryz.ti3];try decide) ?_;simp [Instr.fill,Zi a,Zi b,show(Value.agg #[.int .i64 0,.int .i64 0,.int .i64 0,.slice none 0 0,.slice none 0 0,.slice none 0 0]).cells=#[.int .i64 0,.int .i64 0,.int .i64 0,.slice none 0 0,.slice none 0 0,.slice none 0 0]from rfl]
theorem Zgk{a b c:Value}(d:v0.oneCell'=true)(e:v1.oneCell'=true)(f:v2.oneCell'=true)(g:a.oneCell'=true)(h:b.oneCell'=true)(i:c.oneCell'=true):Tryz.prog.built 116 [(0,v0),(1,v1),(2,v2),(3,a),(4,b),(5,c)]=some #[v0,v1,v2,a,b,c]:=by refine Xr Tryz.ti116 Tryz.underlying116 rfl (pl:=[(0,1),(1,1),(2,1),(3,1),(4,1),(5,1)]) (by simp [Tryz.ti25,Tryz.ti3];try decide) ?_;simp [Instr.fill,Zi d,Zi e,Zi f,Zi g,Zi h,Zi i,show(Value.agg #[.int .i64 0,.int .i64 0,.int .i64 0,.slice none 0 0,.slice none 0 0,.slice none 0 0]).cells=#[.int .i64 0,.int .i64 0,.int .i64 0,.slice none 0 0,.slice none 0 0,.slice none 0 0]from rfl]
end Go.Sky
theorem Go.Proofs.Tryz.ti130:Go.Proofs.Tryz.prog.info? 130=some Go.Proofs.Tryz.t130:=Go.Sky.O5
namespace Go.Sky
open Go.Proofs
end Go.Sky
theorem Go.Proofs.Tryz.ti38:Go.Proofs.Tryz.prog.info? 38=some Go.Proofs.Tryz.t38:=Go.Sky.O5
namespace Go.Sky
open Go.Proofs
end Go.Sky
theorem Go.Proofs.Tryz.ti128:Go.Proofs.Tryz.prog.info? 128=some Go.Proofs.Tryz.t128:=Go.Sky.O5
namespace Go.Sky
open Go.Proofs
def Zyj{d e a b c f:Value}(g:d.oneCell'=true)(h:e.oneCell'=true)(i:f.oneCell'=true):Tryz.prog.built 130 [(0,d),(1,e),(2,.agg #[a,b,c]),(3,f)]=some #[d,e,a,b,c,f]:=by refine Xr Tryz.ti130 Tryz.underlying130 rfl (pl:=[(0,1),(1,1),(2,3),(5,1)]) (by simp [Tryz.ti128,Tryz.ti3,Tryz.ti38,Tryz.ti40];try decide) ?_;simp [Instr.fill,Zi g,Zi h,Zi i,show(Value.agg #[a,b,c]).cells=#[a,b,c]from rfl,show(Value.agg #[.slice none 0 0,.int .i64 0,.int .i64 0,.int .i64 0,.int .i64 0,.map none]).cells=#[.slice none 0 0,.int .i64 0,.int .i64 0,.int .i64 0,.int .i64 0,.map none]from rfl]
end Go.Sky
theorem Go.Proofs.Tryz.ti9:Go.Proofs.Tryz.prog.info? 9=some Go.Proofs.Tryz.t9:=Go.Sky.O5
namespace Go.Sky
open Go.Proofs
def Yev:Tryz.prog.built 144 []=some #[.bool false,.string ⟨#[]⟩]:=by refine Xr Tryz.ti144 Tryz.underlying144 rfl (pl:=[(0,1),(1,1)]) (by simp [Tryz.ti4,Tryz.ti9];try decide) ?_;simp [Instr.fill,show(Value.agg #[.bool false,.string ⟨#[]⟩]).cells=#[.bool false,.string ⟨#[]⟩]from rfl]
def Zwj{a b:Value}(c:a.oneCell'=true)(d:b.oneCell'=true):Tryz.prog.built 144 [(0,a),(1,b)]=some #[a,b]:=by refine Xr Tryz.ti144 Tryz.underlying144 rfl (pl:=[(0,1),(1,1)]) (by simp [Tryz.ti4,Tryz.ti9];try decide) ?_;simp [Instr.fill,Zi c,Zi d,show(Value.agg #[.bool false,.string ⟨#[]⟩]).cells=#[.bool false,.string ⟨#[]⟩]from rfl]
end Go.Sky
theorem Go.Proofs.Tryz.ti147:Go.Proofs.Tryz.prog.info? 147=some Go.Proofs.Tryz.t147:=Go.Sky.O5
namespace Go.Sky
open Go.Proofs
def Zyi{a b c d e f g h:Value} : Tryz.prog.built 147 [(0,.agg #[a,b]),(1,.agg #[c,d]),(2,.agg #[e,f]),(3,.agg #[g,h])]=some #[a,b,c,d,e,f,g,h]:=by refine Xr Tryz.ti147 Tryz.underlying147 rfl (pl:=[(0,2),(2,2),(4,2),(6,2)]) (by simp [Tryz.ti144];try decide) ?_;simp [Instr.fill,show(Value.agg #[a,b]).cells=#[a,b]from rfl,show(Value.agg #[c,d]).cells=#[c,d]from rfl,show(Value.agg #[e,f]).cells=#[e,f]from rfl,show(Value.agg #[g,h]).cells=#[g,h]from rfl,show(Value.agg #[.bool false,.string ⟨#[]⟩,.bool false,.string ⟨#[]⟩,.bool false,.string ⟨#[]⟩,.bool false,.string ⟨#[]⟩]).cells=#[.bool false,.string ⟨#[]⟩,.bool false,.string ⟨#[]⟩,.bool false,.string ⟨#[]⟩,.bool false,.string ⟨#[]⟩]from rfl]
def Zq8{a b c:Value}(d:a.oneCell'=true)(e:b.oneCell'=true)(f:c.oneCell'=true):Tryz.prog.built 178 [(0,a),(1,b),(2,c)]=some #[a,b,c]:=by refine Xr Tryz.ti178 Tryz.underlying178 rfl (pl:=[(0,1),(1,1),(2,1)]) (by simp [Tryz.ti140,Tryz.ti3];try decide) ?_;simp [Instr.fill,Zi d,Zi e,Zi f,show(Value.agg #[.int .i64 0,.int .i64 0,.slice none 0 0]).cells=#[.int .i64 0,.int .i64 0,.slice none 0 0]from rfl]
end Go.Sky
theorem Go.Proofs.Tryz.ti196:Go.Proofs.Tryz.prog.info? 196=some Go.Proofs.Tryz.t196:=Go.Sky.O5
namespace Go.Sky
open Go.Proofs
end Go.Sky
theorem Go.Proofs.Tryz.ti195:Go.Proofs.Tryz.prog.info? 195=some Go.Proofs.Tryz.t195:=Go.Sky.O5
namespace Go.Sky
open Go.Proofs
def Zdh{g a b c d e f h i:Value}(j:g.oneCell'=true)(k:h.oneCell'=true)(l:i.oneCell'=true):Tryz.prog.built 196 [(0,g),(1,.agg #[a,b,c]),(2,.agg #[d,e,f]),(3,h),(4,i)]=some #[g,a,b,c,d,e,f,h,i]:=by refine Xr Tryz.ti196 Tryz.underlying196 rfl (pl:=[(0,1),(1,3),(4,3),(7,1),(8,1)]) (by simp [Tryz.ti195,Tryz.ti3,Tryz.ti61];try decide) ?_;simp [Instr.fill,Zi j,Zi k,Zi l,show(Value.agg #[a,b,c]).cells=#[a,b,c]from rfl,show(Value.agg #[d,e,f]).cells=#[d,e,f]from rfl,show(Value.agg #[.nilFunc,.int .i64 0,.int .i64 0,.int .i64 0,.int .i64 0,.int .i64 0,.int .i64 0,.int .i64 0,.int .i64 0]).cells=#[.nilFunc,.int .i64 0,.int .i64 0,.int .i64 0,.int .i64 0,.int .i64 0,.int .i64 0,.int .i64 0,.int .i64 0]from rfl]
end Go.Sky
theorem Go.Proofs.Tryz.ti228:Go.Proofs.Tryz.prog.info? 228=some Go.Proofs.Tryz.t228:=Go.Sky.O5
namespace Go.Sky
open Go.Proofs
end Go.Sky
theorem Go.Proofs.Tryz.ti225:Go.Proofs.Tryz.prog.info? 225=some Go.Proofs.Tryz.t225:=Go.Sky.O5
namespace Go.Sky
open Go.Proofs
def Lb{a b:Value}(c:a.oneCell'=true)(d:b.oneCell'=true):Tryz.prog.built 228 [(0,a),(1,b)]=some #[a,b]:=by refine Xr Tryz.ti228 Tryz.underlying228 rfl (pl:=[(0,1),(1,1)]) (by simp [Tryz.ti225,Tryz.ti4];try decide) ?_;simp [Instr.fill,Zi c,Zi d,show(Value.agg #[.bool false,.slice none 0 0]).cells=#[.bool false,.slice none 0 0]from rfl]
def Zq7:Tryz.prog.built 259 []=some #[.bool false,.string ⟨#[]⟩,.bool false,.string ⟨#[]⟩]:=by refine Xr Tryz.ti259 Tryz.underlying259 rfl (pl:=[(0,2),(2,2)]) (by simp [Tryz.ti144];try decide) ?_;simp [Instr.fill,show(Value.agg #[.bool false,.string ⟨#[]⟩,.bool false,.string ⟨#[]⟩]).cells=#[.bool false,.string ⟨#[]⟩,.bool false,.string ⟨#[]⟩]from rfl]
def Ze3{a b c d:Value} : Tryz.prog.built 259 [(0,.agg #[a,b]),(1,.agg #[c,d])]=some #[a,b,c,d]:=by refine Xr Tryz.ti259 Tryz.underlying259 rfl (pl:=[(0,2),(2,2)]) (by simp [Tryz.ti144];try decide) ?_;simp [Instr.fill,show(Value.agg #[a,b]).cells=#[a,b]from rfl,show(Value.agg #[c,d]).cells=#[c,d]from rfl,show(Value.agg #[.bool false,.string ⟨#[]⟩,.bool false,.string ⟨#[]⟩]).cells=#[.bool false,.string ⟨#[]⟩,.bool false,.string ⟨#[]⟩]from rfl]
end Go.Sky
theorem Go.Proofs.Tryz.ti291:Go.Proofs.Tryz.prog.info? 291=some Go.Proofs.Tryz.t291:=Go.Sky.O5
namespace Go.Sky
open Go.Proofs
def Zyh{a b c d:Value}(e:a.oneCell'=true)(f:b.oneCell'=true)(g:c.oneCell'=true)(h:d.oneCell'=true):Tryz.prog.built 291 [(0,a),(1,b),(2,c),(3,d)]=some #[a,b,c,d]:=by refine Xr Tryz.ti291 Tryz.underlying291 rfl (pl:=[(0,1),(1,1),(2,1),(3,1)]) (by simp [Tryz.ti3];try decide) ?_;simp [Instr.fill,Zi e,Zi f,Zi g,Zi h,show(Value.agg #[.int .i64 0,.int .i64 0,.int .i64 0,.int .i64 0]).cells=#[.int .i64 0,.int .i64 0,.int .i64 0,.int .i64 0]from rfl]
end Go.Sky
theorem Go.Proofs.Tryz.ti342:Go.Proofs.Tryz.prog.info? 342=some Go.Proofs.Tryz.t342:=Go.Sky.O5
namespace Go.Sky
open Go.Proofs
def Yjq{a b c d e f g h:Value} : Tryz.prog.built 342 [(0,.agg #[a,b,c,d]),(1,.agg #[e,f,g,h])]=some #[a,b,c,d,e,f,g,h]:=by refine Xr Tryz.ti342 Tryz.underlying342 rfl (pl:=[(0,4),(4,4)]) (by simp [Tryz.ti259];try decide) ?_;simp [Instr.fill,show(Value.agg #[a,b,c,d]).cells=#[a,b,c,d]from rfl,show(Value.agg #[e,f,g,h]).cells=#[e,f,g,h]from rfl,show(Value.agg #[.bool false,.string ⟨#[]⟩,.bool false,.string ⟨#[]⟩,.bool false,.string ⟨#[]⟩,.bool false,.string ⟨#[]⟩]).cells=#[.bool false,.string ⟨#[]⟩,.bool false,.string ⟨#[]⟩,.bool false,.string ⟨#[]⟩,.bool false,.string ⟨#[]⟩]from rfl]
end Go.Sky
theorem Go.Proofs.Tryz.ti372:Go.Proofs.Tryz.prog.info? 372=some Go.Proofs.Tryz.t372:=Go.Sky.O5
namespace Go.Sky
open Go.Proofs
end Go.Sky
theorem Go.Proofs.Tryz.ti28:Go.Proofs.Tryz.prog.info? 28=some Go.Proofs.Tryz.t28:=Go.Sky.O5
namespace Go.Sky
open Go.Proofs
def Zwi{a b:Value}(c:a.oneCell'=true)(d:b.oneCell'=true):Tryz.prog.built 372 [(0,a),(1,b)]=some #[a,b]:=by refine Xr Tryz.ti372 Tryz.underlying372 rfl (pl:=[(0,1),(1,1)]) (by simp [Tryz.ti28,Tryz.ti4];try decide) ?_;simp [Instr.fill,Zi c,Zi d,show(Value.agg #[.bool false,.int .i64 0]).cells=#[.bool false,.int .i64 0]from rfl]
end Go.Sky
theorem Go.Proofs.Tryz.ti408:Go.Proofs.Tryz.prog.info? 408=some Go.Proofs.Tryz.t408:=Go.Sky.O5
namespace Go.Sky
open Go.Proofs
variable{N b0:Nat}{sc:Nat->Prop}{o:Oper}{env:Xz}{r:Value}{t:TypeId}
theorem Zjq{a b c:Value}(d:a.oneCell'=true)(e:b.oneCell'=true)(f:c.oneCell'=true):Tryz.prog.built 408 [(0,a),(1,b),(2,c)]=some #[a,b,c]:=by refine Xr Tryz.ti408 Tryz.underlying408 rfl (pl:=[(0,1),(1,1),(2,1)]) (by simp [Tryz.ti25,Tryz.ti3];try decide) ?_;simp [Instr.fill,Zi d,Zi e,Zi f,show(Value.agg #[.slice none 0 0,.slice none 0 0,.int .i64 0]).cells=#[.slice none 0 0,.slice none 0 0,.int .i64 0]from rfl]
def J{α:Sort _}{a:α} : a=a:=rfl
abbrev Qp (P:Program) (f:FuncId) (a:Array Value) (p:List Pc) (v:Value):Prop:=Cal P f a p false (G:=Unit) (λ_=>True) (λ_=>v) (λ_=>[])
abbrev rX (x y:Int):Value:= .agg #[.bool (decide (x<0)),.string (Xn x.natAbs),.bool (decide (y<0)),.string (Xn y.natAbs)]
def vB{a b:Bool}(h:a=b):Value.bool a=Value.bool b:=aL _ h
def dF{P:Program}{H:Hp}(h:Nf P N sc o env H r)(e:r= .bool false):Nf P N sc o env H (.bool false):=Zy _ h e
def dT{P:Program}{H:Hp}(h:Nf P N sc o env H r)(e:r= .bool true):Nf P N sc o env H (.bool true):=Zy _ h e
def K1{t0:Sort _}{a:t0} : a=a/\True:=⟨rfl,aA⟩
def K2{t0:Sort _}{a:t0}{t1:Sort _}{b:t1} : a=a/\b=b/\True:=⟨rfl,rfl,aA⟩
def K3{t0:Sort _}{a:t0}{t1:Sort _}{b:t1}{t2:Sort _}{c:t2} : a=a/\b=b/\c=c/\True:=⟨rfl,rfl,rfl,aA⟩
def K4{t0:Sort _}{a:t0}{t1:Sort _}{b:t1}{t2:Sort _}{c:t2}{t3:Sort _}{d:t3} : a=a/\b=b/\c=c/\d=d/\True:=⟨rfl,rfl,rfl,rfl,aA⟩
def K6{t0:Sort _}{a:t0}{t1:Sort _}{b:t1}{t2:Sort _}{c:t2}{t3:Sort _}{d:t3}{t4:Sort _}{e:t4}{t5:Sort _}{f:t5} : a=a/\b=b/\c=c/\d=d/\e=e/\f=f/\True:=⟨rfl,rfl,rfl,rfl,rfl,rfl,aA⟩
def K8{t0:Sort _}{a:t0}{t1:Sort _}{b:t1}{t2:Sort _}{c:t2}{t3:Sort _}{d:t3}{t4:Sort _}{e:t4}{t5:Sort _}{f:t5}{t6:Sort _}{g:t6}{t7:Sort _}{h:t7} : a=a/\b=b/\c=c/\d=d/\e=e/\f=f/\g=g/\h=h/\True:=⟨rfl,rfl,rfl,rfl,rfl,rfl,rfl,rfl,aA⟩
def K10{t0:Sort _}{a:t0}{t1:Sort _}{b:t1}{t2:Sort _}{c:t2}{t3:Sort _}{d:t3}{t4:Sort _}{e:t4}{t5:Sort _}{f:t5}{t6:Sort _}{g:t6}{t7:Sort _}{h:t7}{t8:Sort _}{i:t8}{t9:Sort _}{j:t9} : a=a/\b=b/\c=c/\d=d/\e=e/\f=f/\g=g/\h=h/\i=i/\j=j/\True:=⟨rfl,rfl,rfl,rfl,rfl,rfl,rfl,rfl,rfl,rfl,aA⟩
def K12{t0:Sort _}{c:t0}{t1:Sort _}{d:t1}{t2:Sort _}{e:t2}{t3:Sort _}{f:t3}{t4:Sort _}{g:t4}{t5:Sort _}{h:t5}{t6:Sort _}{i:t6}{t7:Sort _}{j:t7}{t8:Sort _}{k:t8}{t9:Sort _}{l:t9}{t10:Sort _}{a:t10}{t11:Sort _}{b:t11} : c=c/\d=d/\e=e/\f=f/\g=g/\h=h/\i=i/\j=j/\k=k/\l=l/\a=a/\b=b/\True:=⟨rfl,rfl,rfl,rfl,rfl,rfl,rfl,rfl,rfl,rfl,rfl,rfl,aA⟩
def cF169:=@Go.Proofs.Tryz.call169
def iA3:=@Go.Proofs.Tryz.isAgg3
def Zaa:=@Go.Proofs.Tryz.sizeOf116
def Pe:=@Go.Proofs.Tryz.sizeOf144
def Mw:=@Go.Proofs.Tryz.sizeOf222
def Dg:=@Go.Proofs.Tryz.sizeOf3
def Zkc:=@Go.Proofs.Tryz.underlying116
def Ztm:=@Go.Proofs.Tryz.underlying139
def Qo:=@Go.Proofs.Tryz.underlying140
def Zkb:=@Go.Proofs.Tryz.underlying151
def Bf:=@Go.Proofs.Tryz.underlying222
def Qx:=@Go.Proofs.Tryz.underlying225
def uT240:=@Go.Proofs.Tryz.underlying240
def Nr:=@Go.Proofs.Tryz.underlying25
def uT3:=@Go.Proofs.Tryz.underlying3
def Zka:=@Go.Proofs.Tryz.underlying334
def Zdq:=@Go.Proofs.Tryz.underlying36
def Zhp:=@Go.Proofs.Tryz.underlying368
def Zj9:=@Go.Proofs.Tryz.underlying369
def uT380:=@Go.Proofs.Tryz.underlying380
def uT5:=@Go.Proofs.Tryz.underlying5
def uT9:=@Go.Proofs.Tryz.underlying9
open Go.ChangeShapes Go.WideShapes Go.ChangeAt Go.RowKit Go.Joins Go.Deep
variable {P:Program} {W:World} {H:Type} {enc:TypeId×Value->H}
theorem Zgj{α:Type}[Inhabited α]{p:Nat->α->Prop} : ∀n,(∀i,i<n->∃x,p i x)->∃xs:List α,xs.length=n/\∀i x,xs[i]? = some x->p i x
 | 0,_=>⟨[],rfl,λi x h=>by simp at h⟩
 | n+1,h=>by
  obtain⟨xs,c,d⟩:=Zgj n λi hi=>h i O;obtain⟨x,e⟩:=h n O;refine⟨xs ++ [x],by simp [c],λi y a=>?_⟩;rcases bE i n with hi|hi
  .rw [cQ O]at a;exact d i y a
  .rw [dW O,c]at a;rcases aZ (i-n)with b|b
   .rw [b]at a;simp at a;subst a;rw [show i=n by omega];exact e
   .rw [bO O8]at a;cases a
theorem Zr3{r:Reach}{e:TypeId}{a:Addr}{g c:Nat}(hs:P.underlying t=some (.slice e))(b:Value.okWide P W r b0 t (.slice (some a) g c)):a.spot=none/\a.block<W.heap.size:=by
 unfold Value.okWide at b;rw [hs]at b;simp only at b;unfold Cell.okWide at b;rw [hs]at b;simp only at b;unfold Cell.ok at b;rw [hs]at b;simp only at b;obtain⟨_,_,_,i,j,d,f,_⟩:=b;refine⟨i,?_⟩;unfold World.shape? at f;rcases bE a.block W.heap.size with h|h
 .exact h
 .rw [mD h]at f;simp at f
theorem Zr2 {e:TypeId} {v:Value} {d:DataW H} {p:List MemPlace} (hs:P.underlying t=some (.slice e)) (he:P.underlying e=some (.int .i64)) (Z:P.cellsOf e=1)
  {r:Reach}  (R:Value.okWide P W r b0 t v) (h:DataW.Trod enc P W 0 (λ_=>true) true t v d p) :
  ∃l:List Int,(Yg 1 Zz v l).holds W/\∀x∈l,Me x:=by
 obtain⟨a0,f,n,rfl⟩:=okWide_slice hs R;obtain⟨Q,hf⟩:=h;rcases open_ints hs he Z hf with⟨c,_⟩|⟨a,S,M,I,c,_,hl,hm,hz,_,k,F⟩
 .simp [Value.cells]at c;obtain⟨rfl,rfl,rfl⟩:=c;exact⟨[],Br 1 Zz W,λx G=>by cases G⟩
 .simp [Value.cells]at c;obtain⟨rfl,rfl,rfl⟩:=c;obtain⟨g,w,V⟩:=a;obtain⟨s,D⟩:=Zr3 hs R;simp only at s;subst s;have a1:I.length=n:=by simpa using hz
  have m:(I.take f).length=f:=by rw [aU];omega
  refine⟨I.take f,⟨⟨some ⟨g,w,none⟩,n,by rw [m],by rw [m];exact hl,hm,.inr ⟨g,w,rfl,λi x hi j u z=>?_⟩⟩,λb Y=>by cases Y.2;exact D⟩,λx G=>?_⟩
  .have y:i<f:=by
    rcases bE i f with h|h
    .exact h
    .rw [bO (by rw [m];exact h)]at hi;cases hi
   have B:j=0:=by
    rcases j with _|j
    .rfl
    .simp [Value.cells]at z
   subst B;have q:=k i O;rw [Pb]at q;rw [jJ y]at hi;rw [aC,hi]at q;simp [Value.cells]at z;subst z;simpa using q
  .have q:=F x (fJ G);have h3:=bounds_i64 q;exact⟨O,O⟩
end Go.Sky
namespace Go.Sky
abbrev qT (z:SL×List (Int×SL)):Pc:=pp (Xw z.1) z.2
abbrev T0:SL×List (Int×SL):=((none,0,0),[])
abbrev intsT (zs:List (SL×List (Int×SL))):List (List Int):=zs.map λz=>ints z.2
set_option maxRecDepth 20000
def Mp{p:List Int}{c:Int}:(Yf p c).length<=p.length:=by unfold Yf;have:=Kl (p.map (· * c));rwa [aQ]at this
def Mt{y:Int}(h:y≠0):∀n:Nat,y^n≠0
 | 0=>by rw [cW];omega
 | n+1=>by rw [dX];exact bC (Mt h n) h
def shm(q:List Int)(c:Int)(s i:Nat):List Int:=mk (s+i) λt=>if t<s then 0 else c*cf q (t-s)
def Yeb(q:List Int)(c:Int)(s t:Nat):cf (shm q c s q.length) t=if s<=t/\t<s+q.length then c*cf q (t-s)else 0:=by
 unfold shm;rw [Mh];by_cases b:t<s
 .rw [aD (by omega:¬(s<=t/\t<s+q.length))];split
  .rfl
  .rfl
 .by_cases a:t<s+q.length
  .rw [aF a,aD b,aF (show s<=t/\t<s+q.length by omega)]
  .rw [aD a,aD (show ¬(s<=t/\t<s+q.length) by omega)]
section
variable {p q:List Int}
theorem Zh5(c:0<q.length)(b:q.length<=p.length):∀j,j<=p.length-q.length+1->∀t,p.length-j<=t->cf (Qi p q j) t=0
 | 0,_,t,d=>Yl (by unfold Qi;omega)
 | j+1,e,t,d=>by
  rcases bE t p.length with h|h
  .unfold Qi;rw [Zq1 (by rw [Np];exact h)];by_cases a:t=p.length-1-j
   .subst a;rw [aF O,show p.length-1-j-(p.length-1-j-(q.length-1))=q.length-1 by omega];omega
   .rw [Zh5 c b j O t O,cY,aD O];rfl
  .exact Yl (by rw [Np];omega)
def RestInv(p q R:List Int)(j:Nat):Prop:=Tr R/\∀t,cf R t=cf (Qi p q j) t*cf q (q.length-1)^(p.length-q.length+1-j)
end
end Go.Sky
namespace Go.Sky
section
variable {P:Program} {N:Nat} {sc:Nat->Prop} {env env':Xz} {H H':Hp}
end
end Go.Sky
namespace Go.Sky
variable{P:Program}{sc M:Nat->Prop}{ops:Array Oper}{rest:List (Nat×Nat)}{i:Nat}{b a s c:List Int}
def rterm(a b:Int):Nat->List Int
 | 0=>[1]
 | i+1=>Qc (rterm a b i) (tzl [a,b])
def rsum(p:List Int)(a b d:Int):Nat->List Int
 | 0=>[]
 | i+1=>Za2 (rsum p a b d i) (Yf (rterm a b i) (cf p i*d^(p.length-1-i)))
def hs(f:Nat->PS):Nat->PS
 | 0=>0
 | n+1=>hs f n+f n
def Yat(p:List Int):ps (tzl p)=ps p:=PS.ext' λi=>Lt p i
abbrev RW:=List (Bool×ByteArray)
abbrev qR (z:SL×RW):Pc:=Yg 2 Yc9 (Xw z.1) z.2
abbrev qZ (z:SL×List Int):Pc:=Yg 2 wv (Xw z.1) z.2
abbrev R0:SL×RW:=((none,0,0),[])
def short1(r:RW):Bool:=(decide (r.length<=14) || decide (r.length=26)) && r.all λc=>decide (c.2.size<=16)
def shortb(d:List RW):Bool:=d.all short1
def Ygy  {N:Nat}   {env:Xz} {H:Hp}  {F:Xz->Hp->Prop}   {o:Oper} {G:Type} {φ:G->Prop} {d:G->Xz} {k:G->Hp} {j e:Nat} {b:Bool} (p:ops[i]? = some o) (m:o.guard=some (j,b)) (n:(ops[j]?).bind (·.dst)=some e) (l:lk env e=some (.bool b)) (f:Nat.blt e N=true) (q:T P N sc M o env H φ d k)
  (h:∀g,φ g->LD P N sc M ops F rest (d g) (k g)) :
  LD P N sc M ops F ((i,1)::rest) env H:=r1g q p m n l f h
theorem Dm (k:Nat){f:Nat->Int} : ∀{n:Nat},k<n->(∀i,i<n->i≠k->f i=0)->Yb f n=f k
 | 0,d,_=>absurd d (cN _)
 | n+1,d,h=>by
  rw [Yk];by_cases e:k=n
  .subst e;rw [Hm λi hi=>h i O O,lA]
  .rw [h n O (λx=>e x.symm),Dm _ O (λi hi=>h i O),fN]
theorem Du (q:List Int){p:List Int}{a b:Nat}(d:∀i,a<i->cf p i=0)(e:∀i,b<i->cf q i=0):(ps p*ps q).c (a+b)=cf p a*cf q b:=by
 rw [PS.mul_c,Dm a O λi hi f=>?_]
 .rw [Px,Px,show a+b-a=b by omega]
 .rw [Px,Px];rcases bE a i with h|h
  .rw [d i h,cY]
  .rw [e (a+b-i) O,dS]
theorem Zin(s e:List Int)(c d:Int)(f:PS)(t:Nat):(ps (Aq (Yf s c) (Yf e d))*f).c t=c*(ps s*f).c t-d*(ps e*f).c t:=by rw [PS.mul_c,PS.mul_c,PS.mul_c,<-Ow,gM,<-oB,<-Ow,<-Gx];refine Yq λk _=>?_;rw [Px,Px,Px,Ay,Xx,Xx];grind
theorem Yhf{q r:List Int}(o:Tr q)(e:q≠[])(h:∀t,(ps s*ps q).c t=cf r t)(u:∀t,q.length-1<=t->cf r t=0):∀t,cf s t=0:=by
 have d:=o.mem e;have l:0<q.length:=aG.2 e;have hs:tzl s=[]:=by
  rcases Zgx (tzl s)with f|⟨w,y,f⟩
  .exact f
  .exfalso;have v:=Qa s;have j:tzl s≠[]:=by rw [f];simp
   have m:=v.mem j;have k:=Du q (p:=tzl s) (a:=(tzl s).length-1) (b:=q.length-1) (λi hi=>Yl O) (λi hi=>Yl O);have n:ps (tzl s)=ps s:=PS.ext' λi=>Lt s i;rw [n,h,u _ O]at k;rcases eU.1 k.symm with g|g
   .exact m g
   .exact d g
 exact(Mc s).1 hs
theorem Mr(h:∀t,cf s t=0)(f:PS)(t:Nat):(ps s*f).c t=0:=by rw [PS.mul_c];exact Hm λk _=>by rw [Px,h,cY]
theorem On{p q:List Int}(f:Tr p)(g:Tr q)(d:p≠[])(e:q≠[]):(Qc p q).length=p.length+q.length-1:=by have h:=aG.2 d;have j:=aG.2 e;unfold Qc;rw [Cw,Yo];right;rw [Yo,Mh,aF O,show p.length+q.length-1-1=(p.length-1)+(q.length-1) by omega,Du _ (λi hi=>Yl O) (λi hi=>Yl O)];exact bC (f.mem d) (g.mem e)
def mono(s:Nat)(c:Int):List Int:=List.replicate s 0 ++ [c]
theorem Zhd(s:Nat)(c:Int)(i:Nat):cf (mono s c) i=if i=s then c else 0:=by
 unfold mono;rw [Zcc,aV];split
 .rw [aD O];unfold cf;simp [aC,iE];split<;>rfl
 .rename_i h;split
  .rename_i d;subst d;simp [cf]
  .exact Yl O8
theorem Zio(s:Nat)(c:Int)(f:PS)(t:Nat):(ps (mono s c)*f).c t=if s<=t then c*f.c (t-s)else 0:=by
 rw [PS.mul_c];split
 .rw [Dm s O λi _ d=>by rw [Px,Zhd,aD d,cY],Px,Zhd,aF rfl]
 .exact Hm λk e=>by rw [Px,Zhd,aD O,cY]
theorem Zfi{p q:List Int}(r:0<q.length)(o:q.length<=p.length):∀j,j<=p.length-q.length+1->∃s:List Int,∀t,cf q (q.length-1)^j*cf p t=(ps s*ps q).c t+cf (Qi p q j) t
 | 0,_=>⟨[],λt=>by rw [Mr (λt=>Yl (bB _)),cW];unfold Qi;omega⟩
 | j+1,y=>by
  obtain⟨s,u⟩:=Zfi r o j O;refine⟨Aq (Yf s (cf q (q.length-1))) (Yf (mono (p.length-1-j-(q.length-1)) (cf (Qi p q j) (p.length-1-j))) (-1)),λt=>?_⟩;rw [Zin,Zio];have d:=u t;show _=_+cf (Zf7 q (Qi p q j) (p.length-1-j)) t;rw [dX];rcases bE t p.length with h|h
  .rw [Zq1 (by rw [Np];exact h)];generalize p.length-1-j-(q.length-1)=g;generalize cf (Qi p q j) (p.length-1-j)=R;generalize cf (Qi p q j) t=m at d ⊢;generalize (ps s*ps q).c t=X at d ⊢;generalize cf q (q.length-1)^j=L at d ⊢;generalize cf q (q.length-1)=l at d ⊢;have e:L*l*cf p t=l*X+m*l:=by rw [eT,dJ l,<-eT,d];grind
   rw [e];by_cases f:g<=t
   .rw [aF f,Px];by_cases n:t<g+q.length
    .rw [aF ⟨f,n⟩];omega
    .rw [aD O,Yl (p:=q) (i:=t-_) O];omega
   .rw [aD f,aD O];omega
  .have k:cf p t=0:=Yl h;have v:cf (Qi p q j) t=0:=Yl (by rw [Np];exact h);have w:cf (Zf7 q (Qi p q j) (p.length-1-j)) t=0:=Yl (by rw [Zek,Np];exact h);have x:cf q (t-(p.length-1-j-(q.length-1)))=0:=Yl O;rw [k,v,dS,fN]at d;rw [k,w,aF O,Px,x,<-d];simp
theorem Bm(p:List Int){q:List Int}(e:q≠[]):∃(k:Nat) (s:List Int),∀t,cf q (q.length-1)^k*cf p t=(ps s*ps q).c t+cf (Xs p q) t:=by
 have d:0<q.length:=aG.2 e;rcases bE p.length q.length with h|h
 .refine⟨0,[],λt=>?_⟩;rw [Mr (λt=>Yl (bB _)),cW];unfold Xs;rw [aF h];omega
 .obtain⟨s,hs⟩:=Zfi d h _ (aK _);refine⟨p.length-q.length+1,s,λt=>?_⟩;rw [hs t];unfold Xs;rw [aD O,Lt]
theorem Qz(p:List Int){q:List Int}(e:q≠[]):(Xs p q).length<q.length:=by
 have d:0<q.length:=aG.2 e;unfold Xs;split
 .assumption
 .have:=Ai (p:=Qi p q (p.length-q.length+1)) (n:=q.length-1) λi hi=>Zh5 d O _ (aK _) i O;omega
theorem Lx (q:List Int){p:List Int}(d:Tr p):Tr (Xs p q):=by
 unfold Xs;split
 .exact d
 .exact Qa _
def Sim(a b:List Int):Prop:=∃m n:Int,m≠0/\n≠0/\∀i,m*cf a i=n*cf b i
def Sim.refl(a:List Int):Sim a a:=⟨1,1,O3,O3,λ_=>rfl⟩
def Sim.symm : Sim a b->Sim b a:=λ⟨m,n,d,e,h⟩=>⟨n,m,e,d,λi=>(h i).symm⟩
theorem Sim.trans : Sim a b->Sim b c->Sim a c:=λ⟨m,n,d,e,h⟩ ⟨u,v,f,g,k⟩=>
 ⟨m*u,n*v,bC d f,bC e g,λi=>by have j:=h i;have l:=k i;grind⟩
theorem Sim.zero(h:Sim a b)(hi:cf a i=0):cf b i=0:=by
 obtain⟨m,n,e,d,h⟩:=h;have:=h i;rw [hi,dS]at this;rcases eU.1 this.symm with h|h
 .exact absurd h d
 .exact h
theorem Sim.len_le(h:Sim a b)(f:Tr b):b.length<=a.length:=by
 rcases bE a.length b.length with e|e
 .exfalso;have d:b≠[]:=aG.1 O;exact f.mem d (h.zero (Yl O))
 .exact e
def Sim.len(h:Sim a b)(d:Tr a)(e:Tr b):a.length=b.length:=jL (h.symm.len_le d) (h.len_le e)
theorem Sim.nil(h:Sim a b)(e:Tr b)(d:a=[]):b=[]:=by have:=h.len_le e;rw [d]at this;exact aE (by simpa using this)
theorem Zad(c:Int):∀(p:List Int) (g:Int),0<=g->(p.map (· * c)).foldl (λg c=>(Int.gcd g c:Int)) (g*c.natAbs)=p.foldl (λg c=>(Int.gcd g c:Int)) g*c.natAbs
 | [],g,_=>rfl
 | x::p,g,hg=>by
  rw [bN,gP,gP,<-Zad c p _ O];congr 1;have:Int.gcd (g*(c.natAbs:Int)) (x*c)=Int.gcd g x*c.natAbs:=by unfold Int.gcd;rw [cJ,cJ,eC,Nat.gcd_mul_right]
  rw [this];push_cast;rfl
theorem Zfm(p:List Int)(c:Int):Xb (p.map (· * c))=Xb p*c.natAbs:=by have:=Zad c p 0 (fV _);rw [cY]at this;exact this
theorem Hf(p:List Int)(i:Nat):cf (Yi p) i*Xb p=cf p i:=by rw [Aa];exact iA (Ma p i)
def Zxc:Yi []=[]:=rfl
def Bq{p:List Int}(h:Tr p)(d:p≠[]):Xb p≠0:=λe=>h.mem d ((Za1 p).1 e _)
theorem Kr{p:List Int}(h:Tr p)(e:p≠[]):Xb (Yi p)=1:=by
 have j:=Bq h e;have d:=Zfm (Yi p) (Xb p);rw [show(Yi p).map (· * Xb p)=p from Lg (by rw [aQ,Zw]) λi _=>by rw [Zbj O7];exact Hf p i]at d;have k:=Ni p;have f:Xb p*(Xb (Yi p)-1)=0:=by rw [oA,kM,dJ];have:((Xb p).natAbs:Int)=Xb p:=O;rw [this]at d;omega
 rcases eU.1 f with g|g<;>omega
theorem Zd7{p:List Int}(h:Xb p=1):Yi p=p:=Lg (Zw p) λi _=>by rw [Aa,h,Int.ediv_one]
theorem Ds{p:List Int}(h:Tr p):Yi (Yi p)=Yi p:=by
 by_cases d:p=[]
 .subst d;rfl
 .exact Zd7 (Kr h d)
theorem Qe{p:List Int}(h:Tr p):Sim (Yi p) p:=by
 by_cases d:p=[]
 .subst d;exact Sim.refl _
 .exact⟨Xb p,1,Bq h d,O3,λi=>by rw [fA,dJ];exact Hf p i⟩
def Xa(p:List Int):List Int:=Ku (Yi p)
theorem Zom{x y:List Int}(q:Tr x)(r:Tr y)(t:x≠[])(f:Xb x=1)(g:Xb y=1)(h:Sim x y):x=y\/∀i,cf x i=- cf y i:=by
 have d:=h.len q r;obtain⟨m,n,o,p,e⟩:=h;have j:=Zfm x m;have k:=Zfm y n;rw [show x.map (· * m)=y.map (· * n)from Lg (by simp [d]) λi _=>by rw [Zbj O7,Zbj O7,dJ,dJ (cf y i)];exact e i,k,f,g]at j
 have l:m=n\/m=-n:=O;rcases l with rfl|rfl
 .exact .inl (Lg d λi _=>gO o (e i))
 .exact .inr λi=>gO p (by have:=e i;grind)
theorem Dw(g:List Int)(i:Nat):cf (Ku g) i=if g.length≠0/\cf g (g.length-1)<0 then-cf g i else cf g i:=by
 unfold Ku;split
 .rw [Xx];omega
 .rfl
theorem Ok{g:List Int}(h:Tr g):Tr (Ku g):=by
 unfold Ku;split
 .exact Ob
 .exact h
theorem Kc(g:List Int):Sim (Ku g) g:=by
 by_cases h:g.length≠0/\cf g (g.length-1)<0
 .exact⟨-1,1,O3,O3,λi=>by rw [Dw,aF h];omega⟩
 .exact⟨1,1,O3,O3,λi=>by rw [Dw,aD h]⟩
theorem Zqb:∀(f:Nat) {a b:List Int},Tr a->Tr b->Tr (eu f a b)
 | 0,_,_,h,_=>h
 | f+1,a,b,d,e=>by
  unfold eu;split
  .exact d
  .exact Zqb f e (Yy (Lx _ d))
theorem Zve:∀(f:Nat) {a b:List Int},Tr a->Tr b->Yi a=a->Yi b=b->Yi (eu f a b)=eu f a b
 | 0,_,_,_,_,h,_=>h
 | f+1,a,b,d,j,e,g=>by
  unfold eu;split
  .exact e
  .exact Zve f j (Yy (Lx _ d)) g (Ds (Lx _ d))
theorem Zhr{p q:List Int}(d:Tr p)(e:Tr q):Tr (gA p q):=by unfold gA;split<;>exact Yy ‹_›
theorem Zhq{p q:List Int}(d:Tr p)(e:Tr q):Tr (gB p q):=by unfold gB;split<;>exact Yy ‹_›
theorem Ya2{F:Nat}{p q:List Int}(d:Tr p)(e:Tr q):Om F p q=Xa (eu F (gA p q) (gB p q)):=by
 unfold Om Xa;rw [Zve F (Zhr d e) (Zhq d e)]
 .unfold gA;split
  .exact Ds e
  .exact Ds d
 .unfold gB;split
  .exact Ds d
  .exact Ds e
def chk:Nat->Nat->Nat->Nat->Nat->Bool
 | 0,_,d,_,_=>Nat.beq d 0
 | f+1,e,d,A,B=>Nat.beq d 0 || (bif Nat.blt e d then chk f d e B A else
   Nat.ble (A+(e-d+1)*B) 65537 && (List.range d).all λl=>chk f d l B (bif Nat.ble l 1 then 2 else A+(e-d+1)*B))
theorem cp_nf{p:List Int}{x y z:Int}{n m:Nat}(d:Sz n p)(k:bl x.natAbs<=m)(l:bl y.natAbs<=m)(o:bl z.natAbs<=m)(j:p.length<=25)(h:n+24*(m+1)+8<=65536):Qk p+(p.length-1)*(Qk [x,y,z]+1)+8<=65536:=by
 have e:=Pd d;have f:Qk [x,y,z]<=m:=by simp only [Qk];omega
 have g:(p.length-1)*(Qk [x,y,z]+1)<=24*(m+1):=aT O O;omega
theorem cp_not{p:List Int}{x y z:Int}(h:Qk p+(p.length-1)*(Qk [x,y,z]+1)+8<=65536):¬Zjd p x y z:=λd=>by have:=d.2;omega
theorem Zc8(p:List Int)(x y z:Int):(Le p x y z).length<=p.length:=by
 unfold Le;split
 .exact bB _
 .refine aB (Kl _) ?_;rw [Za8];omega
theorem Zps(x y:Int):Nu x y∣x:=by
 unfold Nu;split
 .exact Int.neg_dvd.2 (kF ..)
 .exact kF ..
theorem Zit(x y:Int):Nu x y∣y:=by
 unfold Nu;split
 .exact Int.neg_dvd.2 (iS ..)
 .exact iS ..
def s8(l:List Int):Prop:=∀x∈l,(Xn x.natAbs).size<=8
abbrev Z0:SL×List Int:=((none,0,0),[])
theorem vp_eu:∀(f:Nat) {a b:List Int},Vp a->Vp b->eok f a b->Vp (eu f a b)
 | 0,_,_,h,_,_=>h
 | f+1,a,b,d,e,h=>by
  unfold eu;split
  .exact d
  .rcases h with h|h
   .contradiction
   .exact vp_eu f e (Lv (Zan d h.1)) h.2
theorem Zyw{g:List Int}(h:Vp g):Vp (Ku g):=by
 unfold Ku;split
 .refine⟨λi=>by rw [Xx];exact Az h.sz i,Ob,aB Mp h.len⟩
 .exact h
def Yfn{F:Nat}{p q:List Int}(d:Vp p)(e:Vp q)(h:eok F (gA p q) (gB p q)):Vp (Om F p q):=Zyw (vp_eu F (vp_gA d e) (vp_gB d e) h)
def pevn(p:List Int)(x y:Int)(n:Nat):Int:=Yb (λi=>cf p i*(x^i*y^(n-1-i))) n
def dn(p:List Int)(y:Int):Int:=y^(p.length-1)
def Fa(q:List Int):Qc [] q=[]:=Zd8 (.inl rfl)
def Zc3(p:List Int):Qc p []=[]:=Zd8 (.inr rfl)
theorem Yb0(N D:Int):N/Nu N D*D=N*(D/Nu N D):=by have e:=iA (Zps N D);have f:=iA (Zit N D);generalize N/Nu N D=n at *;generalize D/Nu N D=d at *;generalize Nu N D=g at *;subst e f;grind
theorem Zxs{N D:Int}(h:0<D):0<D/Nu N D:=by
 have f:Nu N D=(Int.gcd N D:Int):=aD O;have g:=iA (Zit N D);rw [f]at g ⊢;generalize D/(Int.gcd N D:Int)=d at *;rcases jE 0 d with e|e
 .exact e
 .exfalso;have:d*(Int.gcd N D:Int)<=0:=gL e O;omega
section
variable {p q:List Int}
theorem Zdd(v:Tr p)(m:Tr q)(h:p≠[])(e:q≠[]):∀j,j<=p.length->∀t,cf (Qn (Qc p q) q j) t=(ps (p.take (p.length-j))*ps q).c t
 | 0,_,t=>by rw [jB,bM];exact Ki p q t
 | j+1,B,t=>by
  have w:=Zdd v m h e j O;have D:=aG.2 h;have F:=aG.2 e;have u:=On v m h e;have y:Qn (Qc p q) q (j+1)=Zi9 q (Qn (Qc p q) q j) (p.length-1-j):=by show Zi9 q _ _=_;rw [u];congr 1;omega
  have n:=m.mem e;have d:cf (Qn (Qc p q) q j) (p.length-1-j+q.length-1)=cf p (p.length-1-j)*cf q (q.length-1):=by rw [w,show p.length-1-j+q.length-1=(p.length-1-j)+(q.length-1) by omega,Du _ (λi hi=>by rw [Gj,aD O]) (λi hi=>Yl O),Gj,aF O]
  have l:dq q (Qn (Qc p q) q j) (p.length-1-j)=cf p (p.length-1-j):=by unfold dq;rw [d];exact nA _ n
  have z:(ps (p.take (p.length-j))*ps q).c t=(ps (p.take (p.length-(j+1)))*ps q).c t+(ps (mono (p.length-1-j) (cf p (p.length-1-j)))*ps q).c t:=by
   rw [PS.mul_c,PS.mul_c,PS.mul_c,<-Gx];refine Yq λk _=>?_;rw [Px,Px,Px,Px,Gj,Gj,Zhd];by_cases f:k=p.length-1-j
   .rw [aF O,aD O,aF f,<-f];omega
   .rw [aD f];by_cases o:k<p.length-j
    .rw [aF o,aF O];omega
    .rw [aD o,aD O];omega
  rw [y];unfold Zi9;rw [Mh,Ba,u,l,w,z,Zio,Px];by_cases r:t<p.length+q.length-1
  .rw [aF r];by_cases g:p.length-1-j<=t
   .rw [aF g];by_cases x:t<p.length-1-j+q.length
    .rw [aF ⟨g,x⟩];omega
    .rw [aD O,Yl (p:=q) O];omega
   .rw [aD g,aD O];omega
  .rw [aD r,PS.mul_c];refine(Hm λk _=>?_).symm;rw [Px,Px,Gj];split
   .rw [Yl (p:=q) O,dS]
   .rw [cY]
theorem Zud(j:Tr p)(l:Tr q)(e:q≠[]):pdv (Qc p q) q/\Kh (Qc p q) q=p:=by
 by_cases d:p=[]
 .subst d;rw [Fa];exact⟨.inl rfl,rfl⟩
 have u:=aG.2 d;have v:=aG.2 e;have r:=On j l d e;have n:=l.mem e;have o:∀k,k<=p.length-1->cf (Qn (Qc p q) q (p.length-1-k)) (k+q.length-1)=cf p k*cf q (q.length-1):=λk f=>by rw [Zdd j l d e _ O,show k+q.length-1=k+(q.length-1) by omega,Du _ (λi hi=>by rw [Gj,aD O]) (λi hi=>Yl O),Gj,aF O]
 have h:(Qc p q).length-q.length=p.length-1:=O;have m:Qc p q≠[]:=aG.1 O;refine⟨.inr ⟨O,λk f=>?_,?_⟩,?_⟩
 .unfold Kf;rw [h]at f ⊢;rw [o k f];exact Int.mul_emod_left _ _
 .rw [h,show p.length-1+1=p.length by omega];refine(Mc _).2 λi=>?_;rw [Zdd j l d e _ (aK _),kY,dY];exact Mr (λt=>Yl (bB _)) _ _
 .rw [Zo7 m];unfold Yaw;rw [h,show p.length-1+1=p.length by omega,Il (g:=cf p) λk f=>?_,Zg6,Cw j];unfold Zvr dq;rw [h,o k O];exact nA _ n
end
def Dv(g a:List Int):Prop:=∃(k:Int) (s:List Int),k≠0/\∀t,k*cf a t=(ps s*ps g).c t
theorem Zpg(f:PS)(t:Nat):(ps [1]*f).c t=f.c t:=by rw [PS.mul_c,Dm 0 O λi _ d=>by rw [Px,Yl (p:=[1]) O8,cY],Px,show cf [1] 0=1 from rfl,fA,jB]
theorem Dv.refl(a:List Int):Dv a a:=⟨1,[1],O3,λt=>by rw [Zpg,fA,Px]⟩
theorem Dv.nil(g:List Int):Dv g []:=⟨1,[],O3,λt=>by rw [Mr (λt=>Yl (bB _)),Yl (bB _)];rfl⟩
theorem Dv.sim{g:List Int} : Dv g a->Sim a b->Dv g b:=λ⟨k,s,d,h⟩ ⟨m,n,j,f,e⟩=>
 ⟨k*n,Yf s m,bC d f,λt=>by rw [PS.mul_c,show(λi=>(ps (Yf s m)).c i*(ps g).c (t-i))=λi=>m*((ps s).c i*(ps g).c (t-i))from oF λi=>by rw [Px,Px,Px,Xx];grind,Ow,<-PS.mul_c,<-h,Int.mul_assoc,<-e];grind⟩
theorem Dv.lin{g:List Int}(r:Dv g a)(w:Dv g b)(s:List Int)(L:Int)(o:L≠0)(h:∀t,L*cf c t=(ps s*ps a).c t+cf b t):Dv g c:=by
 obtain⟨k,u,x,j⟩:=r;obtain⟨m,v,y,l⟩:=w;refine⟨L*(k*m),Za2 (Yf (Qc s u) m) (Yf v k),bC o (bC x y),λt=>?_⟩;have z:ps g=ps g:=rfl;have d:k*(ps s*ps a).c t=(ps (Qc s u)*ps g).c t:=by rw [Ygz,PS.mul_assoc',PS.mul_c,PS.mul_c,<-Ow];refine Yq λi _=>?_;rw [<-j,Px,Px];grind
 have e:(ps (Za2 (Yf (Qc s u) m) (Yf v k))*ps g).c t=m*(ps (Qc s u)*ps g).c t+k*(ps v*ps g).c t:=by rw [PS.mul_c,PS.mul_c,PS.mul_c,<-Ow,<-Ow,<-Gx];refine Yq λi _=>?_;rw [Px,Px,Px,Px,Zv6,Xx,Xx];grind
 have f:=h t;have n:=l t;rw [e,<-d,<-n];generalize (ps s*ps a).c t=X at *;generalize cf c t=C at *;generalize cf b t=B at *;have:L*(k*m)*C=k*m*(L*C):=O4;rw [this,f];grind
theorem eu_dv:∀(f:Nat) {a b:List Int},Tr a->Tr b->eok f a b->Dv (eu f a b) a/\Dv (eu f a b) b
 | 0,a,b,l,g,h=>by rw [show b=[]from h];exact⟨Dv.refl _,Dv.nil _⟩
 | f+1,a,b,l,g,h=>by
  by_cases d:b=[]
  .subst d;rw [Zft];exact⟨Dv.refl _,Dv.nil _⟩
  .rcases h with h|h
   .exact absurd h d
   .have e:eu (f+1) a b=eu f b (Yi (Xs a b)):=by
     conv=>lhs;unfold eu
     rw [aD d]
    rw [e];have t1:=Lx b l;obtain⟨j,m⟩:=eu_dv f g (Yy t1) h.2;obtain⟨k,s,hs⟩:=Bm a d;exact⟨j.lin (m.sim (Qe t1)) s _ (Mt (g.mem d) k) hs,j⟩
theorem Dv.of_sim{g d:List Int} : Dv g a->Sim g d->Dv d a:=λ⟨k,s,f,h⟩ ⟨m,n,j,l,e⟩=>
 ⟨m*k,Yf s n,bC j f,λt=>by rw [eT,h,PS.mul_c,PS.mul_c,<-Ow];refine Yq λi _=>?_;rw [Px,Px,Px,Px,Xx];have:=e (t-i);grind⟩
theorem Dv.zero(f:Tr a)(h:Dv [] a):a=[]:=by
 obtain⟨k,s,g,h⟩:=h;rw [<-Cw f,Mc];intro i;have e:=h i;rw [PS.mul_comm',Mr (λt=>Yl (bB _))]at e;rcases eU.1 e with d|d
 .exact absurd d g
 .exact d
theorem Zby{F:Nat}{p q:List Int}(g:Tr p)(j:Tr q)(h:eok F (gA p q) (gB p q)):Dv (Om F p q) p/\Dv (Om F p q) q:=by
 have k:=Zhr g j;have l:=Zhq g j;obtain⟨d,e⟩:=eu_dv F k l h;have hs:Sim (eu F (gA p q) (gB p q)) (Om F p q):=(Kc _).symm;have d:=d.of_sim hs;have e:=e.of_sim hs;by_cases f:p.length<q.length
 .rw [show gA p q=Yi q from aF f]at d;rw [show gB p q=Yi p from aF f]at e;exact⟨e.sim (Qe g),d.sim (Qe j)⟩
 .rw [show gA p q=Yi p from aD f]at d;rw [show gB p q=Yi q from aD f]at e;exact⟨d.sim (Qe g),e.sim (Qe j)⟩
def Zds (F:Nat){p q:List Int}(d:Tr p)(e:Tr q):Tr (Om F p q):=Ok (Zqb F (Zhr d e) (Zhq d e))
theorem Zro(p:List Int){c:Int}(h:c≠0):Sim p (Yf p c):=⟨c,1,h,O3,λi=>by rw [Xx];grind⟩
def fin8(d A:Nat):Bool:=Nat.ble d 2 || Nat.ble (64+(9-d)*A) 65536
def chk2:Nat->Nat->Nat->Nat->Nat->Bool
 | 0,d,_,A,_=>fin8 d A
 | f+1,d,e,A,B=>bif Nat.beq e 0 then fin8 d A else bif Nat.blt d e then chk2 f e d B A else
   (List.range e).all λl=>chk2 f e l B (bif Nat.ble l 1 then 2 else A+(d-e+1)*B)
def Av{g:List Int}(h:Tr g):(Ku g).length=g.length:=(Kc g).len (Ok h) h
theorem Zga(g:List Int):Xb (Ku g)=Xb g:=by
 have d:Xb (Ku g)∣Xb g:=Fb λi=>by
  have h:=Ma (Ku g) i;rw [Dw]at h;split at h
  .exact mX.1 h
  .exact h
 have e:Xb g∣Xb (Ku g):=Fb λi=>by
  rw [Dw];split
  .exact mX.2 (Ma g i)
  .exact Ma g i
 exact Int.dvd_antisymm (Ni _) (Ni _) d e
theorem Zih{F:Nat}{p q:List Int}(f:Tr p)(g:Tr q)(d:Om F p q≠[]):Xb (Om F p q)=1:=by rw [Ya2 f g]at d ⊢;unfold Xa at d ⊢;rw [Zga];refine Kr (Zqb F (Zhr f g) (Zhq f g)) λe=>d ?_;rw [e];rfl
end Go.Sky
namespace Go.Sky
variable{p xs:List Int}
def Bi(xs:List Int):Prop:=xs.length=0\/(xs.length+2)*(xs.length+2)*(Qk xs+16)<=65536
instance (xs:List Int):Decidable (Bi xs):=by unfold Bi;infer_instance
def sqf(F:Nat)(xs:List Int):List Int:=Kh (Xa xs) (Om F (Xa xs) (Ys (Xa xs)))
def Yf4(F:Nat)(xs:List Int):Prop:=(∀i,i<xs.length->bl (cf (Xa xs) (i+1)*((i:Int)+1)).natAbs<=65536)/\¬Zk6 (Xa xs) (Ys (Xa xs))/\eok F (gA (Xa xs) (Ys (Xa xs))) (gB (Xa xs) (Ys (Xa xs)))/\
 Db (Xa xs) (Om F (Xa xs) (Ys (Xa xs)))=0/\pdv (Xa xs) (Om F (Xa xs) (Ys (Xa xs)))
def Pw(x y:List Int):List Int:=if cf y (y.length-1)<0/\(x.length-y.length+1)%2=1 then Yi (Xs x y)else Yf (Yi (Xs x y)) (-1)
def cok:Nat->List Int->List Int->Prop
 | 0,_,y=>y=[]
 | f+1,x,y=>y=[]\/(Db x y=0/\y.length<=x.length/\cok f y (Pw x y))
def Nc:Nat->List Int->List Int->List (List Int)
 | 0,x,_=>[x]
 | f+1,x,y=>if y=[]then [x]else x::Nc f y (Pw x y)
theorem Dq(f:Nat)(x:List Int):Nc f x []=[x]:=by cases f<;>rfl
theorem Zjf{f:Nat}{a b:List Int}(h:cok f a b)(c:b≠[]):∃g,f=g+1/\Db a b=0/\b.length<=a.length/\cok g b (Pw a b)/\Nc f a b=a::Nc g b (Pw a b):=by
 cases f with
 | zero=>exact absurd h c
 | succ g=>
  rcases h with h|h
  .exact absurd h c
  .exact⟨g,rfl,h.1,h.2.1,h.2.2,by show(if b=[]then [a]else _)=_;rw [aD c]⟩
def chn(F:Nat)(xs:List Int):List (List Int):=Nc F (sqf F xs) (Yi (Ys (sqf F xs)))
def Ce(F:Nat)(xs:List Int):Prop:=Yf4 F xs/\(∀i,i<xs.length->bl (cf (sqf F xs) (i+1)*((i:Int)+1)).natAbs<=65536)/\cok F (sqf F xs) (Yi (Ys (sqf F xs)))
theorem Zyv(h:Vp p):Vp (Xa p):=by
 unfold Xa;have a:=Lv h;refine⟨λi=>?_,Ok a.tr,by rw [Av a.tr];exact a.len⟩;rw [Dw];split
 .rw [iF];exact a.sz i
 .exact a.sz i
theorem Qy(h:Tr p):(Xa p).length=p.length:=by unfold Xa;rw [Av (Yy h),Zw]
theorem Zn7{x y:List Int}(b:Vp x)(a:Db x y=0):Vp (Pw x y):=by
 have h:=Lv (Zan b a);unfold Pw;split
 .exact h
 .exact⟨λi=>by rw [Xx];exact Az h.sz i,Ob,aB Mp h.len⟩
def Ou(s:Int×Int)(x:Int):Int×Int:=if x=0 then s else(if x=-s.2 then s.1+1 else s.1,x)
def chg(l:List Int):Int:=(l.foldl Ou (0,0)).1
def Zc9{α β:Type}(f:α->β->α)(a:α)(l:List β)(x:β):(l ++ [x]).foldl f a=f (l.foldl f a) x:=O7
theorem chg1_n(s:Int×Int)(x:Int):(Ou s x).1=s.1\/(Ou s x).1=s.1+1:=by
 unfold Ou;split
 .exact .inl rfl
 .dsimp only;split
  .exact .inr rfl
  .exact .inl rfl
def sgs(a:List (List Int))(x y:Int):List Int:=a.map λp=>(pev p x y).sign
def sgr(a:List (List Int)):List Int:=a.map λp=>(cf p (p.length-1)).sign
def sgl(a:List (List Int)):List Int:=a.map λp=>if p.length%2=0 then-(cf p (p.length-1)).sign else(cf p (p.length-1)).sign
def smost(xs:List Int):Nat:=(xs.take (xs.length-1)).foldl (λm c=>max m c.natAbs) 0
def sbound(xs:List Int):Int:=((smost xs/(cf xs (xs.length-1)).natAbs:Nat):Int)+2
def Zsz(xs:List Int):Int:=if xs.length=0 then 3 else if Bi xs then 0 else 7
def ef(z:Int×Int):Bool:=decide (512<bl z.1.natAbs) || decide (512<bl z.2.natAbs)
def chk2r(xs:List Int)(x y a b:Int):Int:=if xs.length=0 then 3 else if 0<x*b-a*y then 3 else if Bi xs/\ef (x,y)=false/\ef (a,b)=false then 0 else 7
theorem Yjd(a:xs≠[])(h:Bi xs):Zsz xs=0:=by unfold Zsz;rw [aD (λe=>a (aE e)),aF h]
theorem Zuj(h:¬cf (Yi xs) ((Yi xs).length-1)<0):Xa xs=Yi xs:=by unfold Xa Ku;rw [aD O]
theorem Zuk(a:(Yi xs).length≠0)(h:cf (Yi xs) ((Yi xs).length-1)<0):Xa xs=Yf (Yi xs) (-1):=by unfold Xa Ku;rw [aF ⟨a,h⟩]
end Go.Sky

