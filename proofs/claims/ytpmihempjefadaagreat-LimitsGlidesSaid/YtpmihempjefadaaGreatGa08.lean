/- Rules, arithmetic and contracts: part 9. No conditions but those that each theorem names. -/
import Derived.Test.YtpmihempjefadaaGreatGa07
set_option linter.all false
set_option maxHeartbeats 4000000
namespace Go.Sky
open Go.RowKit Below
variable {P:Program} {N:Nat} {sc:Nat->Prop} {env env':Xu} {H H':Hp} {Q Q':Exit->Act->World->Prop} {M:Nat->Prop}
class EnI (vs:List Value) (env:outParam Xu):Prop where h:Pa 0 vs=env
class PnI (vs:List Pc) (H:outParam Hp):Prop where h:Qc 1 vs=H
section
variable {a b c d e f g i j:Value} {p q r s t u v w x y:Pc}
instance:EnI [] []:=⟨rfl⟩
instance:EnI [a] [(0,a)]:=⟨rfl⟩
instance:EnI [a,b] [(0,a),(1,b)]:=⟨rfl⟩
instance:EnI [a,b,c] [(0,a),(1,b),(2,c)]:=⟨rfl⟩
instance:EnI [a,b,c,d] [(0,a),(1,b),(2,c),(3,d)]:=⟨rfl⟩
instance:EnI [a,b,c,d,e] [(0,a),(1,b),(2,c),(3,d),(4,e)]:=⟨rfl⟩
instance:EnI [a,b,c,d,e,f] [(0,a),(1,b),(2,c),(3,d),(4,e),(5,f)]:=⟨rfl⟩
instance:EnI [a,b,c,d,e,f,g] [(0,a),(1,b),(2,c),(3,d),(4,e),(5,f),(6,g)]:=⟨rfl⟩
instance:PnI [] []:=⟨rfl⟩
instance:PnI [p] [(1,p)]:=⟨rfl⟩
instance:PnI [p,q] [(1,p),(2,q)]:=⟨rfl⟩
instance:PnI [p,q,r] [(1,p),(2,q),(3,r)]:=⟨rfl⟩
instance:PnI [p,q,r,s] [(1,p),(2,q),(3,r),(4,s)]:=⟨rfl⟩
instance:PnI [p,q,r,s,t] [(1,p),(2,q),(3,r),(4,s),(5,t)]:=⟨rfl⟩
instance:PnI [p,q,r,s,t,u] [(1,p),(2,q),(3,r),(4,s),(5,t),(6,u)]:=⟨rfl⟩
instance:PnI [p,q,r,s,t,u,v] [(1,p),(2,q),(3,r),(4,s),(5,t),(6,u),(7,v)]:=⟨rfl⟩
instance:PnI [p,q,r,s,t,u,v,w] [(1,p),(2,q),(3,r),(4,s),(5,t),(6,u),(7,v),(8,w)]:=⟨rfl⟩
instance:PnI [p,q,r,s,t,u,v,w,x] [(1,p),(2,q),(3,r),(4,s),(5,t),(6,u),(7,v),(8,w),(9,x)]:=⟨rfl⟩
instance:PnI [p,q,r,s,t,u,v,w,x,y] [(1,p),(2,q),(3,r),(4,s),(5,t),(6,u),(7,v),(8,w),(9,x),(10,y)]:=⟨rfl⟩
end
class RoL (l:List Pc):Prop where h:AllRo l
instance:RoL []:=⟨aA⟩
instance {p:Pc} {r:List Pc} [h:RoI p] [h2:RoL r]:RoL (p::r):=⟨⟨h.h,h2.h⟩⟩
theorem Zd {f:FuncId} {fn:Func} {c:Code} {vs:List Value} {pre:List Pc} {al:Bool} {G:Type} {φ:G->Prop} {val:G->Value} {l:G->List Pc} {N:Nat} (B:P.funcs[f]? = some fn) (o:fn.ntmps=N)
  [he:EnI vs env] [hp:PnI pre H] [hro:RoL pre] (h:∀k (sc:Nat->Prop),Hw k sc->(∀b,sc b->k.heap.size<=b\/∃q∈pre,q.fp b)->E P N sc c (Zhy P fn k pre al φ val l) env ((0,Xm k (λ_=>False))::H))
  (z:fn.body=some c:=by rfl) (m:Nat.ble vs.length N=true:=by rfl):Cal P f vs.toArray pre al φ val l:=
 cal_in B z o m hro.h λk sc D n=>by rw [he.h,hp.h];exact h k sc ⟨D⟩ n
class RvI (P:Program) (N:Nat) (sc:Nat->Prop) (env:Xu) (H:Hp) (r:ResultVar) (v:outParam Value):Prop where h:RV P N sc env H r v
instance {t:Nat} {v:Value} [h:Som (lk2 env t) v]:RvI P N sc env H (.tmp t) v:=⟨h.l⟩
instance {c b i k:Nat} {t tb:TypeId} {l:List Value} [h:Som (lk2 env c) (.pointer (some ⟨b,0,none⟩))] [h1:Agg P t true] [h2:BxI H b i tb l] [h3:Siz P t k] [h4:TB (lenq l k)]:RvI P N sc env H (.cell c t) (.agg l.toArray):=⟨Km _ h.l h2.h h1.h h3.h (Zc4 h4.h)⟩
instance {c b i:Nat} {t tb:TypeId} {v:Value} [h:Som (lk2 env c) (.pointer (some ⟨b,0,none⟩))] [h1:Agg P t false] [h2:BxI H b i tb [v]]:RvI P N sc env H (.cell c t) v:=⟨Aa _ h.l h2.h h1.h⟩
section
variable {fn:Func} {pre:List Pc} {al:Bool} {G:Type} {φ:G->Prop} {val:G->Value} {its:G->List Pc} {w0:World} {r1 r2 r3:ResultVar} {v1 v2 v3:Value}
def Xg(k:∀b,sc b->w0.heap.size<=b\/∃q∈pre,q.fp b)(g:G)(l:fn.results=#[r1])[h1:RvI P N sc env H r1 v1][h0:Som (lk2 H 0) (Xm w0 (λ_=>False))](n:val g=v1)(m:φ g)(h:Give H al (its g)) :
  X N sc .ret (Zhy P fn w0 pre al φ val its) env H:=Zmc (.inl rfl) k g v1 (λa w hs=>Zd1 hs l h1.h) n m h0.l h
def Na(k:∀b,sc b->w0.heap.size<=b\/∃q∈pre,q.fp b)(g:G)(l:fn.results=#[r1,r2])[h1:RvI P N sc env H r1 v1][h2:RvI P N sc env H r2 v2][h0:Som (lk2 H 0) (Xm w0 (λ_=>False))](n:val g= .tuple #[v1,v2])(m:φ g)(h:Give H al (its g)) :
  X N sc .ret (Zhy P fn w0 pre al φ val its) env H:=Zmc (.inl rfl) k g (.tuple #[v1,v2]) (λa w hs=>Zx7 hs l h1.h h2.h) n m h0.l h
def xe3(k:∀b,sc b->w0.heap.size<=b\/∃q∈pre,q.fp b)(g:G)(l:fn.results=#[r1,r2,r3])[h1:RvI P N sc env H r1 v1][h2:RvI P N sc env H r2 v2][h3:RvI P N sc env H r3 v3][h0:Som (lk2 H 0) (Xm w0 (λ_=>False))](n:val g= .tuple #[v1,v2,v3])(m:φ g)(h:Give H al (its g)) :
  X N sc .ret (Zhy P fn w0 pre al φ val its) env H:=Zmc (.inl rfl) k g (.tuple #[v1,v2,v3]) (λa w hs=>res3 hs l h1.h h2.h h3.h) n m h0.l h
end
class EncE {α:Type} (k:Nat) (enc:α->Value):Prop where h:∃(P:Program) (t:TypeId),Enc P t k enc
theorem Nz{p k:Pc}{r:List Pc}(i:Nat)[hi:Som (lk2 H i) k][h0:TB (neb i 0)][ho:RoI k](h:Give H true r)(e:k=p:=by rfl):Give H true (p::r):=e▸Zd9 i hi.l (Zo8 (Cr h0.h)) ho.h h
section
variable {α:Type} {k i:Nat} {e:TypeId} {enc:α->Value} {v v':Value} {xs ys:List α} {al:Bool} {r:List Pc}
theorem gow(i:Nat)[hi:Som (lk2 H i) (Nl k e enc v xs)][h0:TB (neb i 0)][he:EncE k enc](h:Give H al r)(l:xs=ys:=by rfl):Give H al (Ym k enc v ys::r):=by obtain⟨_,_,m⟩:=he.h;exact Zv7 i hi.l (Zo8 (Cr h0.h)) m l h
end
section
variable {n:Nat} {x b:Bool} {d e j:Nat} {op:Go.Op} {ty:TypeId} {pos:String} {af:Array Edge} {rest:List Oper} {ops:Array Oper} {ll:List Oper}
def kf [h1:DI P N sc op env H (.bool x) True][h2:TB (ltb d N)](e:x=false)(h:L P N sc ops rest Q ((d,.bool false)::env) H):L P N sc ops (⟨some d,op,ty,pos,af,none⟩::rest) Q env H:=dt (Of _ (h1.h aA) (aP _ e)) h (Pl h2.h)
def kt [h1:DI P N sc op env H (.bool x) True][h2:TB (ltb d N)](e:x=true)(h:L P N sc ops rest Q ((d,.bool true)::env) H):L P N sc ops (⟨some d,op,ty,pos,af,none⟩::rest) Q env H:=dt (Of _ (h1.h aA) (aP _ e)) h (Pl h2.h)
def kfg [h1:DI P N sc op env H (.bool x) True][hj:Som (dsto ll j) e][hg:Som (lk2 env e) (.bool b)][h4:TB (ltb e N)][h2:TB (ltb d N)](e:x=false)(h:L P N sc ll.toArray rest Q ((d,.bool false)::env) H):L P N sc ll.toArray (⟨some d,op,ty,pos,af,some (j,b)⟩::rest) Q env H:=Et (Of _ (h1.h aA) (aP _ e)) (Hu hj) hg.l h (Pl h4.h) (Pl h2.h)
def ktg [h1:DI P N sc op env H (.bool x) True][hj:Som (dsto ll j) e][hg:Som (lk2 env e) (.bool b)][h4:TB (ltb e N)][h2:TB (ltb d N)](e:x=true)(h:L P N sc ll.toArray rest Q ((d,.bool true)::env) H):L P N sc ll.toArray (⟨some d,op,ty,pos,af,some (j,b)⟩::rest) Q env H:=Et (Of _ (h1.h aA) (aP _ e)) (Hu hj) hg.l h (Pl h4.h) (Pl h2.h)
end
section
variable {f:FuncId} {xs:List Operand} {ats:Array TypeId} {d i j e n:Nat} {vs:List Value} {pre:List Pc} {al b:Bool} {G:Type} {φ:G->Prop} {val:G->Value} {its:G->List Pc} {w0:World} {M0:Nat->Prop} {ty:TypeId} {pos:String} {af:Array Edge} {G':G->Hp} {ops:Array Oper} {rest ll:List Oper}
def cl (n:Nat) (l:List Nat) (m:Cal P f vs.toArray pre al φ val its) [hx:EvI env xs vs] [hf:CalF P f] [hp:PreL P H al l pre] [h0:Som (lk2 H 0) (Xm w0 M0)] [hN:TB (ltb d N)] [hw:Hw w0 sc] [ha:∀g,AddI n (its g) H (G' g)]
  (h:∀g,φ g->L P N sc ops rest Q ((d,val g)::env) (G' g)):L P N sc ops (⟨some d,.call { callee:= .value (.func f),args:=xs.toArray,argTypes:=ats },ty,pos,af,none⟩::rest) Q env H:=Zw (Zm n l m) h
def Fy (n:Nat) (l:List Nat) (m:Cal P f vs.toArray pre al φ val its) [hx:EvI env xs vs] [hf:CalF P f] [hp:PreL P H al l pre] [h0:Som (lk2 H 0) (Xm w0 M0)] [hN:TB (ltb d N)] [hw:Hw w0 sc] [ha:∀g,AddI n (its g) H (G' g)] [hj:Som (dsto ll j) e] [he:Som (lk2 env e) (.bool b)] [hN2:TB (ltb e N)]
  (h:∀g,φ g->L P N sc ll.toArray rest Q ((d,val g)::env) (G' g)):L P N sc ll.toArray (⟨some d,.call { callee:= .value (.func f),args:=xs.toArray,argTypes:=ats },ty,pos,af,some (j,b)⟩::rest) Q env H:=gt' (Zm n l m) h
end
class SeI (l:List Nat) (env:Xu) (cs:outParam Xu):Prop where h:Sub cs env
instance:SeI [] env []:=⟨aA⟩
instance {t:Nat} {l:List Nat} {v:Value} {cs:Xu} [h:Som (lk2 env t) v] [h2:SeI l env cs]:SeI (t::l) env ((t,v)::cs):=⟨⟨h.l,h2.h⟩⟩
class SeH (l:List Nat) (H:Hp) (ch:outParam Hp):Prop where h:HSub ch H
instance:SeH [] H []:=⟨aA⟩
instance {t:Nat} {l:List Nat} {v:Pc} {cs:Hp} [h:Som (lk2 H t) v] [h2:SeH l H cs]:SeH (t::l) H ((t,v)::cs):=⟨⟨h.l,h2.h⟩⟩
class ApI {α:Type _} (a b:List α) (c:outParam (List α)):Prop where h:a ++ b=c
instance {α:Type _} {b:List α} : ApI [] b b:=⟨rfl⟩
instance {α:Type _} {x:α} {a b c:List α} [h:ApI a b c]:ApI (x::a) b (x::c):=⟨by rw [<-h.h];rfl⟩
class SbI (cs env:Xu):Prop where h:Sub cs env
instance:SbI [] env:=⟨aA⟩
instance {t:Nat} {v:Value} {cs:Xu} [h:Som (lk2 env t) v] [h2:SbI cs env]:SbI ((t,v)::cs) env:=⟨⟨h.l,h2.h⟩⟩
class HbI (ch H:Hp):Prop where h:HSub ch H
instance:HbI [] H:=⟨aA⟩
instance {t:Nat} {v:Pc} {cs:Hp} [h:Som (lk2 H t) v] [h2:HbI cs H]:HbI ((t,v)::cs) H:=⟨⟨h.l,h2.h⟩⟩
def Sub.app:∀{a b e:Xu},Sub a e->Sub b e->Sub (a ++ b) e
 | [],_,_,_,h=>h
 | (_,_)::_,_,_,h1,h=>⟨h1.1,Sub.app h1.2 h⟩
def HSub.app:∀{a b e:Hp},HSub a e->HSub b e->HSub (a ++ b) e
 | [],_,_,_,h=>h
 | (_,_)::_,_,_,h1,h=>⟨h1.1,HSub.app h1.2 h⟩
section
variable {c x y:Code} {G:Type} {cs:Xu} {ch:Hp} {e1:G->Xu} {H1:G->Hp} {ov:G->Xu} {oh:G->Hp} {inv:G->Prop} {μ:G->Nat} {g:G}
theorem lp (l D:List Nat) (ov:G->Xu) (oh:G->Hp) (inv:G->Prop) (μ:G->Nat) (m:G) (B:inv m) (hs:Sub (ov m) env) (z:HSub (oh m) H) [h1:SeI l env cs] [h2:SeH D H ch] [h3:∀g,ApI (ov g) cs (e1 g)] [h4:∀g,ApI (oh g) ch (H1 g)]
  (h:∀g,inv g->E P N sc c (Exit.then (Yfr N sc cs ch ov oh inv μ g) Q) (e1 g) (H1 g)):E P N sc (.loop c) Q env H:=
 e_lp cs ch ov oh inv μ m B (hs.app h1.h) (z.app h2.h) λg o=>by rw [(h3 g).h,(h4 g).h];exact h g o
def Xe(h:G)(l:inv h)(m:μ h<μ g)(hs:Sub (ov h) env)(o:HSub (oh h) H)[k1:SbI cs env][k2:HbI ch H]:X N sc .normal (Exit.then (Yfr N sc cs ch ov oh inv μ g) Q) env H:=x_rnd h l m (hs.app k1.h) (o.app k2.h)
theorem jn (l z:List Nat) (ov:G->Xu) (oh:G->Hp) (inv:G->Prop) [h1:SeI l env cs] [h2:SeH z H ch] [h3:∀g,ApI (ov g) cs (e1 g)] [h4:∀g,ApI (oh g) ch (H1 g)]
  (m:E P N sc x (Exit.then (JnK N sc cs ch ov oh inv) Q) env H) (o:∀g,inv g->E P N sc y Q (e1 g) (H1 g)):E P N sc (.seq x y) Q env H:=
 e_jn cs ch ov oh inv h1.h h2.h m λg h=>by rw [(h3 g).h,(h4 g).h];exact o g h
def Kh(h:G)(l:inv h)(hs:Sub (ov h) env)(m:HSub (oh h) H)[k1:SbI cs env][k2:HbI ch H]:X N sc .normal (Exit.then (JnK N sc cs ch ov oh inv) Q) env H:=x_jn h l (hs.app k1.h) (m.app k2.h)
end
end Go.Sky
namespace Go.Sky
open Go.Proofs
set_option linter.all false
set_option synthInstance.maxHeartbeats 0
variable{v w:Value}{xs:List Nat}{x y:Nat}{s t:Bool}
@[reducible,instance]def iUnd3:=Und.mk Tryz.underlying3
@[reducible,instance]def iUnd4:=Und.mk Tryz.underlying4
@[reducible,instance]def iUnd5:=Und.mk Tryz.underlying5
@[reducible,instance]def iUnd9:=Und.mk Tryz.underlying9
@[reducible,instance]def iUnd40:=Und.mk Tryz.underlying40
@[reducible,instance]def iUnd125:=Und.mk Tryz.underlying125
@[reducible,instance]def iUnd132:=Und.mk Tryz.underlying132
@[reducible,instance]def iUnd133:=Und.mk Tryz.underlying133
@[reducible,instance]def iUnd176:=Und.mk Tryz.underlying176
@[reducible,instance]def iUnd209:=Und.mk Tryz.underlying209
@[reducible,instance]def iUnd225:=Und.mk Tryz.underlying225
@[reducible,instance]def iUnd245:=Und.mk Tryz.underlying245
@[reducible,instance]def iUnd269:=Und.mk Tryz.underlying269
@[reducible,instance]def iUnd272:=Und.mk Tryz.underlying272
@[reducible,instance]def iUnd319:=Und.mk Tryz.underlying319
@[reducible,instance]def iUnd345:=Und.mk Tryz.underlying345
@[reducible,instance]def iUnd347:=Und.mk Tryz.underlying347
@[reducible,instance]def iUnd356:=Und.mk Tryz.underlying356
@[reducible,instance]def iUnd362:=Und.mk Tryz.underlying362
@[reducible,instance]def iUnd384:=Und.mk Tryz.underlying384
@[reducible,instance]def iUnd418:=Und.mk Tryz.underlying418
@[reducible,instance]def iUnd420:=Und.mk Tryz.underlying420
@[reducible,instance]def iUnd424:=Und.mk Tryz.underlying424
@[reducible,instance]def iUnd426:=Und.mk Tryz.underlying426
@[reducible,instance]def iUnd430:=Und.mk Tryz.underlying430
@[reducible,instance]def iUnd451:=Und.mk Tryz.underlying451
@[reducible,instance]def iSiz3:=Siz.mk Tryz.sizeOf3
@[reducible,instance]def iSiz4:=Siz.mk Tryz.sizeOf4
@[reducible,instance]def iSiz5:=Siz.mk Tryz.sizeOf5
@[reducible,instance]def iSiz9:=Siz.mk Tryz.sizeOf9
@[reducible,instance]def iSiz26:=Siz.mk Tryz.sizeOf26
@[reducible,instance]def iSiz40:=Siz.mk Tryz.sizeOf40
@[reducible,instance]def iSiz125:=Siz.mk Tryz.sizeOf125
@[reducible,instance]def iSiz133:=Siz.mk Tryz.sizeOf133
@[reducible,instance]def iSiz176:=Siz.mk Tryz.sizeOf176
@[reducible,instance]def iSiz209:=Siz.mk Tryz.sizeOf209
@[reducible,instance]def iSiz225:=Siz.mk Tryz.sizeOf225
@[reducible,instance]def iSiz245:=Siz.mk Tryz.sizeOf245
@[reducible,instance]def iSiz269:=Siz.mk Tryz.sizeOf269
@[reducible,instance]def iSiz272:=Siz.mk Tryz.sizeOf272
@[reducible,instance]def iSiz345:=Siz.mk Tryz.sizeOf345
@[reducible,instance]def iSiz362:=Siz.mk Tryz.sizeOf362
@[reducible,instance]def iSiz418:=Siz.mk Tryz.sizeOf418
@[reducible,instance]def iSiz420:=Siz.mk Tryz.sizeOf420
@[reducible,instance]def iSiz426:=Siz.mk Tryz.sizeOf426
@[reducible,instance]def iAgg4:=Agg.mk Tryz.isAgg4
@[reducible,instance]def iAgg9:=Agg.mk Tryz.isAgg9
@[reducible,instance]def iAgg26:=Agg.mk Tryz.isAgg26
@[reducible,instance]def iAgg40:=Agg.mk Tryz.isAgg40
@[reducible,instance]def iAgg176:=Agg.mk Tryz.isAgg176
@[reducible,instance]def iAgg209:=Agg.mk Tryz.isAgg209
@[reducible,instance]def iAgg245:=Agg.mk Tryz.isAgg245
@[reducible,instance]def iAgg269:=Agg.mk Tryz.isAgg269
@[reducible,instance]def iAgg272:=Agg.mk Tryz.isAgg272
@[reducible,instance]def iAgg362:=Agg.mk Tryz.isAgg362
@[reducible,instance]def iAgg418:=Agg.mk Tryz.isAgg418
@[reducible,instance]def iAgg420:=Agg.mk Tryz.isAgg420
@[reducible,instance]def iAgg426:=Agg.mk Tryz.isAgg426
@[reducible,instance]def iZer125:=Zer.mk Tryz.zeroValue125
@[reducible,instance]def iZer176:=Zer.mk Tryz.zeroValue176
@[reducible,instance]def iZer209:=Zer.mk Tryz.zeroValue209
@[reducible,instance]def iZer245:=Zer.mk Tryz.zeroValue245
@[reducible,instance]def iZer272:=Zer.mk Tryz.zeroValue272
@[reducible,instance]def iZer347:=Zer.mk Tryz.zeroValue347
@[reducible,instance]def iZer420:=Zer.mk Tryz.zeroValue420
@[reducible,instance]def iZer424:=Zer.mk Tryz.zeroValue424
@[reducible,instance]def iZer426:=Zer.mk Tryz.zeroValue426
abbrev cGa(f:Nat):=CalF Go.Proofs.Tryz.prog f
open Go.Proofs.Tryz
instance:cGa 99:=.mk call99
instance:cGa 123:=.mk call123
instance:cGa 138:=.mk call138
instance:cGa 168:=.mk call168
instance:cGa 170:=.mk call170
instance:cGa 172:=.mk call172
instance:cGa 173:=.mk call173
instance:cGa 176:=.mk call176
instance:cGa 177:=.mk call177
instance:cGa 178:=.mk call178
instance:cGa 179:=.mk call179
instance:cGa 198:=.mk call198
instance:cGa 199:=.mk call199
instance:cGa 200:=.mk call200
instance:cGa 201:=.mk call201
instance:cGa 202:=.mk call202
instance:cGa 203:=.mk call203
instance:cGa 204:=.mk call204
instance:cGa 207:=.mk call207
instance:cGa 209:=.mk call209
instance:cGa 210:=.mk call210
instance:cGa 211:=.mk call211
instance:cGa 219:=.mk call219
instance:cGa 224:=.mk call224
instance:cGa 226:=.mk call226
instance:cGa 231:=.mk call231
instance:cGa 232:=.mk call232
instance:cGa 233:=.mk call233
instance:cGa 234:=.mk call234
instance:cGa 235:=.mk call235
instance:cGa 236:=.mk call236
instance:cGa 237:=.mk call237
instance:cGa 238:=.mk call238
instance:cGa 239:=.mk call239
instance:cGa 241:=.mk call241
instance:cGa 242:=.mk call242
instance:cGa 243:=.mk call243
instance:cGa 244:=.mk call244
instance:cGa 268:=.mk call268
instance:cGa 269:=.mk call269
instance:cGa 270:=.mk call270
instance:cGa 271:=.mk call271
instance:cGa 272:=.mk call272
instance:cGa 273:=.mk call273
instance:cGa 278:=.mk call278
instance:cGa 279:=.mk call279
instance:cGa 282:=.mk call282
instance:cGa 283:=.mk call283
instance:cGa 284:=.mk call284
instance:cGa 285:=.mk call285
instance:cGa 286:=.mk call286
instance:cGa 290:=.mk call290
instance:cGa 291:=.mk call291
instance:cGa 292:=.mk call292
instance:cGa 293:=.mk call293
instance:cGa 294:=.mk call294
instance:cGa 297:=.mk call297
instance:cGa 298:=.mk call298
instance:cGa 299:=.mk call299
instance:cGa 300:=.mk call300
instance:cGa 301:=.mk call301
instance:cGa 317:=.mk call317
instance:cGa 318:=.mk call318
instance:cGa 319:=.mk call319
instance:cGa 320:=.mk call320
instance:cGa 321:=.mk call321
instance:cGa 322:=.mk call322
instance:cGa 323:=.mk call323
instance:cGa 325:=.mk call325
instance:cGa 329:=.mk call329
instance:cGa 330:=.mk call330
instance:cGa 331:=.mk call331
instance:cGa 332:=.mk call332
instance:cGa 335:=.mk call335
instance:cGa 336:=.mk call336
instance:cGa 337:=.mk call337
instance:cGa 338:=.mk call338
instance:cGa 339:=.mk call339
instance:cGa 350:=.mk call350
instance:cGa 351:=.mk call351
instance:cGa 352:=.mk call352
instance:cGa 353:=.mk call353
instance:cGa 354:=.mk call354
instance:cGa 355:=.mk call355
instance:cGa 356:=.mk call356
instance:cGa 357:=.mk call357
instance:cGa 358:=.mk call358
instance:cGa 359:=.mk call359
instance:cGa 362:=.mk call362
instance:cGa 371:=.mk call371
instance:cGa 372:=.mk call372
instance:cGa 373:=.mk call373
instance:cGa 374:=.mk call374
instance:cGa 375:=.mk call375
instance:cGa 376:=.mk call376
instance:cGa 377:=.mk call377
instance:cGa 378:=.mk call378
instance:cGa 379:=.mk call379
instance:cGa 380:=.mk call380
instance:cGa 396:=.mk call396
instance:cGa 397:=.mk call397
instance:cGa 398:=.mk call398
instance:cGa 399:=.mk call399
instance:cGa 400:=.mk call400
instance:cGa 401:=.mk call401
instance:cGa 402:=.mk call402
instance:cGa 403:=.mk call403
instance:cGa 411:=.mk call411
instance:EncT Tryz.prog 125 1 Og:=⟨pU⟩
instance:EncE 1 Og:=⟨_,_,pU⟩
instance:EncT Tryz.prog 5 1 Zfb:=⟨pB⟩
instance:EncE 1 Zfb:=⟨_,_,pB⟩
instance:EncT Tryz.prog 3 1 Da:=⟨pN⟩
instance:EncE 1 Da:=⟨_,_,pN⟩
instance:EncT Tryz.prog 3 1 Ys:=⟨pZ⟩
instance:EncE 1 Ys:=⟨_,_,pZ⟩
instance:EncT Tryz.prog 176 2 Zqt:=⟨pW⟩
instance:EncE 2 Zqt:=⟨_,_,pW⟩
instance:EncT Tryz.prog 176 2 wv:=⟨pV⟩
instance:EncE 2 wv:=⟨_,_,pV⟩
instance:EncT Tryz.prog 245 2 Zqu:=⟨pI⟩
instance:EncE 2 Zqu:=⟨_,_,pI⟩
instance {α:Type} : EncT Tryz.prog 133 1 (Iy (α:=α)):=⟨pS⟩
instance {α:Type} : EncE 1 (Iy (α:=α)):=⟨_,_,pS⟩
instance:EncT Tryz.prog 426 8 iq:=⟨pY⟩
instance:EncE 8 iq:=⟨_,_,pY⟩
instance:EncT Tryz.prog 209 4 rq:=⟨pQ⟩
instance:EncE 4 rq:=⟨_,_,pQ⟩
instance:EncT Tryz.prog 209 4 encQ:=⟨pR⟩
instance:EncE 4 encQ:=⟨_,_,pR⟩
@[reducible,instance]def iUnd23:=Und.mk Tryz.underlying23
@[reducible,instance]def iUnd25:=Und.mk Tryz.underlying25
@[reducible,instance]def iUnd31:=Und.mk Tryz.underlying31
@[reducible,instance]def iUnd37:=Und.mk Tryz.underlying37
@[reducible,instance]def iUnd41:=Und.mk Tryz.underlying41
@[reducible,instance]def iUnd51:=Und.mk Tryz.underlying51
@[reducible,instance]def iUnd79:=Und.mk Tryz.underlying79
@[reducible,instance]def iUnd81:=Und.mk Tryz.underlying81
@[reducible,instance]def iUnd106:=Und.mk Tryz.underlying106
@[reducible,instance]def iUnd127:=Und.mk Tryz.underlying127
@[reducible,instance]def iUnd137:=Und.mk Tryz.underlying137
@[reducible,instance]def iUnd150:=Und.mk Tryz.underlying150
@[reducible,instance]def iUnd173:=Und.mk Tryz.underlying173
@[reducible,instance]def iUnd179:=Und.mk Tryz.underlying179
@[reducible,instance]def iUnd182:=Und.mk Tryz.underlying182
@[reducible,instance]def iUnd185:=Und.mk Tryz.underlying185
@[reducible,instance]def iUnd220:=Und.mk Tryz.underlying220
@[reducible,instance]def iUnd224:=Und.mk Tryz.underlying224
@[reducible,instance]def iUnd233:=Und.mk Tryz.underlying233
@[reducible,instance]def iUnd260:=Und.mk Tryz.underlying260
@[reducible,instance]def iUnd261:=Und.mk Tryz.underlying261
@[reducible,instance]def iUnd284:=Und.mk Tryz.underlying284
@[reducible,instance]def iUnd320:=Und.mk Tryz.underlying320
@[reducible,instance]def iUnd323:=Und.mk Tryz.underlying323
@[reducible,instance]def iUnd328:=Und.mk Tryz.underlying328
@[reducible,instance]def iUnd365:=Und.mk Tryz.underlying365
@[reducible,instance]def iUnd366:=Und.mk Tryz.underlying366
@[reducible,instance]def iUnd490:=Und.mk Tryz.underlying490
@[reducible,instance]def iUnd492:=Und.mk Tryz.underlying492
@[reducible,instance]def iUnd493:=Und.mk Tryz.underlying493
@[reducible,instance]def iSiz23:=Siz.mk Tryz.sizeOf23
@[reducible,instance]def iSiz25:=Siz.mk Tryz.sizeOf25
@[reducible,instance]def iSiz31:=Siz.mk Tryz.sizeOf31
@[reducible,instance]def iSiz37:=Siz.mk Tryz.sizeOf37
@[reducible,instance]def iSiz51:=Siz.mk Tryz.sizeOf51
@[reducible,instance]def iSiz79:=Siz.mk Tryz.sizeOf79
@[reducible,instance]def iSiz81:=Siz.mk Tryz.sizeOf81
@[reducible,instance]def iSiz127:=Siz.mk Tryz.sizeOf127
@[reducible,instance]def iSiz137:=Siz.mk Tryz.sizeOf137
@[reducible,instance]def iSiz142:=Siz.mk Tryz.sizeOf142
@[reducible,instance]def iSiz173:=Siz.mk Tryz.sizeOf173
@[reducible,instance]def iSiz179:=Siz.mk Tryz.sizeOf179
@[reducible,instance]def iSiz220:=Siz.mk Tryz.sizeOf220
@[reducible,instance]def iSiz259:=Siz.mk Tryz.sizeOf259
@[reducible,instance]def iSiz261:=Siz.mk Tryz.sizeOf261
@[reducible,instance]def iSiz284:=Siz.mk Tryz.sizeOf284
@[reducible,instance]def iSiz320:=Siz.mk Tryz.sizeOf320
@[reducible,instance]def iSiz365:=Siz.mk Tryz.sizeOf365
@[reducible,instance]def iSiz366:=Siz.mk Tryz.sizeOf366
@[reducible,instance]def iSiz492:=Siz.mk Tryz.sizeOf492
@[reducible,instance]def iAgg3:=Agg.mk Tryz.isAgg3
@[reducible,instance]def iAgg23:=Agg.mk Tryz.isAgg23
@[reducible,instance]def iAgg25:=Agg.mk Tryz.isAgg25
@[reducible,instance]def iAgg31:=Agg.mk Tryz.isAgg31
@[reducible,instance]def iAgg37:=Agg.mk Tryz.isAgg37
@[reducible,instance]def iAgg51:=Agg.mk Tryz.isAgg51
@[reducible,instance]def iAgg79:=Agg.mk Tryz.isAgg79
@[reducible,instance]def iAgg81:=Agg.mk Tryz.isAgg81
@[reducible,instance]def iAgg125:=Agg.mk Tryz.isAgg125
@[reducible,instance]def iAgg127:=Agg.mk Tryz.isAgg127
@[reducible,instance]def iAgg133:=Agg.mk Tryz.isAgg133
@[reducible,instance]def iAgg137:=Agg.mk Tryz.isAgg137
@[reducible,instance]def iAgg142:=Agg.mk Tryz.isAgg142
@[reducible,instance]def iAgg173:=Agg.mk Tryz.isAgg173
@[reducible,instance]def iAgg179:=Agg.mk Tryz.isAgg179
@[reducible,instance]def iAgg185:=Agg.mk Tryz.isAgg185
@[reducible,instance]def iAgg217:=Agg.mk Tryz.isAgg217
@[reducible,instance]def iAgg220:=Agg.mk Tryz.isAgg220
@[reducible,instance]def iAgg259:=Agg.mk Tryz.isAgg259
@[reducible,instance]def iAgg261:=Agg.mk Tryz.isAgg261
@[reducible,instance]def iAgg284:=Agg.mk Tryz.isAgg284
@[reducible,instance]def iAgg298:=Agg.mk Tryz.isAgg298
@[reducible,instance]def iAgg310:=Agg.mk Tryz.isAgg310
@[reducible,instance]def iAgg320:=Agg.mk Tryz.isAgg320
@[reducible,instance]def iAgg366:=Agg.mk Tryz.isAgg366
@[reducible,instance]def iAgg492:=Agg.mk Tryz.isAgg492
@[reducible,instance]def iZer3:=Zer.mk Tryz.zeroValue3
@[reducible,instance]def iZer4:=Zer.mk Tryz.zeroValue4
@[reducible,instance]def iZer23:=Zer.mk Tryz.zeroValue23
@[reducible,instance]def iZer25:=Zer.mk Tryz.zeroValue25
@[reducible,instance]def iZer26:=Zer.mk Tryz.zeroValue26
@[reducible,instance]def iZer31:=Zer.mk Tryz.zeroValue31
@[reducible,instance]def iZer79:=Zer.mk Tryz.zeroValue79
@[reducible,instance]def iZer106:=Zer.mk Tryz.zeroValue106
@[reducible,instance]def iZer127:=Zer.mk Tryz.zeroValue127
@[reducible,instance]def iZer137:=Zer.mk Tryz.zeroValue137
@[reducible,instance]def iZer142:=Zer.mk Tryz.zeroValue142
@[reducible,instance]def iZer173:=Zer.mk Tryz.zeroValue173
@[reducible,instance]def iZer179:=Zer.mk Tryz.zeroValue179
@[reducible,instance]def iZer182:=Zer.mk Tryz.zeroValue182
@[reducible,instance]def iZer220:=Zer.mk Tryz.zeroValue220
@[reducible,instance]def iZer261:=Zer.mk Tryz.zeroValue261
@[reducible,instance]def iZer284:=Zer.mk Tryz.zeroValue284
@[reducible,instance]def iZer320:=Zer.mk Tryz.zeroValue320
@[reducible,instance]def iZer366:=Zer.mk Tryz.zeroValue366
@[reducible,instance]def iZer492:=Zer.mk Tryz.zeroValue492
open Go.Proofs.Tryz
instance:cGa 15:=.mk call15
instance:cGa 16:=.mk call16
instance:cGa 17:=.mk call17
instance:cGa 18:=.mk call18
instance:cGa 43:=.mk call43
instance:cGa 51:=.mk call51
instance:cGa 62:=.mk call62
instance:cGa 63:=.mk call63
instance:cGa 64:=.mk call64
instance:cGa 65:=.mk call65
instance:cGa 66:=.mk call66
instance:cGa 67:=.mk call67
instance:cGa 68:=.mk call68
instance:cGa 69:=.mk call69
instance:cGa 70:=.mk call70
instance:cGa 71:=.mk call71
instance:cGa 72:=.mk call72
instance:cGa 73:=.mk call73
instance:cGa 74:=.mk call74
instance:cGa 75:=.mk call75
instance:cGa 76:=.mk call76
instance:cGa 102:=.mk call102
instance:cGa 103:=.mk call103
instance:cGa 109:=.mk call109
instance:cGa 110:=.mk call110
instance:cGa 120:=.mk call120
instance:cGa 122:=.mk call122
instance:cGa 128:=.mk call128
instance:cGa 129:=.mk call129
instance:cGa 130:=.mk call130
instance:cGa 131:=.mk call131
instance:cGa 132:=.mk call132
instance:cGa 133:=.mk call133
instance:cGa 134:=.mk call134
instance:cGa 135:=.mk call135
instance:cGa 136:=.mk call136
instance:cGa 137:=.mk call137
instance:cGa 139:=.mk call139
instance:cGa 140:=.mk call140
instance:cGa 141:=.mk call141
instance:cGa 142:=.mk call142
instance:cGa 143:=.mk call143
instance:cGa 144:=.mk call144
instance:cGa 145:=.mk call145
instance:cGa 146:=.mk call146
instance:cGa 165:=.mk call165
instance:cGa 166:=.mk call166
instance:cGa 167:=.mk call167
instance:cGa 171:=.mk call171
instance:cGa 175:=.mk call175
instance:cGa 184:=.mk call184
instance:cGa 208:=.mk call208
instance:cGa 212:=.mk call212
instance:cGa 213:=.mk call213
instance:cGa 214:=.mk call214
instance:cGa 215:=.mk call215
instance:cGa 216:=.mk call216
instance:cGa 240:=.mk call240
instance:cGa 256:=.mk call256
instance:cGa 261:=.mk call261
instance:cGa 276:=.mk call276
instance:cGa 277:=.mk call277
instance:cGa 280:=.mk call280
instance:cGa 281:=.mk call281
instance:cGa 287:=.mk call287
open Go.Proofs.Tryz
set_option synthInstance.maxSize 100000
set_option maxRecDepth 20000
set_option linter.unusedSimpArgs false
theorem Zy5(v:Value)(xs:List Nat):Cal prog 172 #[v] [Ym 1 Og v xs] true (G:=Unit) (λ_=>True) (λ_=>Nr v (tz xs).length) (λ_=>[Ym 1 Og (Nr v (tz xs).length) (tz xs)]):=by
 refine Zd func172 ntmps172 λo n m c=>?_;refine Oo (Zqp (i:=1) J Zh) (λa=>?_);refine Oo (It (i:=1) J Zh) λl=>go 7 ?_;refine lp (G:=Nat) [] [0] (λk=>[(0,Nr v k)]) (λk=>[(1,Ym 1 Og (Nr v k) (xs.take k))]) (λk=>(k<=xs.length)/\(tz (xs.take k)=tz xs)) (λk=>k) xs.length ⟨aH _,by rw [bN]⟩ ⟨by rw [a];rfl,aA⟩ ⟨by rw [a,bN];rfl,aA⟩ ?_;rintro k ⟨g,h⟩;have e:(xs.take k).length=k:=by rw [aN];omega
 refine go 7<|Yq 6 J (λj=>?_) (λj=>?_)
 .refine go 4 ⟨O,?_⟩;refine Et (Yu 1 (k-1) J J J J Zh Qi Nx) J J<|go 5 ⟨O,?_⟩;refine Zc J (λf=>?_) (λf=>?_)
  .have b:=Zrk g O (by omega:(xs.take k).getD (k-1) 0=0);refine go 8 ⟨O,?_⟩;refine dt (Ztv 1 (k-1) J J J J Zh Qi Nx)<|go 3 ?_;exact Xh (Zxv 1 1 (k-1) J J)<|Xe (k-1) ⟨O1,by rw [<-h,<-b]⟩ O1 ⟨by rw [<-Kx v k (k-1)];rfl,aA⟩ ⟨by rw [Kx,gC,cW O];rfl,aA⟩
  .refine go 12 ?_;have d:tz xs=xs.take k:=by rw [<-h];exact Zb8 g O
   exact Xg c () results172 (by rw [d,e]) aA (Nz 1 Za (by rw [d,e]))
 .refine go 23 ?_;have d:tz xs=xs.take k:=by rw [<-h];exact Zb8 g O
  exact Xg c () results172 (by rw [d,e]) aA (Nz 1 Za (by rw [d,e]))
def Qn:Cal prog 172 #[v] [Ym 1 Og v xs] false (G:=Unit) (λ_=>True) (λ_=>Nr v (tz xs).length) (λ_=>[]):=(Zy5 v xs).bare
theorem Zsv(z:bl x<=4294967296)(N:bl y<=4294967296):Cal prog 271 #[v,w] [Iz v x,Iz w y] false (G:=Value) (λr=>True) (λr=>r) (λr=>[Iz r (x+y)]):=by
 refine Zd func271 ntmps271 λS P n m=>?_;have I:=Px x;have M:=Px y;refine go 5 ?_;refine jn (G:=Value×Value×Nat×Nat) [] [0,1,2] (λq=>[(0,q.1),(1,q.2.1)]) (λq=>[(91,Iz q.1 q.2.2.1),(92,Iz q.2.1 q.2.2.2)]) (λq=>(q.2.2.1+q.2.2.2=x+y)/\((dg U q.2.2.2).length<=(dg U q.2.2.1).length)/\((dg U q.2.2.1).length<=1099511627776)) ?_ ?_
 .refine go 9<|Zc J (λg=>?_) (λg=>?_)
  .refine go 6<|Xh (Nq 2 91 J J J)<|Xh (Nq 1 92 J J J) ?_;exact Kh (w,v,y,x) ⟨O1,O1,O1⟩ K2 K2
  .refine go 1<|Xh (Nq 1 91 J J J)<|Xh (Nq 2 92 J J J) ?_;exact Kh (v,w,x,y) ⟨O1,O1,O1⟩ K2 K2
 .rintro⟨Q,R,a,b⟩ ⟨hs,u,j⟩;dsimp only at hs u j;dsimp only;refine go 5 ⟨O,?_⟩;refine tt (Gd 3 ((dg U a).length+1) 8 (enc:=Og) 0 J J J J Qi ti125 J pU.cells pU.pos J J J n.h) λv _=>go 17 ?_;refine lp (G:=Nat×List Nat×Nat) [0,1,5,21] [0,91,92,1,2] (λq=>[(22,.int .i64 (q.1:Int)),(6,.int .u64 (q.2.2:Int))]) (λq=>[(3,Nl 1 125 Og v q.2.1)]) (λq=>(q.1<=(dg U a).length)/\(q.2.1.length=(dg U a).length+1)/\(∀d∈q.2.1,d<U)/\(q.2.2<=1)/\(val U (q.2.1.take q.1)+q.2.2*U^q.1=val U ((dg U a).take q.1)+val U ((dg U b).take q.1))) (λq=>(dg U a).length-q.1) (0,List.replicate ((dg U a).length+1) 0,0) ⟨O1,O7,Oz Yp,O1,by simp [val]⟩ K2 K1 ?_;rintro⟨k,o,c⟩ ⟨D,l,e,B,f⟩;dsimp only at D l e B f;dsimp only;refine go 6<|Zc J (λh=>?_) (λh=>?_)
  .refine go 15 ?_;refine jn (G:=Unit) [0,1,5,6,7,21,22] [0,3,91,92,1,2] (λ_=>[(8,.int .u64 ((dg U b).getD k 0:Int))]) (λ_=>[]) (λ_=>True) ?_ ?_
   .refine go 8<|Zc J (λi=>?_) (λi=>?_)
    .refine go 7 ⟨O2,O2,?_⟩
     try (have p:(dg U b).getD k 0=0:=by simp [List.getD,bI (by omega:(dg U b).length<=k)])
     exact Kh () aA ⟨by first|rfl|(rw [p];rfl),aA⟩ aA
    .refine go 1 ?_
     try (have p:(dg U b).getD k 0=0:=by simp [List.getD,bI (by omega:(dg U b).length<=k)])
     exact Kh () aA ⟨by first|rfl|(rw [p];rfl),aA⟩ aA
   .rintro _ -;refine go 9 ⟨O2,O2,?_⟩;refine dt (Zll _ J J J J O Zej)<|go 4 ⟨O2,?_⟩;refine tt (Lb 3 (enc:=Og) J J J J J J pU J n.h O3 O2) (λ_ _=>?_);refine go 8 ⟨O,?_⟩;exact Xe (k+1,_,_) ⟨O1,O9,Mc e _ (bG _ Yp),by have F:=Yv Yp (Ol Yl a) k;have H:=Yv Yp (Ol Yl b) k;simp only [U]at *;omega,Yb2 f O⟩ O1 K2 K1
  .refine go 6 ?_;obtain rfl:k=(dg U a).length:=O;refine go 6 ⟨O2,?_⟩;refine tt (Lb 3 (enc:=Og) J J J J J J pU J n.h O3 O2) λ_ _=>go 5 ?_;refine cl 3 [3] Qn λ_ _=>?_;refine Qy (Zbg 3 J J pU)<|go 4 ?_;have z:tz (o.set (dg U a).length c)=dg U (x+y):=by
    rw [<-Lr Yl _ (Mc e _ (by simp only [U];omega)),<-hs];congr 1
    conv=>rhs;rw [<-Om Yl a,<-Om Yl b]
    rw [bW (aH (dg U a).length),Pu U (dg U b) u]at f;rw [<-f,<-Gs U o c O,Pu _ _ O9]
   exact Xg m _ results271 J aA (gow 3 Za z)
theorem Zcx(p:bl x<=4294967296)(j:y<=x:=by omega):Cal prog 273 #[v,w] [Iz v x,Iz w y] false (G:=Value) (λr=>True) (λr=>r) (λr=>[Iz r (x-y)]):=by
 refine Zd func273 ntmps273 λM I n h=>?_;have D:=Px x;have F:=Px y;have H:=Py j;refine go 9 ?_;refine tt (Gd 3 ((dg U x).length) 8 (enc:=Og) 0 J J J J Qi ti125 J pU.cells pU.pos J J J n.h) λv _=>go 17 ?_;refine lp (G:=Nat×List Nat×Nat) [0,1,5,13] [0,1,2] (λq=>[(14,.int .i64 (q.1:Int)),(6,.int .u64 (q.2.2:Int))]) (λq=>[(3,Nl 1 125 Og v q.2.1)]) (λq=>(q.1<=(dg U x).length)/\(q.2.1.length=(dg U x).length)/\(∀d∈q.2.1,d<U)/\(q.2.2<=1)/\(val U (q.2.1.take q.1)+val U ((dg U y).take q.1)=val U ((dg U x).take q.1)+q.2.2*U^q.1)) (λq=>(dg U x).length-q.1) (0,List.replicate ((dg U x).length) 0,0) ⟨O1,O7,Oz Yp,O1,by simp [val]⟩ K2 K1 ?_;rintro⟨k,o,c⟩ ⟨B,b,a,m,i⟩;dsimp only at B b a m i;dsimp only;refine go 6<|Zc J (λe=>?_) (λe=>?_)
 .refine go 15 ?_;refine jn (G:=Unit) [0,1,5,6,7,13,14] [0,3,1,2] (λ_=>[(8,.int .u64 ((dg U y).getD k 0:Int))]) (λ_=>[]) (λ_=>True) ?_ ?_
  .refine go 8<|Zc J (λf=>?_) (λf=>?_)
   .refine go 7 ⟨O2,O2,?_⟩
    try (have l:(dg U y).getD k 0=0:=by simp [List.getD,bI (by omega:(dg U y).length<=k)])
    exact Kh () aA ⟨by first|rfl|(rw [l];rfl),aA⟩ aA
   .refine go 1 ?_
    try (have l:(dg U y).getD k 0=0:=by simp [List.getD,bI (by omega:(dg U y).length<=k)])
    exact Kh () aA ⟨by first|rfl|(rw [l];rfl),aA⟩ aA
  .rintro _ -;refine go 9 ⟨O2,O2,?_⟩;refine dt (Yev J J J J O Zuy)<|go 4 ⟨O2,?_⟩;refine tt (Lb 3 (enc:=Og) J J J J J J pU J n.h O3 O2) (λ_ _=>?_);refine go 8 ⟨O,?_⟩;exact Xe (k+1,_,_) ⟨O1,O9,Mc a _ (bG _ Yp),Ybp,Zxa m (Yv Yp (Ol Yl x) k) (Yv Yp (Ol Yl y) k) i O⟩ O1 K2 K1
 .refine go 8 ?_;refine cl 3 [3] Qn λ_ _=>?_;refine Qy (Zbg 3 J J pU)<|go 4 ?_;obtain rfl:k=(dg U x).length:=O;have p:tz o=dg U (x-y):=by rw [<-Lr Yl _ a];congr 1;have g:(dg U y).length<=(dg U x).length:=O;rw [Pu U o O,Pu U (dg U y) g,Pu U (dg U x) (aH _),Om Yl,Om Yl]at i;have z:=Zdp Yp o a;rw [b]at z;have u:c=0\/c=1:=O;rcases u with rfl|rfl<;>omega
  exact Xg h _ results273 J aA (gow 3 Za p)
theorem Ai(p:bl x<=4294967296)(q:bl y<=4294967296):Cal prog 272 #[v,w] [Iz v x,Iz w y] false (G:=Int) (λr=>(r<0↔x<y)/\(0<r↔y<x)) (λr=> .int .i64 r) (λr=>[]):=by
 refine Zd func272 ntmps272 λz u o a=>?_;have l:=Px x;have m:=Px y;refine go 15<|Zc J (λe=>?_) (λe=>?_)
 .refine go 12 ⟨O,?_⟩;exact Xg a _ results272 J ⟨⟨λh=>Dx Yl O,λh=>by have:=Py (dZ h);omega⟩,⟨λh=>Dx Yl O,λh=>by have:=Py (dZ h);omega⟩⟩ Za
 .have c:(dg U x).length=(dg U y).length:=O;refine go 12 ⟨O,?_⟩;refine lp (G:=Nat) [0,1] [0,1,2] (λk=>[(5,.int .i64 ((k:Int)-1))]) (λk=>[]) (λk=>(k<=(dg U x).length)/\((dg U x).drop k=(dg U y).drop k)) (λk=>k) (dg U x).length ⟨O1,by rw [gF,c,gF]⟩ K1 aA ?_;rintro k ⟨n,d⟩;refine go 7<|Zc J (λf=>?_) (λf=>?_)
  .refine go 6<|Qg (λ_=>False) [(0,0),(1,0),(2,0),(3,0),(4,0),(5,0),(6,0),(7,0),(8,0),(9,0)]<|go 2 ?_;refine Pe J J (Pz (Yu 1 (k-1) J J J J Zh Qi Nx))<|go 3 ⟨O2,?_⟩;refine Pe J J (Pz (Yu 2 (k-1) J J J J Zh Qi Nx))<|go 5 ⟨O2,?_⟩;refine Zc J (λg=>?_) (λg=>?_)
   .refine go 12 ?_;have b:=Zlp Yp (xs:=dg U x) (ys:=dg U y) (Ol Yl x) (k:=k-1) O O (by rw [show k-1+1=k by omega];exact d) O;rw [Om Yl,Om Yl]at b;exact Xg a (-1) results272 J O Za
   .refine go 1<|Qg (λ_=>False) [(0,0),(1,0),(2,0),(3,0),(4,0),(5,0),(6,0),(7,0),(8,0),(9,0)]<|go 2 ?_;refine Pe J J (Pz (Yu 1 (k-1) J J J J Zh Qi Nx))<|go 3 ⟨O2,?_⟩;refine Pe J J (Pz (Yu 2 (k-1) J J J J Zh Qi Nx))<|go 5 ⟨O2,?_⟩;refine Zc J (λi=>?_) (λi=>?_)
    .refine go 12 ?_;have b:=Zlp Yp (xs:=dg U y) (ys:=dg U x) (Ol Yl y) (k:=k-1) O O (by rw [show k-1+1=k by omega];exact d.symm) O;rw [Om Yl,Om Yl]at b;exact Xg a 1 results272 J O Za
    .refine go 9 ⟨O,?_⟩;exact Xe (k-1) ⟨O1,by have:=Zdb (dg U x) (dg U y) (k:=k-1) O O (by rw [show k-1+1=k by omega];exact d) O;exact this⟩ O1 ⟨by rw [show(((k-1:Nat):Int)-1)=(k:Int)-1-1 by omega];rfl,aA⟩ aA
  .refine go 11 ?_;obtain rfl:k=0:=O;have j:x=y:=(Zed Yl).1 (by simpa using d);exact Xg a 0 results272 J O Za
theorem Zo6(x y:Nat)(b:x<U)(c:y<U):Yx prog 207 #[.int .u64 (x:Int),.int .u64 (y:Int)] [] (.tuple #[.int .u64 ((x*y/U:Nat):Int),.int .u64 ((x*y%U:Nat):Int)]):=by refine Zd func207 ntmps207 λf e d a=>?_;simp only [U]at b c;refine go 9 ?_;refine dt (Zmi J J J b)<|go 6 ?_;refine dt (Ks 4294967296 (n:=32) J J J J J)<|go 6 ?_;refine dt (Zmi J J J c)<|go 6 ?_;refine dt (Ks 4294967296 (n:=32) J J J J J)<|go 7 ?_;refine dt (Gc J J J)<|go 7 ?_;refine dt (Gc J J J)<|go 1 ?_;refine dt (Ks 4294967296 (n:=32) J J J J J)<|dt (Gm J J J)<|go 6 ?_;refine dt (Zmi J J J (bG _ Yp))<|go 6 ?_;refine dt (Ks 4294967296 (n:=32) J J J J J)<|go 8 ?_;refine dt (Gc J J J)<|dt (Gm J J J)<|go 7 ?_;refine dt (Gc J J J)<|go 1 ?_;refine dt (Gm J J J)<|go 1 ?_;refine dt (Ks 4294967296 (n:=32) J J J J J)<|dt (Gm J J J)<|go 7 ?_;refine dt (Gc J J J)<|go 4 ?_;exact Na a () results207 (by rw [Zza b c rfl rfl]) aA Za
theorem Zst(I:bl x<=4294967296)(R:bl y<=4294967296):Cal prog 325 #[v,w] [Iz v x,Iz w y] false (G:=Value) (λr=>True) (λr=>r) (λr=>[Iz r (x*y)]):=by
 refine Zd func325 ntmps325 λV S F D=>?_;have P:=Px x;have Q:=Px y;refine go 12 ⟨O,?_⟩;refine tt (Gd 3 ((dg U x).length+(dg U y).length) 8 (enc:=Og) 0 J J J J Qi ti125 J pU.cells pU.pos J J J F.h) λv _=>go 12 ?_;refine lp (G:=Nat×List Nat) [1,5,20,21] [0,1,2] (λq=>[(22,.int .i64 (q.1:Int))]) (λq=>[(3,Nl 1 125 Og v q.2)]) (λq=>(q.1<=(dg U x).length)/\(q.2.length=(dg U x).length+(dg U y).length)/\(∀d∈q.2,d<U)/\(∀j,q.1+(dg U y).length<=j->q.2.getD j 0=0)/\(val U (q.2.take (q.1+(dg U y).length))=val U ((dg U x).take q.1)*y)) (λq=>(dg U x).length-q.1) (0,List.replicate ((dg U x).length+(dg U y).length) 0) ⟨O1,O7,Oz Yp,λj _=>Ik _ j,by simp [val,mI,Hl]⟩ K1 K1 ?_;rintro⟨i,o⟩ ⟨hi,u,g,M,z⟩;dsimp only at hi u g M z;dsimp only;refine go 6<|Zc J (λm=>?_) (λm=>?_)
 .refine go 27 ⟨O2,O2,?_⟩;refine lp (G:=Nat×List Nat×Nat) [1,5,6,7,20,21,22,27,28] [0,1,2] (λq=>[(29,.int .i64 (q.1:Int)),(8,.int .u64 (q.2.2:Int))]) (λq=>[(3,Nl 1 125 Og v q.2.1)]) (λq=>(q.1<=(dg U y).length)/\(q.2.1.length=(dg U x).length+(dg U y).length)/\(∀d∈q.2.1,d<U)/\(∀j,i+(dg U y).length<=j->q.2.1.getD j 0=0)/\(q.2.2<U)/\(val U (q.2.1.take (i+(dg U y).length))+q.2.2*U^(i+q.1)=val U ((dg U x).take i)*y+(dg U x).getD i 0*U^i*val U ((dg U y).take q.1))) (λq=>(dg U y).length-q.1) (0,o,0) ⟨O1,u,g,M,Yp,by rw [z];simp [val]⟩ K2 K1 ?_;rintro⟨k,p,c⟩ ⟨N,B,a,l,f,h⟩;dsimp only at N B a l f h;dsimp only;have b:=Zvp (Yv Yp (Ol Yl x) i) (Yv Yp (Ol Yl y) k) (Yv Yp a (i+k)) f;refine go 6<|Zc J (λn=>?_) (λn=>?_)
  .refine go 17 ⟨O2,O2,?_⟩;refine cl 3 [] (Zo6 _ _ (Yv Yp (Ol Yl _) _) (Yv Yp (Ol Yl _) _)) λ_ _=>?_;refine go 14 ⟨O,?_⟩;refine dt (Yu 3 (i+k) J J J J (Xc pU) Qi Nx)<|go 1 ⟨O2,?_⟩;refine dt (Zll 0 J J J J O Zej)<|go 11 ?_;refine dt (Gm J J J)<|go 7 ?_;refine dt (Zll 0 J J J J O Zej)<|go 15 ⟨O,?_⟩;refine dt (Gm J J J)<|dt (Yu 3 (i+k) J J J J (Xc pU) Qi Nx)<|tt (Lb 3 (enc:=Og) J J J J J J pU J F.h O3 O2) (λ_ _=>?_);refine go 8 ⟨O,?_⟩;exact Xe (k+1,_,_) ⟨O1,O9,Mc a _ (bG _ Yp),λj H=>by rw [Pr O,aE O];exact l j H,b.2,Zy8 h O O b.1⟩ O1 K2 K1
  .refine go 5 ?_;obtain rfl:k=(dg U y).length:=O;have e:=h;rw [bW (aH (dg U y).length),Om Yl]at e;refine go 7 ⟨O,?_⟩;refine dt (Yu 3 (i+(dg U y).length) J J J J (Xc pU) Qi Nx)<|tt (Lb 3 (enc:=Og) J J J J J J pU J F.h O3 O2) (λ_ _=>?_);refine go 7 ⟨O,?_⟩;exact Xe (i+1,_) ⟨O1,O9,Mc a _ f,λj H=>by rw [Pr O,aE O];exact l j O,by dsimp only;rw [show i+1+(dg U y).length=i+(dg U y).length+1 by omega,Gs _ _ _ O,Xq,bD,<-e]⟩ O1 K1 K1
 .refine go 8 ?_;refine cl 3 [3] Qn λ_ _=>?_;refine Qy (Zbg 3 J J pU)<|go 4 ?_;obtain rfl:i=(dg U x).length:=O;have I:tz o=dg U (x*y):=by rw [<-Lr Yl _ g];congr 1;rw [Pu U o O,bW (aH _),Om Yl]at z;exact z
  exact Xg D _ results325 J aA (gow 3 Za I)
theorem Ybx(q:x<U):Yx prog 335 #[.int .u64 (x:Int)] [] (.int .i64 (bl x:Int)):=by
 refine Zd func335 ntmps335 λH G F g=>?_;simp only [U]at q;have c:=Lv x 32;have a:=Lv x 16;have l:=Lv x 8;have b:=Lv x 24;have d:=Lv x 40;have e:=Lv x 48;have f:=Lv x 56;have f32:=Bl 32 x;have f16:=Bl 16 x;have f8:=Bl 8 x;have f24:=Bl 24 x;have f40:=Bl 40 x;have f48:=Bl 48 x;have f56:=Bl 56 x;have r:=aS x (2^32) (2^16);have u:=aS x (2^32) (2^8);have z:=aS x (2^16) (2^8);have B:=aS (x/2^32) (2^16) (2^8);have D:=aS x (2^32) (2^16*2^8);simp only [Nat.reducePow,Nat.reduceMul]at *;refine go 12<|Zc J (λm=>?_) (λm=>?_)
 .refine go 3 ?_;refine dt (Ks 4294967296 (n:=32) J J J J J)<|go 14 ?_;refine Zc J (λo=>?_) (λo=>?_)
  .refine go 3 ?_;refine dt (Ks 65536 (n:=16) J J J J J)<|go 16 ⟨O,?_⟩;refine Zc J (λp=>?_) (λp=>?_)
   .refine go 3 ?_;refine dt (Ks 256 (n:=8) J J J J J)<|go 13 ⟨O,?_⟩;refine dt (Zbb J J De uT5)<|dt (Ze1 J J J uT9 J O O3 O5)<|dt (Bb J J uT5 uT3 Es)<|go 5 ⟨Gj O O,?_⟩;exact Xg g () results335 (Ep x O (by first|omega|(simp only [aS,Nat.reduceMul,c,a,l,b,d,e,f];omega))).symm aA Za
   .refine go 6 ?_;refine dt (Zbb J J De uT5)<|dt (Ze1 J J J uT9 J O O3 O5)<|dt (Bb J J uT5 uT3 Es)<|go 5 ⟨Gj O O,?_⟩;exact Xg g () results335 (Ep x O (by first|omega|(simp only [aS,Nat.reduceMul,c,a,l,b,d,e,f];omega))).symm aA Za
  .refine go 9<|Zc J (λi=>?_) (λi=>?_)
   .refine go 3 ?_;refine dt (Ks 256 (n:=8) J J J J J)<|go 13 ⟨O,?_⟩;refine dt (Zbb J J De uT5)<|dt (Ze1 J J J uT9 J O O3 O5)<|dt (Bb J J uT5 uT3 Es)<|go 5 ⟨Gj O O,?_⟩;exact Xg g () results335 (Ep x O (by first|omega|(simp only [aS,Nat.reduceMul,c,a,l,b,d,e,f];omega))).symm aA Za
   .refine go 6 ?_;refine dt (Zbb J J De uT5)<|dt (Ze1 J J J uT9 J O O3 O5)<|dt (Bb J J uT5 uT3 Es)<|go 5 ⟨Gj O O,?_⟩;exact Xg g () results335 (Ep x O (by first|omega|(simp only [aS,Nat.reduceMul,c,a,l,b,d,e,f];omega))).symm aA Za
 .refine go 9<|Zc J (λh=>?_) (λh=>?_)
  .refine go 3 ?_;refine dt (Ks 65536 (n:=16) J J J J J)<|go 16 ⟨O,?_⟩;refine Zc J (λj=>?_) (λj=>?_)
   .refine go 3 ?_;refine dt (Ks 256 (n:=8) J J J J J)<|go 13 ⟨O,?_⟩;refine dt (Zbb J J De uT5)<|dt (Ze1 J J J uT9 J O O3 O5)<|dt (Bb J J uT5 uT3 Es)<|go 5 ⟨Gj O O,?_⟩;exact Xg g () results335 (Ep x O (by first|omega|(simp only [aS,Nat.reduceMul,c,a,l,b,d,e,f];omega))).symm aA Za
   .refine go 6 ?_;refine dt (Zbb J J De uT5)<|dt (Ze1 J J J uT9 J O O3 O5)<|dt (Bb J J uT5 uT3 Es)<|go 5 ⟨Gj O O,?_⟩;exact Xg g () results335 (Ep x O (by first|omega|(simp only [aS,Nat.reduceMul,c,a,l,b,d,e,f];omega))).symm aA Za
  .refine go 9<|Zc J (λk=>?_) (λk=>?_)
   .refine go 3 ?_;refine dt (Ks 256 (n:=8) J J J J J)<|go 13 ⟨O,?_⟩;refine dt (Zbb J J De uT5)<|dt (Ze1 J J J uT9 J O O3 O5)<|dt (Bb J J uT5 uT3 Es)<|go 5 ⟨Gj O O,?_⟩;exact Xg g () results335 (Ep x O (by first|omega|(simp only [aS,Nat.reduceMul,c,a,l,b,d,e,f];omega))).symm aA Za
   .refine go 6 ?_;refine dt (Zbb J J De uT5)<|dt (Ze1 J J J uT9 J O O3 O5)<|dt (Bb J J uT5 uT3 Es)<|go 5 ⟨Gj O O,?_⟩;exact Xg g () results335 (Ep x O (by first|omega|(simp only [aS,Nat.reduceMul,c,a,l,b,d,e,f];omega))).symm aA Za
theorem Zl1(b:x<U):Yx prog 300 #[.int .u64 (x:Int)] [] (.int .i64 ((64-bl x:Nat):Int)):=by refine Zd func300 ntmps300 λf e d a=>?_;have c:bl x<=64:=(Xo 64 x).2 b;refine go 8 ?_;refine cl 0 [] (Ybx b) λ_ _=>?_;refine go 5 ⟨O,?_⟩;exact Xg a () results300 (by congr 1;omega) aA Za
theorem Zgw(g:bl x<=1099511627776:=by omega):Yx prog 241 #[v] [Iz v x] (.int .i64 (bl x:Int)):=by
 refine Zd func241 ntmps241 λj i f b=>?_;have e:=Px x;refine go 13<|Zc J (λa=>?_) (λa=>?_)
 .refine go 7 ?_;have c:x=0:=(Qp Yl x).1 O;exact Xg b () results241 (by rw [c];rfl) aA Za
 .have d:0<x:=by rcases aU x with rfl|h;(simp [Kp]at a);exact h
  obtain⟨k,l,m,n⟩:=Zru d;refine go 11 ⟨O,O,?_⟩;refine dt (Yu 1 ((dg U x).length-1) J J J J Zh Qi Nx)<|go 1 ⟨O2,?_⟩;refine cl 1 [] (Zl1 (Yv Yp (Ol Yl _) _)) λ_ _=>?_;refine go 5 ⟨O,?_⟩;exact Xg b () results241 (by congr 1;omega) aA Za
theorem Zwf(g:xs.length*8<=140737488355328):Yfu prog 362 #[v] [Ym 1 Og v xs] (G:=Value) (λr=>True) (λr=>r) (λr=>Nl 1 125 Og r xs):=by
 refine Zuh func362 J ntmps362 J K1 ?_;intro j h d e;have d:=Hw.mk d;simp only [Pa,Qc];refine Oo (f_nil (i:=1) J Zh) λc=>go 9 ?_;refine dt (Zt1 J J J (i:=1) J Zh Qi)<|go 2 ?_;refine Ow J (λb=>?_) (λb=>?_)
 .refine go 7 ?_;obtain rfl:xs=[]:=c (by simpa using b);exact Xh (Ml 9 1 125 Og)<|Zjq (.inl J) (.slice none 0 0) (λa w hs=>Zd1 hs results362 J) J aA J 9 J J J
 .refine go 4 ?_;refine tt (t_bs0 2 (enc:=Og) J J J Qi pU J d.h) λv _=>go 1 ?_;refine tt (Ha 2 1 8 J J J J J J O3 J Zh Qi ti125 J pU J J J O9 O3 J d.h) λf _=>go 4 ?_;exact Zjq (.inl J) _ (λa w hs=>Zd1 hs results362 J) J aA J 2 J (by rfl) J
theorem Zo7{h l:Nat}(hl:l<U)(hy:y<U)(hh:h<y):Yx prog 338 #[.int .u64 (h:Int),.int .u64 (l:Int),.int .u64 (y:Int)] [] (.tuple #[.int .u64 (((h*U+l)/y:Nat):Int),.int .u64 (((h*U+l)%y:Nat):Int)]):=by
 refine Zd func338 ntmps338 λw0 sc hw a8=>?_;have c0:U=18446744073709551616:=rfl;have hp:0<y:=O;have c1:bl y<=64:=(Xo 64 y).2 hy;obtain⟨s,hs⟩:∃s,s=64-bl y:=⟨_,rfl⟩;obtain⟨Y,g⟩:∃Y,Y=y*2^s:=⟨_,rfl⟩;obtain⟨b6,S⟩:=Zy0 hp hy hs;rw [<-g]at b6 S;have V:=S;obtain⟨D,hD⟩:∃D,D=(h*U+l)*2^s:=⟨_,rfl⟩;obtain⟨u,Z⟩:∃u,u=D/U:=⟨_,rfl⟩;obtain⟨v,a0⟩:∃v,v=D%U:=⟨_,rfl⟩;obtain⟨v1,Q⟩:∃x,x=v/4294967296:=⟨_,rfl⟩;obtain⟨v0,P⟩:∃x,x=v%4294967296:=⟨_,rfl⟩;obtain⟨d,b1⟩:∃x,x=Y/4294967296:=⟨_,rfl⟩;obtain⟨N,a9⟩:∃x,x=Y%4294967296:=⟨_,rfl⟩;have e:Y=d*4294967296+N:=O;have b7:=shl_lt hh (show y*2^s<U by rw [<-g];exact S);have c3:u<Y:=by rw [Z,hD,g];exact top_lt hl hh
 have hu:u<d*4294967296+N:=O;have c4:v<U:=by rw [a0];exact bG _ Yp
 have b0:2147483648<=d:=O;have i:d<4294967296:=O;have f:N<4294967296:=O;have M:v1<4294967296:=O;have I:v0<4294967296:=O;obtain⟨Q1,m⟩:∃x,x=(u*4294967296+v1)/Y:=⟨_,rfl⟩;obtain⟨t,H⟩:∃x,x=(u*4294967296+v1)%Y:=⟨_,rfl⟩;have c2:t<Y:=by rw [H];exact bG _ O
 have ht:t<d*4294967296+N:=O;obtain⟨Q0,k⟩:∃x,x=(t*4294967296+v0)/Y:=⟨_,rfl⟩;have R:0<Y:=O;obtain⟨a6,a7⟩:=dv_two (D:=D) R Z a0 Q P;rw [<-m,<-H,<-k]at a6;rw [<-H]at a7;have b8:Q0<4294967296:=by rw [k,e];exact dv_Q I ht
 have b9:Q1<4294967296:=by rw [m,e];exact dv_Q M hu
 refine go 13<|Zc J (λa1=>?_) (λa1=>?_)
 .exfalso;omega
 .refine go 10<|Zc J (λa2=>?_) (λa2=>?_)
  .exfalso;omega
  .refine go 9<|Zc J (λa3=>?_) (λa3=>?_)
   .refine go 1<|Qg (λ_=>False) [(0,0),(1,0),(2,0),(3,0),(4,0),(5,0),(6,0),(7,3)]<|go 2 ?_;refine Pe J J (Pz (Zwx J J J))<|go 2 ?_;refine Pe J J (Pz (u_rem J J J O))<|go 6 ?_;exact Na a8 () results338 (by have h0:h=0:=O;rw [h0];simp) aA Za
   .refine go 5 ?_;refine cl 0 [] (Zl1 hy) λ_ _=>?_;refine dt (Zhq J J uT3 Zwy (by simp only [U];omega))<|go 4 ?_;refine Zg (Ny 8 (v':= .int .u64 (s:Int)) J (by rw [hs]))<|go 3 ?_;refine dt (Zii J J J J)<|go 4 ?_;refine Zg (Ny 2 (v':= .int .u64 (Y:Int)) J (by rw [g,aQ (by rw [<-g];exact V)]))<|go 2 ?_;refine dt (Ks 4294967296 (n:=32) J J J J J)<|go 6 ?_;refine dt (Zmi J J J)<|go 7 ?_;refine dt (Zii J J J J)<|go 2 ?_;refine dt (Za5 J J J (by first|exact bG _ Yp|omega))<|dt (Zih J J (n:=64-s) J (by simp only [U];omega))<|dt (Ycn J J J (bG _ Yp) (bC (eP _ _) hl))<|go 4 ?_;refine Zg (Ny 11 (v':= .int .u64 (u:Int)) J (by rw [Z,hD,Zys O b7 hl]))<|go 3 ?_;refine dt (Zii J J J J)<|go 4 ?_;refine Zg (Ny 12 (v':= .int .u64 (v:Int)) J (by rw [a0,hD,Zvr h l s]))<|go 2 ?_;refine dt (Ks 4294967296 (n:=32) J J J J J)<|go 4 ?_;refine Zg (Ny 13 (v':= .int .u64 (v1:Int)) J (by rw [Q]))<|go 2 ?_;refine dt (Zmi J J J)<|go 4 ?_;refine Zg (Ny 14 (v':= .int .u64 (v0:Int)) J (by rw [Zpd,P]))<|Zg (Ny 9 (v':= .int .u64 (d:Int)) J (by rw [b1]))<|Zg (Ny 10 (v':= .int .u64 (N:Int)) J (by rw [Zpd,a9]))<|go 3 ?_;refine dt (Zwx J J J)<|go 8 ?_;refine dt (Gc J J J)<|dt (Za5 J J J (by first|exact bG _ Yp|omega))<|go 3 ?_;refine jn (G:=Unit) [2,8,9,10,11,13,14] [0] (λ_=>[(15,.int .u64 ((Q1:Nat):Int))]) (λ_=>[]) (λ_=>True) ?_ ?_
    .refine go 1<|Zg (Ny 16 (v':= .int .u64 ((u%d:Nat):Int)) J (by rw [rsub O O])) ?_;refine lp (G:=Nat×Nat) [2,8,9,10,11,13,14] [0] (λq=>[(15,.int .u64 (q.1:Int)),(16,.int .u64 (q.2:Int))]) (λq=>[]) (λq=>(dvI u v1 d N q.1 q.2)/\(q.2<4294967296)) (λq=>q.1) (u/d,u%d) ⟨dv0 b0 i f M hu,lF (bG _ O) i⟩ K2 aA ?_;rintro⟨a,r⟩ ⟨j,hr⟩;dsimp only at j hr;dsimp only;have b4:=j.1;have b5:=j.2.1;refine go 6<|Yq 69 J (λb2=>?_) (λb2=>?_)
     .refine go 16 ?_;have b:=Zfr O j M hu O;have c:=b.1;refine go 2 ?_;refine dt (Za5 (n:=1) J J J)<|go 4 ?_;refine Zg (Ny 15 (v':= .int .u64 ((a-1:Nat):Int)) J (Cf (Zos c O)))<|go 3 ?_;refine dt (Gm J J J)<|go 4 ?_;refine Zg (Ny 16 (v':= .int .u64 ((r+d:Nat):Int)) J (Cf (aQ O)))<|go 5<|Zc J (λa4=>?_) (λa4=>?_)
      .refine go 4 ?_;have z:Q1=a-1:=by rw [m,e];exact(Zc9 O f b.2 O O).symm
       exact Kh () aA ⟨by rw [z];rfl,aA⟩ aA
      .refine go 2 ?_;exact Xe (a-1,r+d) ⟨b.2,O8⟩ O1 K2 aA
     .have W:=Znp (show a<4294967296 by omega) f;have e1:=aQ (show a*N<U from W);have e2:=aQ (show 4294967296*r<U by omega);have e3:=aQ (show 4294967296*r+v1<U by omega);refine go 2 ?_;refine Et (Gc J J J) J J<|go 1 ?_;refine Et (Gc J J J) J J<|go 1 ?_;refine Et (Gm J J J) J J<|go 4 ?_;refine Zc J (λo=>?_) (λo=>?_)
      .rw [e1,e2,e3]at o;refine go 4 ?_;have b:=Zfr O j M hu O;have c:=b.1;refine go 2 ?_;refine dt (Za5 (n:=1) J J J)<|go 4 ?_;refine Zg (Ny 15 (v':= .int .u64 ((a-1:Nat):Int)) J (Cf (Zos c O)))<|go 3 ?_;refine dt (Gm J J J)<|go 4 ?_;refine Zg (Ny 16 (v':= .int .u64 ((r+d:Nat):Int)) J (Cf (aQ O)))<|go 5<|Zc J (λB=>?_) (λB=>?_)
       .refine go 4 ?_;have z:Q1=a-1:=by rw [m,e];exact(Zc9 O f b.2 O O).symm
        exact Kh () aA ⟨by rw [z];rfl,aA⟩ aA
       .refine go 2 ?_;exact Xe (a-1,r+d) ⟨b.2,O8⟩ O1 K2 aA
      .rw [e1,e2,e3]at o;refine go 4 ?_;have z:Q1=a:=by rw [m,e];exact(Zli O j O).symm
       exact Kh () aA ⟨by rw [z];rfl,aA⟩ aA
    .rintro _ -;refine go 3 ?_;refine dt (Gc J J J)<|go 1 ?_;refine dt (Gm J J J)<|go 2 ?_;refine dt (Gc J J J)<|dt (Za5 J J J (by first|exact bG _ Yp|omega))<|go 4 ?_;refine Zg (Ny 17 (v':= .int .u64 (t:Int)) J (by rw [H,m,Ztm R V]))<|go 3 ?_;refine dt (Zwx J J J)<|go 8 ?_;refine dt (Gc J J J)<|dt (Za5 J J J (by first|exact bG _ Yp|omega))<|go 3 ?_;refine jn (G:=Unit) [2,8,14,15,17] [0] (λ_=>[(18,.int .u64 ((Q0:Nat):Int))]) (λ_=>[]) (λ_=>True) ?_ ?_
     .refine go 1<|Zg (Ny 16 (v':= .int .u64 ((t%d:Nat):Int)) J (by rw [rsub O O])) ?_;refine lp (G:=Nat×Nat) [2,8,9,10,14,15,17] [0] (λq=>[(18,.int .u64 (q.1:Int)),(16,.int .u64 (q.2:Int))]) (λq=>[]) (λq=>(dvI t v0 d N q.1 q.2)/\(q.2<4294967296)) (λq=>q.1) (t/d,t%d) ⟨dv0 b0 i f I ht,lF (bG _ O) i⟩ K2 aA ?_;rintro⟨a,r⟩ ⟨j,hr⟩;dsimp only at j hr;dsimp only;have b4:=j.1;have b5:=j.2.1;refine go 6<|Yq 104 J (λb3=>?_) (λb3=>?_)
      .refine go 16 ?_;have b:=Zfr O j I ht O;have c:=b.1;refine go 2 ?_;refine dt (Za5 (n:=1) J J J)<|go 4 ?_;refine Zg (Ny 18 (v':= .int .u64 ((a-1:Nat):Int)) J (Cf (Zos c O)))<|go 3 ?_;refine dt (Gm J J J)<|go 4 ?_;refine Zg (Ny 16 (v':= .int .u64 ((r+d:Nat):Int)) J (Cf (aQ O)))<|go 5<|Zc J (λa5=>?_) (λa5=>?_)
       .refine go 4 ?_;have z:Q0=a-1:=by rw [k,e];exact(Zc9 O f b.2 O O).symm
        exact Kh () aA ⟨by rw [z];rfl,aA⟩ aA
       .refine go 2 ?_;exact Xe (a-1,r+d) ⟨b.2,O8⟩ O1 K2 aA
      .have W:=Znp (show a<4294967296 by omega) f;have e1:=aQ (show a*N<U from W);have e2:=aQ (show 4294967296*r<U by omega);have e3:=aQ (show 4294967296*r+v0<U by omega);refine go 2 ?_;refine Et (Gc J J J) J J<|go 1 ?_;refine Et (Gc J J J) J J<|go 1 ?_;refine Et (Gm J J J) J J<|go 4 ?_;refine Zc J (λp=>?_) (λp=>?_)
       .rw [e1,e2,e3]at p;refine go 4 ?_;have b:=Zfr O j I ht O;have c:=b.1;refine go 2 ?_;refine dt (Za5 (n:=1) J J J)<|go 4 ?_;refine Zg (Ny 18 (v':= .int .u64 ((a-1:Nat):Int)) J (Cf (Zos c O)))<|go 3 ?_;refine dt (Gm J J J)<|go 4 ?_;refine Zg (Ny 16 (v':= .int .u64 ((r+d:Nat):Int)) J (Cf (aQ O)))<|go 5<|Zc J (λF=>?_) (λF=>?_)
        .refine go 4 ?_;have z:Q0=a-1:=by rw [k,e];exact(Zc9 O f b.2 O O).symm
         exact Kh () aA ⟨by rw [z];rfl,aA⟩ aA
        .refine go 2 ?_;exact Xe (a-1,r+d) ⟨b.2,O8⟩ O1 K2 aA
       .rw [e1,e2,e3]at p;refine go 4 ?_;have z:Q0=a:=by rw [k,e];exact(Zli O j O).symm
        exact Kh () aA ⟨by rw [z];rfl,aA⟩ aA
     .rintro _ -;refine go 3 ?_;refine dt (Gc J J J)<|go 1 ?_;refine dt (Gm J J J)<|go 1 ?_;refine dt (Gc J J J)<|go 1 ?_;refine dt (Gm J J J)<|go 2 ?_;refine dt (Gc J J J)<|dt (Za5 J J J (by first|exact bG _ Yp|omega))<|go 1 ?_;refine dt (Zih J J J J)<|go 5 ?_;have hA:(Q1*4294967296%U+Q0)%U=(h*U+l)/y:=by rw [<-Ziu _ y s,<-hD,<-g,a6];simp only [U];omega
      have hB:((t*4294967296%U+v0)%U+(U-(Q0*Y)%U))%U/2^s=(h*U+l)%y:=by rw [<-Zit _ y s,<-hD,<-g,a7,k,Ztm R V]
      exact Na a8 () results338 (by rw [hA,hB]) aA Za
theorem Zvo{d:Nat}(u:bl x<=8589934592)(f:0<d)(g:d<U):Cal prog 336 #[v,.int .u64 (d:Int)] [Iz v x] false (G:=Value) (λr=>True) (λr=> .tuple #[r,.int .u64 ((x%d:Nat):Int)]) (λr=>[Iz r (x/d)]):=by
 refine Zd func336 ntmps336 λB z j i=>?_;have p:=Px x;refine go 10 ?_;refine tt (Gd 2 ((dg U x).length) 8 (enc:=Og) 0 J J J J Qi ti125 J pU.cells pU.pos J J J j.h) (λv _=>?_);refine go 18 ⟨O,?_⟩;refine lp (G:=Nat×List Nat×Nat) [0,1,6] [0,1] (λq=>[(8,.int .i64 ((q.1:Int)-1)),(7,.int .u64 (q.2.2:Int))]) (λq=>[(2,Nl 1 125 Og v q.2.1)]) (λq=>(q.1<=(dg U x).length)/\(q.2.1.length=(dg U x).length)/\(q.2.2<d)/\(∀d∈q.2.1,d<U)/\(val U (q.2.1.drop q.1)*d+q.2.2=val U ((dg U x).drop q.1))) (λq=>q.1) ((dg U x).length,List.replicate (dg U x).length 0,0) ⟨aH _,O7,O1,Oz Yp,by simp [val]⟩ K2 K1 ?_;rintro⟨k,o,r⟩ ⟨l,h,c,a,e⟩;dsimp only at l h c a e;dsimp only;refine go 7<|Zc J (λb=>?_) (λb=>?_)
 .refine go 10 ?_;refine dt (Yu 1 (k-1) J J J J Zh Qi Nx)<|go 2 ⟨O2,?_⟩;refine cl 2 [] (Zo7 (Yv Yp (Ol Yl _) _) g c) λ_ _=>go 3 ?_;refine dt (Yu 2 (k-1) J J J J (Xc pU) Qi Nx)<|tt (Lb 2 (enc:=Og) J J J J J J pU J j.h O3 O2) (λ_ _=>?_);refine go 9 ⟨O,?_⟩;exact Xe (k-1,_,_) ⟨O1,O9,bG _ f,Mc a _ (Zoi (Yv Yp (Ol Yl x) _) c),Zpr f O O (by rw [show k-1+1=k by omega];exact e)⟩ O1 ⟨by rw [show(((k-1:Nat):Int)-1)=(k:Int)-1-1 by omega];rfl,rfl,aA⟩ K1
 .refine go 8 ?_;refine cl 2 [2] Qn λ_ _=>?_;refine Qy (Zbg 2 J J pU)<|go 6 ?_;obtain rfl:k=0:=O;rw [iA,iA,Om Yl]at e;have n:tz o=dg U (x/d):=by rw [<-Lr Yl _ a,<-e,aJ,fR f,cS c,eO]
  have m:r=x%d:=by rw [<-e,aJ,gL,aQ c]
  exact Na i _ results336 (by rw [m]) aA (gow 2 Za n)
theorem Zkp{s:Nat}(Y:bl x<=4294967296:=by omega)(hs:s<=4294967296:=by omega):Cal prog 337 #[v,.int .i64 (s:Int)] [Iz v x] false (G:=Value) (λr=>True) (λr=>r) (λr=>[Iz r (x*2^s)]):=by
 refine Zd func337 ntmps337 λw0 Z M D=>?_;obtain⟨w,V⟩:∃w,w=s/64:=⟨_,rfl⟩;obtain⟨b,R⟩:∃b,b=s%64:=⟨_,rfl⟩;have W:=Px x;refine go 13<|Zc J (λm=>?_) (λm=>?_)
 .refine go 7<|Xh (Ml 9 1 125 Og) ?_;have N:x=0:=(Qp Yl x).1 O;exact Xg D (.slice none 0 0) results337 J aA (gow 9 Za (by rw [N,gI];rfl))
 .refine go 5 ?_;refine dt (Zdf J J J)<|go 1 ?_;refine dt (Zho J J J)<|go 5 ?_;refine Zg (Ny 5 (v':= .int .i64 (w:Int)) J (by congr 1;omega))<|Zg (Ny 6 (v':= .int .i64 (b:Int)) J (by congr 1;omega))<|go 6 ⟨O,O,?_⟩;refine tt (Gd 2 ((dg U x).length+w+1) 8 (enc:=Og) 0 J J J J Qi ti125 J pU.cells pU.pos J J J M.h) λv _=>go 12 ?_;refine lp (G:=Nat×List Nat) [5,6,7,23,24] [0,1] (λq=>[(25,.int .i64 (q.1:Int))]) (λq=>[(2,Nl 1 125 Og v q.2)]) (λq=>(q.1<=(dg U x).length)/\(q.2.length=(dg U x).length+w+1)/\(q.2.getD (w+q.1) 0<2^b)/\(∀j,w+q.1<j->q.2.getD j 0=0)/\(∀d∈q.2,d<U)/\(val U (q.2.take ((dg U x).length+w+1))=val U ((dg U x).take q.1)*2^b*U^w)) (λq=>(dg U x).length-q.1) (0,List.replicate ((dg U x).length+w+1) 0) ⟨O1,O7,by rw [Ik];exact dB b,λj _=>Ik _ j,Oz Yp,by rw [mI,Hl];simp [val]⟩ K1 K1 ?_;rintro⟨i,o⟩ ⟨hi,B,Q,l,a,H⟩;dsimp only at hi B Q l a H;dsimp only;have F:i<(dg U x).length->_:=λS=>Zxp (xs:=dg U x) (show b<=63 by omega) B.symm (show w+i+1<_ by omega) Q (l (w+i+1) O) (Yv Yp (Ol Yl x) i) H;refine go 6<|Zc J (λp=>?_) (λp=>?_)
  .refine go 14 ⟨O2,O2,?_⟩;have f:=Yv Yp (Ol Yl x) i;refine Qg (λ_=>False) [(0,0),(1,0),(2,0),(3,0),(4,0),(5,0),(6,0),(7,0),(8,0),(9,0),(10,0),(11,3)]<|go 4 ⟨O,?_⟩;refine Pe J J (Pz (Yu 2 (w+i) J J J J (Xc pU) Qi Nx))<|go 3 ⟨O2,?_⟩;refine Pe J J (Pz (Zii J J (n:=b) J J))<|Pe J J (Pz (Ycn J J J (Yv Yp a _) (bG _ Yp)))<|Pe J J (Pz (Yu 2 (w+i) J J J J (Xc pU) Qi Nx))<|r3' J (Lb 2 (enc:=Og) J J J J J J pU J M.h O3 O2) λ_ _=>go 8 ?_;refine Zc J (λu=>?_) (λu=>?_)
   .have c:=Mc (Mc a (w+i) (d:=o.getD (w+i) 0 ||| (dg U x).getD i 0*2^b%U) (iY (n:=64) (Yv Yp a _) (bG _ Yp))) (w+i+1) (d:=(dg U x).getD i 0/2^(64-b)) (bC (eP _ _) f);have g:((o.set (w+i) (o.getD (w+i) 0 ||| (dg U x).getD i 0*2^b%U)).set (w+i+1) ((dg U x).getD i 0/2^(64-b))).getD (w+i+1) 0<2^b:=by rw [Pr O9,aG rfl];exact Zbt O f
    have k:∀j,w+i+1<j->((o.set (w+i) (o.getD (w+i) 0 ||| (dg U x).getD i 0*2^b%U)).set (w+i+1) ((dg U x).getD i 0/2^(64-b))).getD j 0=0:=λj z=>by rw [Pr O9,aE O,Pr O,aE O];exact l j O
    have e:=F O;refine go 9 ⟨O,O,O,?_⟩;refine dt (Zih J J (n:=64-b) J O)<|dt (Yu 2 (w+i+1) J J J J (Xc pU) Qi Nx O (by simp only [dA];omega))<|tt (Lb 2 (enc:=Og) J J J J J J pU J M.h O3 (by simp only [dA];omega)) (λ_ _=>?_);refine go 7 ⟨O,?_⟩;exact Xe (i+1,_) ⟨O1,O9,by dsimp only;rw [show w+(i+1)=w+i+1 by omega];exact g,λj z=>by have I:w+(i+1)<j:=z;dsimp only;exact k j O,c,e⟩ O1 K1 K1
   .obtain rfl:b=0:=O;have c:=Mc a (w+i) (d:=o.getD (w+i) 0 ||| (dg U x).getD i 0*2^0%U) (iY (n:=64) (Yv Yp a _) (bG _ Yp));have g:(o.set (w+i) (o.getD (w+i) 0 ||| (dg U x).getD i 0*2^0%U)).getD (w+i+1) 0<2^0:=by rw [Pr O,aE O,l _ O];exact dB 0
    have k:∀j,w+i+1<j->(o.set (w+i) (o.getD (w+i) 0 ||| (dg U x).getD i 0*2^0%U)).getD j 0=0:=λj z=>by rw [Pr O,aE O];exact l j O
    have e:=F O;rw [show(dg U x).getD i 0/2^(64-0)=0 from cS f]at e;have h:=Zh5 (o.set (w+i) (o.getD (w+i) 0 ||| (dg U x).getD i 0*2^0%U)) (w+i+1) (by rw [Pr O,aE O,l _ O]);rw [h]at e;refine go 7 ⟨O,?_⟩;exact Xe (i+1,_) ⟨O1,O9,by dsimp only;rw [show w+(i+1)=w+i+1 by omega];exact g,λj z=>by have I:w+(i+1)<j:=z;dsimp only;exact k j O,c,e⟩ O1 K1 K1
  .refine go 8 ?_;refine cl 2 [2] Qn λ_ _=>?_;refine Qy (Zbg 2 J J pU)<|go 4 ?_;obtain rfl:i=(dg U x).length:=O;have P:tz o=dg U (x*2^s):=by rw [<-Lr Yl _ a];congr 1;rw [Pu U o O,bW (aH _),Om Yl,Zac,cF,<-bH,show b+64*w=s by omega]at H;exact H
   exact Xg D _ results337 J aA (gow 2 Za P)
theorem Ydw{s:Nat}(S:bl x<=8589934592)(hs:s<=8589934592):Cal prog 339 #[v,.int .i64 (s:Int)] [Iz v x] false (G:=Value) (λr=>True) (λr=>r) (λr=>[Iz r (x/2^s)]):=by
 refine Zd func339 ntmps339 λW V H F=>?_;obtain⟨w,m⟩:∃w,w=s/64:=⟨_,rfl⟩;obtain⟨b,k⟩:∃b,b=s%64:=⟨_,rfl⟩;have R:=Px x;have P:((dg U x).drop w).length=(dg U x).length-w:=dO;refine go 8 ?_;refine dt (Zdf J J J)<|go 1 ?_;refine dt (Zho J J J)<|go 6 ?_;refine Zg (Ny 5 (v':= .int .i64 (w:Int)) J (by congr 1;omega))<|Zg (Ny 6 (v':= .int .i64 (b:Int)) J (by congr 1;omega))<|go 7<|Zc J (λz=>?_) (λz=>?_)
 .refine go 7<|Xh (Ml 9 1 125 Og) ?_;have I:x/2^s=0:=by rw [Di m k,cS ((Yt Yl w x).1 O),Nat.zero_div]
  exact Xg F (.slice none 0 0) results339 J aA (gow 9 Za (by rw [I];rfl))
 .refine go 6 ?_;refine dt (d_suf 1 w J J J J Zh Qi Nx O)<|Qy (s_suf 1 2 w J J)<|tt (Zjz 3 (Zwf (by simp only [dO];omega)) J J J K1 call362 (Zn 2 J J J Yb) J H.h) λv _=>go 3 ?_;refine jn (G:=List Nat) [7] [0,1,2] (λo=>[]) (λo=>[(3,Nl 1 125 Og v o)]) (λo=>(o.length=(dg U x).length-w)/\(∀j,j<o.length->o.getD j 0=x/2^s/U^j%U)) ?_ ?_
  .refine go 6<|Zc J (λB=>?_) (λB=>?_)
   .refine go 8 ?_;refine lp (G:=Nat×List Nat) [0,5,6,7,24] [0,1,2] (λq=>[(25,.int .i64 (q.1:Int))]) (λq=>[(3,Nl 1 125 Og v q.2)]) (λq=>(q.1<=(dg U x).length-w)/\(q.2.length=(dg U x).length-w)/\(∀j,j<q.1->q.2.getD j 0=x/2^s/U^j%U)/\(∀j,q.1<=j->q.2.getD j 0=x/U^w/U^j%U)/\(∀d∈q.2,d<U)) (λq=>(dg U x).length-w-q.1) (0,(dg U x).drop w) ⟨aZ _,O7,λj f=>absurd f (dC j),λj _=>Ztp x w j,λd N=>Ol Yl x d (hZ N)⟩ K1 K1 ?_;rintro⟨i,o⟩ ⟨hi,u,p,l,a⟩;dsimp only at hi u p l a;dsimp only;refine go 6<|Zc J (λD=>?_) (λD=>?_)
    .refine go 17 ⟨O2,O2,?_⟩;refine dt (Zih J J (n:=b) J J)<|go 1 ⟨O2,?_⟩;refine tt (Lb 3 (enc:=Og) J J J J J J pU J H.h O3 O2) (λ_ _=>?_);refine go 11 ⟨O,?_⟩;refine Zc J (λg=>?_) (λg=>?_)
     .simp only [dA]at g;have c:∀j,((o.set i (o.getD i 0/2^b)).set i ((o.set i (o.getD i 0/2^b)).getD i 0 ||| ((dg U x).getD (w+i+1) 0*2^(64-b))%U)).getD j 0=if i=j then x/2^s/U^i%U else o.getD j 0:=λj=>by
       rw [Pr O9,Pr O,Pr O];split
       .rw [aG rfl,l i (aH _),Kq Yl,Di m k,Zoj,show x/U^(w+i+1)=x/U^w/U^i/U by rw [aS,aS,<-bL,<-bH];rfl,Zmv _ _ O]
       .rfl
      have h:=Mc (Mc a i (d:=o.getD i 0/2^b) (bC (eP _ _) (Yv Yp a _))) i (d:=(o.set i (o.getD i 0/2^b)).getD i 0 ||| ((dg U x).getD (w+i+1) 0*2^(64-b))%U) (iY (n:=64) (Yv Yp (Mc a _ (bC (eP _ _) (Yv Yp a _))) _) (bG _ Yp));refine Qg (λ_=>False) [(0,0),(1,0),(2,0),(3,0),(4,0),(5,0),(6,0),(7,0),(8,0),(9,0),(10,0),(11,0),(12,0),(13,0),(14,0),(15,0),(16,3)]<|go 9 ⟨O2,O2,O,O,?_⟩;refine Pe J J (Pz (Yu 1 (w+i+1) J J J J Zh Qi Nx O O2))<|go 3 ⟨O2,O,?_⟩;refine Pe J J (Pz (Zii J J (n:=64-b) J O))<|Pe J J (Pz (Ycn J J J (Yv Yp (Mc a _ (bC (eP _ _) (Yv Yp a _))) _) (bG _ Yp)))<|go 1 ⟨O2,?_⟩;refine r3' J (Lb 3 (enc:=Og) J J J J J J pU J H.h O3 O2) (λ_ _=>?_);refine go 7 ⟨O,?_⟩;exact Xe (i+1,_) ⟨O1,O9,λj f=>by dsimp only;rw [c j];split;(· rename_i e;rw [<-e]);exact p j (by have:j<i+1:=f;omega),λj f=>by dsimp only;rw [c j,aE (by have:i+1<=j:=f;omega)];exact l j (by have:i+1<=j:=f;omega),h⟩ O1 K1 K1
     .have c:∀j,(o.set i (o.getD i 0/2^b)).getD j 0=if i=j then x/2^s/U^i%U else o.getD j 0:=λj=>by
       rw [Pr O];split
       .rw [l i (aH _),Di m k,Zoj,Zu4 O];rw [aS,<-bL];exact cS (Zs5 (by simp only [dA]at g;omega))
       .rfl
      have h:=Mc a i (d:=o.getD i 0/2^b) (bC (eP _ _) (Yv Yp a _));refine go 7 ⟨O,?_⟩;exact Xe (i+1,_) ⟨O1,O9,λj f=>by dsimp only;rw [c j];split;(· rename_i e;rw [<-e]);exact p j (by have:j<i+1:=f;omega),λj f=>by dsimp only;rw [c j,aE (by have:i+1<=j:=f;omega)];exact l j (by have:i+1<=j:=f;omega),h⟩ O1 K1 K1
    .refine go 4 ?_;exact Kh _ ⟨O,by intro j f;rw [p j O]⟩ aA K1
   .refine go 1 ?_;exact Kh _ ⟨O7,by intro j f;rw [Ztp,Di m k,show b=0 by omega,fC,Nat.div_one]⟩ aA K1
  .rintro o ⟨u,Q⟩;refine go 3 ?_;refine cl 3 [3] Qn λ_ _=>?_;refine Qy (Zbg 3 J J pU)<|go 4 ?_;have M:tz o=dg U (x/2^s):=Zpm Yl Q (by rw [u,Di m k];exact bC (eP _ _) (Zs5 O));exact Xg F _ results339 J aA (gow 3 Za M)
theorem Zjb(z:bl x<=4294967296:=by omega):Yx prog 242 #[v] [Iz v x] (.string (Yw x)):=by
 refine Zd func242 ntmps242 λD B h g=>?_;have u:=Px x;have p:=Zg9 x;have r:=lenU x;have m:(List.replicate (dg 256 x).length (0:Nat)).length=(dg 256 x).length:=aW;refine go 8 ?_;refine cl 1 [1] Zgw λ_ _=>?_;refine go 1 ⟨O,?_⟩;refine dt (Zdf J J J)<|tt (Gd 2 ((dg 256 x).length) 1 (enc:=Zfb) 0 J J J J Zen ti5 J pB.cells pB.pos J J J h.h) λv _=>go 12 ?_;refine lp (G:=Nat×List Nat) [0,3,12] [0,1] (λq=>[(13,.int .i64 (q.1:Int))]) (λq=>[(2,Nl 1 5 Zfb v q.2)]) (λq=>(q.1<=(dg 256 x).length)/\(q.2.length=(dg 256 x).length)/\(∀j,j<q.1->q.2.getD j 0=x/256^((dg 256 x).length-1-j)%256)) (λq=>(dg 256 x).length-q.1) (0,List.replicate (dg 256 x).length 0) ⟨O1,O7,λj d=>absurd d (dC j)⟩ K1 K1 ?_;rintro⟨i,o⟩ ⟨hi,f,b⟩;dsimp only at hi f b;dsimp only;refine go 6<|Zc J (λc=>?_) (λc=>?_)
 .refine go 20 ⟨O,O,?_⟩;refine Zg (Ny 5 (v':= .int .i64 (((dg 256 x).length-1-i:Nat):Int)) J (by congr 1;omega)) ?_;have a:=Zlv x ((dg 256 x).length-1-i);rw [<-Kq Yl]at a;refine go 5 ?_;refine dt (Zdf J J J)<|dt (Yu 1 (((dg 256 x).length-1-i)/8) J J J J Zh Qi Nx)<|go 2 ⟨O,?_⟩;refine dt (Zho J J J)<|go 1 ⟨O,?_⟩;refine dt (Zih J J (n:=((dg 256 x).length-1-i)%8*8) J O)<|dt (Zbb J J De uT5)<|go 1 ⟨O2,?_⟩;refine tt (Lb 2 (enc:=Zfb) J J J J J J pB J h.h O3 O2) (λ_ _=>?_);refine go 7 ⟨O,?_⟩;exact Xe (i+1,_) ⟨O1,O9,λj d=>by dsimp only;rw [Pr O];split;(· rename_i e;rw [<-e];exact a);exact b j O⟩ O1 K1 K1
 .refine go 8 ?_;refine dt (d_b2s J J (i:=2) J (Xc pB) Zen uT9 uT5)<|go 4 ?_;have k:Yw x=⟨(o.map UInt8.ofNat).toArray⟩:=by
   have l:o=(dg 256 x).reverse:=by refine Zbr O9 (λj d=>?_);rw [b j O,Zk0 O,Kq O]
   rw [l];rfl
  exact Xg g () results242 (by rw [k]) aA Za
theorem Zae(H:bl x<=4294967296:=by omega):Cal prog 243 #[.string (Yw x)] [] false (G:=Value) (λr=>True) (λr=>r) (λr=>[Iz r x]):=by
 refine Zd func243 ntmps243 λM I b m=>?_;have F:=Px x;have B:=Zg9 x;have D:=lenU x;have p:=Hj x;refine go 10 ⟨O,?_⟩;refine dt (Zdf J J J)<|tt (Gd 1 ((dg U x).length) 8 (enc:=Og) 0 J J J J Qi ti125 J pU.cells pU.pos J J J b.h) λv _=>go 12 ?_;refine lp (G:=Nat×List Nat) [0,3,12] [0] (λq=>[(13,.int .i64 (q.1:Int))]) (λq=>[(1,Nl 1 125 Og v q.2)]) (λq=>(q.1<=(dg 256 x).length)/\(q.2.length=(dg U x).length)/\(∀w,w<q.2.length->q.2.getD w 0=hi x ((dg 256 x).length-q.1) w)) (λq=>(dg 256 x).length-q.1) (0,List.replicate (dg U x).length 0) ⟨O1,O7,λw b=>by dsimp only at *;rw [aW]at b;rw [Ik,hi_top O]⟩ K1 K1 ?_;rintro⟨i,o⟩ ⟨l,f,a⟩;dsimp only at l f a;dsimp only;refine go 6<|Zc J (λk=>?_) (λk=>?_)
 .refine go 20 ⟨O,O,?_⟩;refine Zg (Ny 5 (v':= .int .i64 (((dg 256 x).length-1-i:Nat):Int)) J (by congr 1;omega)) ?_;have c:=Zo5 x i O;have h:=a (((dg 256 x).length-1-i)/8) O;have d:o.getD (((dg 256 x).length-1-i)/8) 0<U:=by rw [h];exact bG _ Yp
  have g:∀w,w<o.length->(o.set (((dg 256 x).length-1-i)/8) (o.getD (((dg 256 x).length-1-i)/8) 0 ||| (((Yw x).data.toList.getD i 0).toNat*2^(((dg 256 x).length-1-i)%8*8))%U)).getD w 0=hi x ((dg 256 x).length-(i+1)) w:=λw b=>by
   rw [c,h,show(dg 256 x).length-i=(dg 256 x).length-1-i+1 by omega,Yef,Pr O,show(dg 256 x).length-(i+1)=(dg 256 x).length-1-i by omega];split
   .rename_i e;rw [e]
   .rename_i e;rw [a w b,show(dg 256 x).length-i=(dg 256 x).length-1-i+1 by omega];exact Zz6 e
  refine Qg (λ_=>False) [(0,0),(1,0),(2,0),(3,0),(4,0),(5,0),(6,0),(7,0),(8,0),(9,0),(10,0),(11,0),(12,0),(13,0),(14,0),(15,3)]<|go 2 ?_;refine Pe J J (Pz (Zdf J J J))<|Pe J J (Pz (Yu 1 (((dg 256 x).length-1-i)/8) J J J J (Xc pU) Qi Nx))<|go 3 ⟨O2,?_⟩;refine Pe J J (Pz (Ya7 J J J uT9 J))<|Pe J J (Pz (Zhq J J uT5 De (by have:=(((Yw x).data.toList.getD i 0).toNat_lt);simp only [U];omega)))<|go 1 ?_;refine Pe J J (Pz (Zho J J J))<|go 1 ⟨O,?_⟩;refine Pe J J (Pz (Zii J J (n:=((dg 256 x).length-1-i)%8*8) J O))<|Pe J J (Pz (Ycn J J J d (bG _ Yp)))<|Pe J J (Pz (Yu 1 (((dg 256 x).length-1-i)/8) J J J J (Xc pU) Qi Nx))<|r3' J (Lb 1 (enc:=Og) J J J J J J pU J b.h O3 O2) (λ_ _=>?_);refine go 7 ⟨O,?_⟩;exact Xe (i+1,_) ⟨O1,O9,λw b=>g w (by simpa using b)⟩ O1 K1 K1
 .refine go 12 ?_;have z:o=dg U x:=Zbr f (λj u=>by rw [a j u,Kq Yl,Zz8 O]);exact Xg m _ results243 J aA (gow 1 Za z)
theorem Zsu(hx:bl x<=4000000000)(e2:bl y<=4000000000)(hy:0<y):Cal prog 301 #[v,w] [Iz v x,Iz w y] true (G:=Value×Value) (λr=>True) (λr=> .tuple #[r.1,r.2]) (λr=>[Iz r.1 (x/y),Iz r.2 (x%y)]):=by
 refine Zd func301 ntmps301 λw0 sc p S=>?_;have hX:=Px x;have hY:=Px y;refine go 11 ?_;refine cl 2 [1,2] (Ai O O) λr hr=>go 3<|Zc J (λW=>?_) (λW=>?_)
 .have o:x<y:=hr.1.1 O;refine go 9<|Xh (Ml 9 1 125 Og) ?_;exact Na S (.slice none 0 0,v) results301 J aA (gow 9 (Nz 1 Za (by rw [aQ o])) (by rw [cS o];rfl))
 .have c6:y<=x:=by have:=hr.1;omega
  have e1:=Py c6;refine go 10<|Zc J (λY=>?_) (λY=>?_)
  .have V:y<U:=by have:=(Yt Yl 1 y).1 O;simpa using this
   have m:(dg U y).getD 0 0=y:=by rw [Kq Yl];simp [aQ V]
   refine go 6 ⟨O,O2,?_⟩;refine cl 3 [1] (Zvo O (by rw [m];exact hy) (by rw [m];exact V)) λv _=>go 11 ?_;refine tt (Xw [(0,_)] 4 (enc:=Og) [x%(dg U y).getD 0 0] J J K2 Qi ti125 J J J J J pU.cells J J p.h) λe4 _=>cl 4 [4] Qn λ_ _=>?_;refine Qy (Zbg 4 J J pU)<|go 6 ?_;exact Na S (_,_) results301 J aA (Nz 3 (gow 4 Za (by rw [Zdq (lF (bG _ (by rw [m];exact hy)) (by rw [m];exact V)),m])) (by rw [m]<;>rfl))
  .refine go 3 ?_;obtain⟨k,hk⟩:∃k,k=(dg U y).length:=⟨_,rfl⟩;have e0:k<=(dg U x).length:=O;obtain⟨b,hb⟩:∃b,b=64-bl ((dg U y).getD (k-1) 0):=⟨_,rfl⟩;obtain⟨b4,_,b3,a4,b1,H⟩:=Ydt hy hk hb;obtain⟨D,c⟩:∃D,D=y*2^b:=⟨_,rfl⟩;have c7:(dg U D).length=k:=by rw [c];exact b4
   have a3:D<U^k:=by rw [c];exact a4
   have a2:U^(k-1)*9223372036854775808<=D:=by rw [c];exact H
   have l:0<D:=by rw [c];exact fF hy (dB b)
   have d9:bl D<=4000000064:=by rw [c,Zq7 hy];omega
   refine go 5 ⟨O,?_⟩;refine dt (Yu 2 ((dg U y).length-1) J J J J Zh Qi Nx)<|go 1 ⟨O2,?_⟩;refine cl 4 [] (Zl1 (Yv Yp (Ol Yl y) _)) λ_ _=>?_;refine Qy (Ny 44 (v':= .int .i64 (b:Int)) J (by rw [hb,hk]))<|go 3 ?_;refine jn (G:=Value×Value) [0,8] [0,1,2] (λq=>[(9,q.1),(10,q.2)]) (λq=>[(81,Iz q.1 D),(82,Nl 1 125 Og q.2 (List.replicate ((dg U x).length+1) 0))]) (λq=>True) ?_ ?_
   .refine Zaw (λ_=>False) [8]<|Yn 4 [(0,0),(1,0),(3,0),(4,0),(5,0)]<|go 6 ⟨O,?_⟩;refine Ib 3 2 6 ?_ ?_
    .refine Bm (Zm 81 [2] Zkp) λe5 _=>?_;refine Yn 0 [(7,0),(6,1),(8,3)]<|go 1 ?_;refine Ec J (Gd 82 ((dg U x).length+1) 8 (enc:=Og) 0 J J J J Qi ti125 J pU.cells pU.pos J J J p.h) λe6 _=>go 2 ?_;exact Xp<|Kh (_,_) aA K2 ⟨by rw [c];rfl,rfl,aA⟩
    .refine Gr J J (Gd 82 ((dg U x).length+1) 8 (enc:=Og) 0 J J J J Qi ti125 J pU.cells pU.pos J J J p.h) (λe7 _=>?_);refine Yn 0 [(2,1),(7,0),(8,3)]<|Xs (Zm 81 [2] Zkp) λe8 _=>go 3 ?_;exact Xp<|Kh (_,_) aA K2 ⟨by rw [c];rfl,rfl,aA⟩
   .rintro⟨vd,vr⟩ -;dsimp only;refine go 1 ?_;have c9:(dg U (x*2^b)).length<=(dg U x).length+1:=(Yt Yl _ _).2 (by rw [bL];exact gY ((Yt Yl _ x).1 (aH _)) (by rw [Yb9];exact cN O O) Yp);refine go 4 ?_;refine cl 5 [1] Zkp λe9 _=>?_;refine tt (t_cpy 82 5 0 J J J J J J O3 J Zh Ya1 (by rw [aW];exact c9) (by rw [aW];omega) (by rw [aW];omega) Qi pU J p.h) λ_ _=>go 3 ?_;have a6:(spl (List.replicate ((dg U x).length+1) 0) 0 (dg U (x*2^b))).length=(dg U x).length+1:=by rw [Mo (by rw [aW];omega),aW]
    refine go 7 ?_;have d4:(List.replicate ((dg U x).length+1-k) (0:Nat)).length=(dg U x).length+1-k:=aW;refine Zg (Ny 11 (v':= .int .i64 (k:Int)) J (by rw [c7]))<|go 5 ⟨O,?_⟩;refine tt (Gd 6 ((dg U x).length+1-k) 8 (enc:=Og) 0 J J J J Qi ti125 J pU.cells pU.pos J J J p.h) (λd3 _=>?_);refine go 13 ⟨O,?_⟩;refine lp (G:=Nat×List Nat×List Nat) [8,9,10,11,12] [0,81,1,2,5] (λq=>[(13,.int .i64 ((q.1:Int)-1))]) (λq=>[(82,Nl 1 125 Og vr q.2.1),(6,Nl 1 125 Og d3 q.2.2)]) (λq=>(q.1<=(dg U x).length+1-k)/\(q.2.1.length=(dg U x).length+1)/\(∀d∈q.2.1,d<U)/\(q.2.2.length=(dg U x).length+1-k)/\(∀d∈q.2.2,d<U)/\(val U q.2.1<D*U^q.1)/\(val U (q.2.2.drop q.1)*U^q.1*D+val U q.2.1=x*2^b)) (λq=>q.1) ((dg U x).length+1-k,spl (List.replicate ((dg U x).length+1) 0) 0 (dg U (x*2^b)),List.replicate ((dg U x).length+1-k) 0) ⟨aH _,a6,Zl7 (Oz Yp) (Ol Yl _) 0,O7,Oz Yp,by rw [Zmh,Om Yl];exact Ya5 ((Yt Yl _ x).1 (aH _)) b1 b3 O a2,by rw [Zmh,Om Yl];simp [val]⟩ ⟨by rw [aW];rfl,aA⟩ K2 ?_;rintro⟨a,R,q⟩ ⟨hj,a7,e,d0,Q,M,hN⟩;dsimp only at hj a7 e d0 Q M hN;dsimp only;refine go 7<|Zc J (λZ=>?_) (λZ=>?_)
    .refine go 5 ?_;have P:val U R<U^(a-1+k+1):=by refine cL M ?_;rw [show a-1+k+1=k+a by omega,bH];exact aI _ (dZ a3)
     have u:tz ((R.drop (a-1)).take (a-1+k+1-(a-1)))=dg U (val U R/U^(a-1)):=Ych e O (by rw [show a-1+(a-1+k+1-(a-1))=a-1+k+1 by omega];exact P);have a9:val U R/U^(a-1)<D*U:=by rw [bQ (bK Yp),cF,<-mK,show(a-1).succ=a by omega];exact M
     have b0:bl (val U R/U^(a-1))<=4294967296:=by have h1:=Py (dZ a9);have h2:=Zq8 D U;have h3:bl U<=65:=(Xo 65 U).2 (by simp [U]);omega
     have b7:=Ycr e (j:=a-1) b3 P O;have b9:(dg U D).getD (k-1) 0*U^(k-1)<=D:=by rw [Kq Yl];exact aB (aI _ (Nat.mod_le _ _)) (Nat.div_mul_le_self _ _)
     have c2:val U R/U^(a-1)/D<=18446744073709551615:=by have:=(bQ l).2 (show _<U*D by rw [aJ];exact a9);simp only [U]at this ⊢;omega
     refine go 4 ?_;refine jn (G:=Nat) [8,9,10,11,12,13] [0,82,6,81,1,2,5] (λg=>[(14,.int .u64 (g:Int))]) (λg=>[]) (λg=>(val U R/U^(a-1)/D<=g)/\(g<U)) ?_ ?_
     .refine go 1<|Qg (λ_=>False) [(0,0),(1,0),(2,0),(3,0),(4,0),(5,0),(6,0),(7,0),(8,0),(9,0),(10,0),(11,0)]<|go 4 ⟨O,?_⟩;refine Pe J J (Pz (Yu 82 (a-1+k) J J J J (Xc pU) Qi Nx))<|go 4 ⟨O2,O,?_⟩;refine Pe J J (Pz (Yu 81 (k-1) J J J J Zh Qi Nx))<|go 4 ⟨O2,?_⟩;refine Zc J (λa0=>?_) (λa0=>?_)
      .refine Qg (λ_=>False) [(0,0),(1,0),(2,0),(3,0),(4,0),(5,0),(6,0),(7,0),(8,0),(9,0),(10,0),(11,0),(12,0),(13,0),(14,0),(15,0),(16,0),(17,0),(18,1),(19,0),(20,0),(21,0),(22,0)]<|go 4 ⟨O,?_⟩;refine Pe J J (Pz (Yu 82 (a-1+k) J J J J (Xc pU) Qi Nx))<|go 6 ⟨O2,O,O,?_⟩;refine Pe J J (Pz (Yu 82 (a-1+k-1) J J J J (Xc pU) Qi Nx))<|go 4 ⟨O2,O,?_⟩;refine Pe J J (Pz (Yu 81 (k-1) J J J J Zh Qi Nx))<|go 1 ⟨O2,?_⟩;refine Xs (Zm 6 [] (Zo7 (Yv Yp e _) (Yv Yp (Ol Yl _) _) O)) λ_ _=>go 5 ?_;exact Kh _ ⟨Zz9 b9 O b7,Zoi (Yv Yp e _) O⟩ K1 aA
      .refine go 1 ?_;exact Kh 18446744073709551615 ⟨c2,O3⟩ K1 aA
     .rintro g ⟨hg,f⟩;refine go 8 ⟨O,O,?_⟩;refine dt (d_mid (ii:=82) (i:=a-1) (j:=a-1+k+1) J J J J J (Xc pU) Qi Nx O O O O)<|go 7 ?_;refine tt (Xw [(0,_)] 7 (enc:=Og) [g] J J K2 Qi ti125 J J J J J pU.cells J J p.h) λf0 _=>cl 7 [7] Qn λ_ _=>?_;refine Qy (Zbg 7 J J pU)<|Qy (Zix 7 (Zdq f) J J)<|cl 83 [81,7] (Zst O (aB ((Xo 64 g).2 f) O)) λd5 _=>go 5 ?_;refine lp (G:=Nat×Value) [8,9,10,11,12,13,15] [0,82,6,81,1,2,5,7] (λq=>[(14,.int .u64 (q.1:Int)),(16,q.2)]) (λq=>[(83,Iz q.2 (D*q.1))]) (λq=>(val U R/U^(a-1)/D<=q.1)/\(q.1<U)) (λq=>q.1) (g,_) ⟨O1,O1⟩ ⟨J,J,aA⟩ ⟨J,aA⟩ ?_;rintro⟨g,vp⟩ ⟨hg,f⟩;dsimp only at hg f;dsimp only;have a5:bl (D*g)<=4294967296:=by have h1:=Zq8 D g;have h2:=(Xo 64 g).2 f;omega
      refine go 4 ?_;refine tt (Lg 7 Qn J J J K1 call172 (Zai 82 J J pU (Zfk (a-1) (a-1+k+1)) Zft Yb) J p.h) λ_ _=>go 1 ?_;refine tt (Lg 7 (Ai b0 a5) J J J K2 call272 (Zai 82 J J pU (Zx1 u (by rw [u]) (Zfk (a-1) (a-1+k+1))) (by rw [Ki];exact(Zft)) (Zn 83 J J J Yb)) J p.h) λe3 B=>go 3 ?_;refine Zc J (λa1=>?_) (λa1=>?_)
      .have o:val U R/U^(a-1)<D*g:=B.1.1 O;have b2:1<=g:=by rcases aU g with h|h;(rw [h,jW]at o;exact absurd o (dC _));exact h
       have b8:D<=D*g:=dL _ b2;have c3:val U R/U^(a-1)/D<=g-1:=by have:=(bQ l).2 (show _<g*D by rw [aJ];exact o);omega
       refine go 6 ?_;refine dt (Za5 (n:=1) J J J)<|go 3 ?_;refine Zg (Ny 14 (v':= .int .u64 ((g-1:Nat):Int)) J (Cf (Zos b2 f)))<|go 3 ?_;refine cl 8 [83,81] (Zcx a5 b8) λd6 _=>go 3<|Xh (Nq 8 83 J J J) ?_;exact Xe (g-1,_) ⟨c3,O8⟩ O1 K2 ⟨by rw [Nat.mul_sub_one];rfl,aA⟩
      .refine go 6 ?_;have hQ:g=val U R/U^(a-1)/D:=by have h1:=B.1;have h2:D*g<=val U R/U^(a-1):=O;exact iM ((jC l).2 (by rw [aJ];exact h2)) hg
       refine go 2 ?_;refine tt (Lg 8 Qn J J J K1 call172 (Zai 82 J J pU (Zfk (a-1) (a-1+k+1)) Zft Yb) J p.h) λ_ _=>go 1 ?_;refine tt (Lg 9 (Zcx b0) J J J K2 call273 (Zai 82 J J pU (Zx1 u (by rw [u]) (Zfk (a-1) (a-1+k+1))) (by rw [Ki];exact(Zft)) (Zn 83 J J J Yb)) J p.h) λd7 _=>go 4 ?_;have b5:(dg U (val U R/U^(a-1)-D*g)).length<=a-1+k+1-(a-1):=by
        have:val U R/U^(a-1)-D*g<D:=by rw [hQ];have h3:=bP (val U R/U^(a-1)) D;have h4:=bG (val U R/U^(a-1)) l;omega
        have:=(Yt Yl k _).2 (lF this a3);omega
       refine go 2 ?_;refine tt (t_clr (zv:= .bool false) (i:=82) (z:=0) (a-1) J J J J O3 (Ztn O) O O Qi pU (λw=>zeroValue125 w) J J p.h) λ_ _=>go 6 ?_;refine tt (t_cpy 82 9 (a-1) J J J J J J O3 J Zh (Ztn (by rw [Mo (by rw [aW];omega)];omega)) b5 (by rw [Mo (by rw [aW];omega)];omega) (by rw [Mo (by rw [aW];omega)];omega) Qi pU J p.h) λ_ _=>go 2 ?_;have c0:a-1+(List.replicate (a-1+k+1-(a-1)) 0).length<=R.length:=by rw [aW];omega
       have c8:=Mo (xs:=R) (lo:=a-1) c0;have c1:a-1+(dg U (val U R/U^(a-1)-D*g)).length<=(spl R (a-1) (List.replicate (a-1+k+1-(a-1)) 0)).length:=O;have F:=Ycm e (j:=a-1) (n:=a-1+k+1-(a-1)) O (by rw [show a-1+(a-1+k+1-(a-1))=a-1+k+1 by omega];exact P) b5;rw [Om Yl]at F;have b6:=Ya4 (j:=a-1) (N:=x*2^b) (Vq:=val U (q.drop a)) l hQ (by rw [show a-1+1=a by omega];exact hN);have a8:=b6.1;have I:=b6.2;rw [<-F]at a8 I;have c5:val U ((q.set (a-1) g).drop (a-1))=g+U*val U (q.drop a):=by rw [drop_set O,show a-1+1=a by omega];rfl
       rw [<-c5]at I;refine go 4 ?_;refine dt (Yu 6 (a-1) J J J J (Xc pU) Qi Nx)<|tt (Lb 6 (enc:=Og) J J J J J J pU J p.h O3 O2) (λ_ _=>?_);refine go 8 ⟨O,?_⟩;exact Xe (a-1,_,_) ⟨O1,(Mo c1).trans (c8.trans a7),Zl7 (Zl7 e (Oz Yp) _) (Ol Yl _) _,O9,Mc Q _ f,a8,I⟩ O1 ⟨by rw [show(((a-1:Nat):Int)-1)=(a:Int)-1-1 by omega];rfl,aA⟩ K2
    .refine go 6 ?_;obtain rfl:a=0:=O;rw [fC,lX]at M;have c4:bl (val U R)<=8589934592:=by have:=Py (dZ M);omega
     refine go 2 ?_;refine cl 9 [6] Qn λ_ _=>?_;refine Qy (Zbg 6 J J pU)<|go 1 ?_;refine cl 9 [82] Qn λ_ _=>?_;refine Qy (Zbg 82 J J pU)<|Qy (Zix 82 (Lr Yl R e).symm J J)<|go 1 ?_;refine cl 10 [82] (Ydw c4 O) λd8 _=>go 5 ?_;rw [iA,fC,lX]at hN;have d1:tz q=dg U (x/y):=by rw [<-Lr Yl _ Q,<-Ziu x y b,<-c,<-hN,aJ,fR l,cS M,eO]
     have d2:val U R/2^b=x%y:=by rw [<-Zit x y b,<-c,<-hN,aJ,gL,aQ M]
     exact Na S (_,_) results301 J aA (gow 6 (Nz 10 Za (by rw [d2])) d1)
theorem Zkq(l:bl x<=4000000000:=by omega)(m:bl y<=4000000000:=by omega):Cal prog 297 #[v,w] [Iz v x,Iz w y] true (G:=Value) (λr=>True) (λr=>r) (λr=>[Iz r (Nat.gcd x y)]):=by
 refine Zd func297 ntmps297 λD u p j=>?_;have n:=Px x;have o:=Px y;refine go 7<|Zg (Nq 1 91 J J J)<|Zg (Nq 2 92 J J J) ?_;refine lp (G:=Value×Value×Nat×Nat) [] [0,1,2] (λq=>[(0,q.1),(1,q.2.1)]) (λq=>[(91,Iz q.1 q.2.2.1),(92,Iz q.2.1 q.2.2.2)]) (λq=>(Nat.gcd q.2.2.1 q.2.2.2=Nat.gcd x y)/\(bl q.2.2.1<=4000000000)/\(bl q.2.2.2<=4000000000)) (λq=>q.2.2.2) (v,w,x,y) ⟨J,l,m⟩ K2 K2 ?_;rintro⟨z,B,a,b⟩ ⟨i,k,f⟩;dsimp only at i k f;dsimp only;refine go 8<|Zc J (λd=>?_) (λd=>?_)
 .have c:0<b:=by rcases aU b with h|h;(subst h;simp [Kp]at d);exact h
  refine go 7 ?_;refine cl 3 [91,92] (Zsu k f c) λg _=>go 14 ?_;have e:a%b<b:=bG _ c;exact Xh (Nq 92 91 J J J)<|Xh (Nq 4 92 J J J)<|Xe (_,_,b,a%b) ⟨by dsimp only;rw [<-i,Nat.gcd_comm b,<-Nat.gcd_rec,Nat.gcd_comm],f,aB (Py (dZ e)) f⟩ e K2 K2
 .have c:b=0:=(Qp Yl b).1 O;refine go 12 ?_;exact Xg j _ results297 J aA (Nz 91 Za (by rw [<-i,c,Nat.gcd_zero_right]))
theorem Zkm{x:Int}(hs:sg s x):Cal prog 203 #[.agg #[.bool s,v]] [Iz v x.natAbs] true (G:=Bool×Value) (λr=>sg r.1 (-x)) (λr=> .agg #[.bool r.1,r.2]) (λr=>[Iz r.2 (-x).natAbs]):=by refine Zd func203 ntmps203 λg f e c=>go 2 ?_;refine Zw (Zu 2) λb _=>Zw (Zr 3) λd _=>go 9 ?_;refine dt (Xd [(0,_),(1,_)] J K4 (λa w hs=>Mb ((Zf J) a w hs) ((Qm 1 J Zh) a w hs)))<|go 4 ?_;exact Xg c (!s,v) results203 J (Zxr hs) (Nz 1 Za (by rw [eF]))
theorem Zan{x y:Int}(hs:sg s x)(f:sg t y)(g:bl x.natAbs<=4294967296:=by omega)(h:bl y.natAbs<=4294967296:=by omega):Cal prog 270 #[.agg #[.bool s,v],.agg #[.bool t,w]] [Iz v x.natAbs,Iz w y.natAbs] true (G:=Bool×Value) (λr=>sg r.1 (x*y)) (λr=> .agg #[.bool r.1,r.2]) (λr=>[Iz r.2 (x*y).natAbs]):=by refine Zd func270 ntmps270 λk j i c=>go 2 ?_;refine Zw (Zu 3) λb _=>Zw (Zu 4) λd _=>Zw (Zr 5) λe _=>go 3<|Qg (λ_=>False) [(0,0),(1,0),(2,0),(3,0),(4,0),(5,0),(6,0),(7,0),(8,0),(9,1),(10,0),(11,3)]<|go 9<|Xs (Zm 6 [1,2] (Zst g h)) λv _=>?_;refine Pe J J (Pz (Xd [(0,_),(1,_)] J K4 (λa w hs=>Mb ((Zf J) a w hs) ((Qm 6 J Zh) a w hs))))<|go 4 ?_;exact Xg c (_,_) results270 J (sg_mul hs f) (Nz 6 Za (by rw [cC]))
theorem Zgt{x:Int}(hs:sg s x)(g:bl x.natAbs<=4294967296:=by omega):Cal prog 204 #[.agg #[.bool s,v]] [Iz v x.natAbs] true (G:=Unit) (λ_=>True) (λ_=> .int .i64 x.sign) (λ_=>[]):=by
 refine Zd func204 ntmps204 λi h f d=>?_;have e:=Px x.natAbs;refine go 2<|Zw (Zu 2) λb _=>go 14<|Zc J (λa=>?_) (λa=>?_)
 .refine go 8 ?_;exact Xg d () results204 (Zu3 a) aA Za
 .refine go 7<|Ow J (λc=>?_) (λc=>?_)
  .refine go 8 ?_;exact Xg d () results204 (Zxo hs c a) aA Za
  .refine go 9 ?_;exact Xg d () results204 (Zxn hs c a) aA Za
theorem Zcw{x y:Int}(hs:sg s x)(g:sg t y)(i:bl x.natAbs<=4294967296:=by omega)(j:bl y.natAbs<=4294967296:=by omega):Cal prog 202 #[.agg #[.bool s,v],.agg #[.bool t,w]] [Iz v x.natAbs,Iz w y.natAbs] true (G:=Bool×Value) (λr=>sg r.1 (x+y)) (λr=> .agg #[.bool r.1,r.2]) (λr=>[Iz r.2 (x+y).natAbs]):=by
 refine Zd func202 ntmps202 λu q p f=>go 2 ?_;refine Zw (Zu 3) λb _=>Zw (Zu 4) λl _=>Zw (Zr 5) λm _=>go 14<|Ow J (λd=>?_) (λd=>?_)
 .have c:s=t:=by simpa using d
  refine go 1<|Qg (λ_=>False) [(0,0),(1,0),(2,0),(3,0),(4,0),(5,0),(6,1),(7,0),(8,3)]<|go 6<|Xs (Zm 6 [1,2] (Zsv i j)) λv _=>?_;refine Pe J J (Pz (Xd [(0,_),(1,_)] J K4 (λa w hs=>Mb ((Zf J) a w hs) ((Qm 6 J Zh) a w hs))))<|go 6 ?_;exact Xg f (_,_) results202 J (Zr0 hs (c▸g)) (Nz 6 Za (by rw [Zdn hs (c▸g)]))
 .have c:s≠t:=by simpa using d
  refine go 6 ?_;refine cl 6 [1,2] (Ai i j) λr k=>go 4<|Zc J (λh=>?_) (λh=>?_)
  .have e:y.natAbs<=x.natAbs:=by have:=k.1;omega
   refine go 1<|Qg (λ_=>False) [(0,0),(1,0),(2,0),(3,0),(4,0),(5,0),(6,1),(7,0),(8,3)]<|go 6<|Xs (Zm 7 [1,2] (Zcx i)) λn _=>?_;refine Pe J J (Pz (Xd [(0,_),(1,_)] J K4 (λa w hs=>Mb ((Zf J) a w hs) ((Qm 7 J Zh) a w hs))))<|go 6 ?_;exact Xg f (_,_) results202 J (Zfh hs g c e) (Nz 7 Za (by rw [Cb hs g c e]))
  .have e:x.natAbs<=y.natAbs:=by have:=k.1;omega
   refine go 4<|Qg (λ_=>False) [(0,0),(1,0),(2,0),(3,0),(4,0),(5,0),(6,1),(7,0),(8,3)]<|go 6<|Xs (Zm 8 [2,1] (Zcx j)) λo _=>?_;refine Pe J J (Pz (Xd [(0,_),(1,_)] J K4 (λa w hs=>Mb ((Zf J) a w hs) ((Qm 8 J Zh) a w hs))))<|go 4 ?_;exact Xg f (_,_) results202 J (by rw [iD];exact Zfh g hs (fS c) e) (Nz 8 Za (by rw [iD,Cb g hs (fS c) e]))
theorem Pf{x:Int}(hs:sg s x)(e:bl x.natAbs<=4294967296:=by omega):Cal prog 177 #[.agg #[.bool s,.string (Yw x.natAbs)]] [] true (G:=Bool×Value) (λr=>sg r.1 x) (λr=> .agg #[.bool r.1,r.2]) (λr=>[Iz r.2 x.natAbs]):=by refine Zd func177 ntmps177 λh g f c=>go 2 ?_;refine Zw (Zu 1) λb _=>Zw (Zr 2) λd _=>go 3<|Qg (λ_=>False) [(0,0),(1,0),(2,0),(3,0),(4,1),(5,0),(6,3)]<|go 4<|Xs (Zm 3 [] (Zae e)) λv _=>?_;refine Pe J J (Pz (Xd [(0,_),(1,_)] J K4 (λa w hs=>Mb ((Zf J) a w hs) ((Qm 3 J Zh) a w hs))))<|go 4 ?_;exact Xg c (_,_) results177 J hs (Nz 3 Za J)
theorem Ll{x:Int}(hs:sg s x)(g:bl x.natAbs<=4294967296:=by omega):Yx prog 173 #[.agg #[.bool s,v]] [Iz v x.natAbs] (Bs x):=by
 refine Zd func173 ntmps173 λi h f d=>go 2 ?_;refine Zw (Zu 2) λb _=>Zw (Zr 3) λe _=>go 8 ?_;refine cl 3 [1] Zgw λ_ _=>go 3<|Zc J (λc=>?_) (λc=>?_)
 .refine go 2 ?_;refine dt (Xd [] J aA (λa w hs=>Yby))<|go 6 ?_;exact Na d () results173 (Zut c) aA Za
 .refine go 3 ?_;cases s
  .refine Qg (λ_=>False) [(0,0),(1,0),(2,0),(3,2),(4,2),(5,2),(6,2),(7,0),(8,0),(9,0),(10,1),(11,0),(12,3),(13,3)]<|go 10<|Xs (Zm 3 [1] Zjb) λ_ _=>?_;refine Pe J J (Pz (Xd [(0,_),(1,_)] J K4 (λa w hs=>Zl4 ((Zf J) a w hs) ((Zf J) a w hs))))<|go 5 ?_;exact Na d () results173 (by first|exact Zme hs c|exact Zmd hs c) aA Za
  .refine Qg (λ_=>False) [(0,0),(1,0),(2,0),(3,0),(4,0),(5,0),(6,0),(7,0),(8,0),(9,0),(10,1),(11,0),(12,3),(13,3)]<|go 10<|Xs (Zm 3 [1] Zjb) λ_ _=>?_;refine Pe J J (Pz (Xd [(0,_),(1,_)] J K4 (λa w hs=>Zl4 ((Zf J) a w hs) ((Zf J) a w hs))))<|go 5 ?_;exact Na d () results173 (by first|exact Zme hs c|exact Zmd hs c) aA Za
theorem Zcv(x y:Int)(hs:sg s x)(m:sg t y)(M:bl y.natAbs<=3000000000)(i:y≠0)(I:bl x.natAbs<=3000000000:=by omega):Cal prog 244 #[.agg #[.bool s,v],.agg #[.bool t,w]] [Iz v x.natAbs,Iz w y.natAbs] true (G:=Bool×Value×Value) (λr=>sg r.1 (x/y)) (λr=> .tuple #[.agg #[.bool r.1,r.2.1],.agg #[.bool false,r.2.2]]) (λr=>[Iz r.2.1 (x/y).natAbs,Iz r.2.2 (x%y).natAbs]):=by
 refine Zd func244 ntmps244 λP N z f=>?_;have F:=Px x.natAbs;have H:=Px y.natAbs;have j:0<y.natAbs:=O;have l:x.natAbs%y.natAbs<y.natAbs:=bG _ j;have u:=Py (dZ l);have q:=Py (eP x.natAbs y.natAbs);refine go 2<|Zw (Zu 3) λb _=>Zw (Zu 4) λn _=>Zw (Zr 5) λo _=>Zw (Zr 6) λp _=>go 8 ?_;refine cl 7 [1,2] (Zsu O O j) λg _=>go 13<|Gi 18 J (λe=>?_) (λe=>?_)
 .refine go 6<|Zc J (λc=>?_) (λc=>?_)
  .subst e;have k:0<x.natAbs%y.natAbs:=by rcases aU (x.natAbs%y.natAbs)with h|h;(rw [h]at c;simp [Kp]at c);exact h
   have d:=divA hs m i k;refine Qg (λ_=>False) [(0,0),(3,0),(4,0),(5,0),(1,1),(2,1),(6,1),(7,0),(8,3)]<|go 4 ?_;refine Ec J (Xw [(0,_)] 9 (enc:=Og) (dg U 1) J J K2 Qi ti125 J J J J J pU.cells J J z.h) λv _=>Xs (Zm 10 [7,9] (Zsv O (show bl 1<=4294967296 by decide))) λB _=>Xs (Zm 11 [2,8] (Zcx O)) λD _=>go 12 ?_;refine dt (Xd [(0,_),(1,_)] J K4 (λa w hs=>Mb ((Zf J) a w hs) ((Qm 10 J Zh) a w hs)))<|go 1 ?_;refine dt (Xd [(0,_),(1,_)] J K4 (λa w hs=>Mb ((Zf J) a w hs) ((Qm 11 J Zh) a w hs)))<|go 5 ?_;exact Na f (_,_,_) results244 J d.1 (Nz 10 (Nz 11 Za (by rw [d.2.2]<;>rfl)) (by rw [d.2.1]<;>rfl))
  .have d:=divB hs m i (.inr ((Qp Yl _).1 O));refine go 10 ?_;refine dt (Xd [(0,_),(1,_)] J K4 (λa w hs=>Mb ((Zf J) a w hs) ((Qm 7 J Zh) a w hs)))<|go 1 ?_;refine dt (Xd [(0,_),(1,_)] J K4 (λa w hs=>Mb ((Zf J) a w hs) ((Qm 8 J Zh) a w hs)))<|go 5 ?_;exact Na f (_,_,_) results244 J d.1 (Nz 7 (Nz 8 Za (by rw [d.2.2]<;>rfl)) (by rw [d.2.1]<;>rfl))
 .have d:=divB hs m i (.inl e);refine go 17 ?_;refine dt (Xd [(0,_),(1,_)] J K4 (λa w hs=>Mb ((Zf J) a w hs) ((Qm 7 J Zh) a w hs)))<|go 1 ?_;refine dt (Xd [(0,_),(1,_)] J K4 (λa w hs=>Mb ((Zf J) a w hs) ((Qm 8 J Zh) a w hs)))<|go 5 ?_;exact Na f (_,_,_) results244 J d.1 (Nz 7 (Nz 8 Za (by rw [d.2.2]<;>rfl)) (by rw [d.2.1]<;>rfl))
end Go.Sky

