/- Rules, arithmetic and contracts: part 9. No conditions but those that each theorem names. -/
import Derived.Test.YtpmihempjefadaaGreatAw07
set_option linter.all false
set_option maxHeartbeats 4000000
namespace Go.Sky
open Go.RowKit Below
variable {P:Program} {N:Nat} {sc:Nat->Prop} {env env':Qj} {H H':Hp} {Q Q':Exit->Act->World->Prop} {M:Nat->Prop}
class EnI (vs:List Value) (env:outParam Qj):Prop where h:Qf 0 vs=env
class PnI (vs:List Pc) (H:outParam Hp):Prop where h:Yg 1 vs=H
section
variable {a b c d e f g i j:Value} {p q r s t u v w x y:Pc}
instance:EnI [] []:=⟨rfl⟩
instance:EnI [a] [(0,a)]:=⟨rfl⟩
instance:EnI [a,b] [(0,a),(1,b)]:=⟨rfl⟩
instance:EnI [a,b,c] [(0,a),(1,b),(2,c)]:=⟨rfl⟩
instance:EnI [a,b,c,d] [(0,a),(1,b),(2,c),(3,d)]:=⟨rfl⟩
instance:EnI [a,b,c,d,e] [(0,a),(1,b),(2,c),(3,d),(4,e)]:=⟨rfl⟩
instance:EnI [a,b,c,d,e,f] [(0,a),(1,b),(2,c),(3,d),(4,e),(5,f)]:=⟨rfl⟩
instance:EnI [a,b,c,d,e,f,g] [(0,a),(1,b),(2,c),(3,d),(4,e),(5,f),(6,g)]:=⟨rfl⟩
instance:PnI [] []:=⟨rfl⟩
instance:PnI [p] [(1,p)]:=⟨rfl⟩
instance:PnI [p,q] [(1,p),(2,q)]:=⟨rfl⟩
instance:PnI [p,q,r] [(1,p),(2,q),(3,r)]:=⟨rfl⟩
instance:PnI [p,q,r,s] [(1,p),(2,q),(3,r),(4,s)]:=⟨rfl⟩
instance:PnI [p,q,r,s,t] [(1,p),(2,q),(3,r),(4,s),(5,t)]:=⟨rfl⟩
instance:PnI [p,q,r,s,t,u] [(1,p),(2,q),(3,r),(4,s),(5,t),(6,u)]:=⟨rfl⟩
instance:PnI [p,q,r,s,t,u,v] [(1,p),(2,q),(3,r),(4,s),(5,t),(6,u),(7,v)]:=⟨rfl⟩
instance:PnI [p,q,r,s,t,u,v,w] [(1,p),(2,q),(3,r),(4,s),(5,t),(6,u),(7,v),(8,w)]:=⟨rfl⟩
instance:PnI [p,q,r,s,t,u,v,w,x] [(1,p),(2,q),(3,r),(4,s),(5,t),(6,u),(7,v),(8,w),(9,x)]:=⟨rfl⟩
instance:PnI [p,q,r,s,t,u,v,w,x,y] [(1,p),(2,q),(3,r),(4,s),(5,t),(6,u),(7,v),(8,w),(9,x),(10,y)]:=⟨rfl⟩
end
class RoL (l:List Pc):Prop where h:AllRo l
instance:RoL []:=⟨aA⟩
instance {p:Pc} {r:List Pc} [h:RoI p] [h2:RoL r]:RoL (p::r):=⟨⟨h.h,h2.h⟩⟩
theorem Zd {f:FuncId} {fn:Func} {c:Code} {vs:List Value} {pre:List Pc} {al:Bool} {G:Type} {φ:G->Prop} {val:G->Value} {l:G->List Pc} {N:Nat} (B:P.funcs[f]? = some fn) (o:fn.ntmps=N)
  [he:EnI vs env] [hp:PnI pre H] [hro:RoL pre] (h:∀k (sc:Nat->Prop),Hw k sc->(∀b,sc b->k.heap.size<=b\/∃q∈pre,q.fp b)->E P N sc c (Zag P fn k pre al φ val l) env ((0,Zt k (λ_=>False))::H))
  (z:fn.body=some c:=by rfl) (m:Nat.ble vs.length N=true:=by rfl):Cal P f vs.toArray pre al φ val l:=
 cal_in B z o m hro.h λk sc D n=>by rw [he.h,hp.h];exact h k sc ⟨D⟩ n
class RvI (P:Program) (N:Nat) (sc:Nat->Prop) (env:Qj) (H:Hp) (r:ResultVar) (v:outParam Value):Prop where h:RV P N sc env H r v
instance {t:Nat} {v:Value} [h:Som (lk2 env t) v]:RvI P N sc env H (.tmp t) v:=⟨h.l⟩
instance {c b i k:Nat} {t tb:TypeId} {l:List Value} [h:Som (lk2 env c) (.pointer (some ⟨b,0,none⟩))] [h1:Agg P t true] [h2:BxI H b i tb l] [h3:Siz P t k] [h4:TB (lenq l k)]:RvI P N sc env H (.cell c t) (.agg l.toArray):=⟨Gw _ h.l h2.h h1.h h3.h (Zf2 h4.h)⟩
instance {c b i:Nat} {t tb:TypeId} {v:Value} [h:Som (lk2 env c) (.pointer (some ⟨b,0,none⟩))] [h1:Agg P t false] [h2:BxI H b i tb [v]]:RvI P N sc env H (.cell c t) v:=⟨Kr _ h.l h2.h h1.h⟩
section
variable {fn:Func} {pre:List Pc} {al:Bool} {G:Type} {φ:G->Prop} {val:G->Value} {its:G->List Pc} {w0:World} {r1 r2 r3:ResultVar} {v1 v2 v3:Value}
def Yx(k:∀b,sc b->w0.heap.size<=b\/∃q∈pre,q.fp b)(g:G)(l:fn.results=#[r1])[h1:RvI P N sc env H r1 v1][h0:Som (lk2 H 0) (Zt w0 (λ_=>False))](n:val g=v1)(m:φ g)(h:Give H al (its g)) :
  X N sc .ret (Zag P fn w0 pre al φ val its) env H:=Fm (.inl rfl) k g (v:=v1) (λa w hs=>Fc hs l h1.h) n m h0.l h
def Nn(k:∀b,sc b->w0.heap.size<=b\/∃q∈pre,q.fp b)(g:G)(l:fn.results=#[r1,r2])[h1:RvI P N sc env H r1 v1][h2:RvI P N sc env H r2 v2][h0:Som (lk2 H 0) (Zt w0 (λ_=>False))](n:val g= .tuple #[v1,v2])(m:φ g)(h:Give H al (its g)) :
  X N sc .ret (Zag P fn w0 pre al φ val its) env H:=Fm (.inl rfl) k g (v:=(.tuple #[v1,v2])) (λa w hs=>Zu8 hs l h1.h h2.h) n m h0.l h
def xe3(k:∀b,sc b->w0.heap.size<=b\/∃q∈pre,q.fp b)(g:G)(l:fn.results=#[r1,r2,r3])[h1:RvI P N sc env H r1 v1][h2:RvI P N sc env H r2 v2][h3:RvI P N sc env H r3 v3][h0:Som (lk2 H 0) (Zt w0 (λ_=>False))](n:val g= .tuple #[v1,v2,v3])(m:φ g)(h:Give H al (its g)) :
  X N sc .ret (Zag P fn w0 pre al φ val its) env H:=Fm (.inl rfl) k g (v:=(.tuple #[v1,v2,v3])) (λa w hs=>res3 hs l h1.h h2.h h3.h) n m h0.l h
end
class EncE {α:Type} (k:Nat) (enc:α->Value):Prop where h:∃(P:Program) (t:TypeId),Enc P t k enc
theorem Kd{p k:Pc}{r:List Pc}(i:Nat)[hi:Som (lk2 H i) k][h0:TB (neb i 0)][ho:RoI k](h:Give H true r)(e:k=p:=by rfl):Give H true (p::r):=e▸Gk i hi.l (Zt9 (Zbm h0.h)) ho.h h
section
variable {α:Type} {k i:Nat} {e:TypeId} {enc:α->Value} {v v':Value} {xs ys:List α} {al:Bool} {r:List Pc}
theorem gow(i:Nat)[hi:Som (lk2 H i) (Ol k e enc v xs)][h0:TB (neb i 0)][he:EncE k enc](h:Give H al r)(l:xs=ys:=by rfl):Give H al (Ys k enc v ys::r):=by obtain⟨_,_,m⟩:=he.h;exact Ybl i hi.l (Zt9 (Zbm h0.h)) m l h
end
section
variable {n:Nat} {x b:Bool} {d e j:Nat} {op:Go.Op} {ty:TypeId} {pos:String} {af:Array Edge} {rest:List Oper} {ops:Array Oper} {ll:List Oper}
def kf [h1:DI P N sc op env H (.bool x) True][h2:TB (ltb d N)](e:x=false)(h:L P N sc ops rest Q ((d,.bool false)::env) H):L P N sc ops (⟨some d,op,ty,pos,af,none⟩::rest) Q env H:=dt (Yv _ (h1.h aA) (aN _ e)) h (Oo h2.h)
def kt [h1:DI P N sc op env H (.bool x) True][h2:TB (ltb d N)](e:x=true)(h:L P N sc ops rest Q ((d,.bool true)::env) H):L P N sc ops (⟨some d,op,ty,pos,af,none⟩::rest) Q env H:=dt (Yv _ (h1.h aA) (aN _ e)) h (Oo h2.h)
def kfg [h1:DI P N sc op env H (.bool x) True][hj:Som (dsto ll j) e][hg:Som (lk2 env e) (.bool b)][h4:TB (ltb e N)][h2:TB (ltb d N)](e:x=false)(h:L P N sc ll.toArray rest Q ((d,.bool false)::env) H):L P N sc ll.toArray (⟨some d,op,ty,pos,af,some (j,b)⟩::rest) Q env H:=Fj (Yv _ (h1.h aA) (aN _ e)) (Dr hj) hg.l h (Oo h4.h) (Oo h2.h)
def ktg [h1:DI P N sc op env H (.bool x) True][hj:Som (dsto ll j) e][hg:Som (lk2 env e) (.bool b)][h4:TB (ltb e N)][h2:TB (ltb d N)](e:x=true)(h:L P N sc ll.toArray rest Q ((d,.bool true)::env) H):L P N sc ll.toArray (⟨some d,op,ty,pos,af,some (j,b)⟩::rest) Q env H:=Fj (Yv _ (h1.h aA) (aN _ e)) (Dr hj) hg.l h (Oo h4.h) (Oo h2.h)
end
section
variable {f:FuncId} {xs:List Operand} {ats:Array TypeId} {d i j e n:Nat} {vs:List Value} {pre:List Pc} {al b:Bool} {G:Type} {φ:G->Prop} {val:G->Value} {its:G->List Pc} {w0:World} {M0:Nat->Prop} {ty:TypeId} {pos:String} {af:Array Edge} {G':G->Hp} {ops:Array Oper} {rest ll:List Oper}
def cl (n:Nat) (l:List Nat) (m:Cal P f vs.toArray pre al φ val its) [hx:EvI env xs vs] [hf:CalF P f] [hp:PreL P H al l pre] [h0:Som (lk2 H 0) (Zt w0 M0)] [hN:TB (ltb d N)] [hw:Hw w0 sc] [ha:∀g,AddI n (its g) H (G' g)]
  (h:∀g,φ g->L P N sc ops rest Q ((d,val g)::env) (G' g)):L P N sc ops (⟨some d,.call { callee:= .value (.func f),args:=xs.toArray,argTypes:=ats },ty,pos,af,none⟩::rest) Q env H:=Zz (Zv n l m) h
def Kj (n:Nat) (l:List Nat) (m:Cal P f vs.toArray pre al φ val its) [hx:EvI env xs vs] [hf:CalF P f] [hp:PreL P H al l pre] [h0:Som (lk2 H 0) (Zt w0 M0)] [hN:TB (ltb d N)] [hw:Hw w0 sc] [ha:∀g,AddI n (its g) H (G' g)] [hj:Som (dsto ll j) e] [he:Som (lk2 env e) (.bool b)] [hN2:TB (ltb e N)]
  (h:∀g,φ g->L P N sc ll.toArray rest Q ((d,val g)::env) (G' g)):L P N sc ll.toArray (⟨some d,.call { callee:= .value (.func f),args:=xs.toArray,argTypes:=ats },ty,pos,af,some (j,b)⟩::rest) Q env H:=gt' (Zv n l m) h
end
class SeI (l:List Nat) (env:Qj) (cs:outParam Qj):Prop where h:Sub cs env
instance:SeI [] env []:=⟨aA⟩
instance {t:Nat} {l:List Nat} {v:Value} {cs:Qj} [h:Som (lk2 env t) v] [h2:SeI l env cs]:SeI (t::l) env ((t,v)::cs):=⟨⟨h.l,h2.h⟩⟩
class SeH (l:List Nat) (H:Hp) (ch:outParam Hp):Prop where h:HSub ch H
instance:SeH [] H []:=⟨aA⟩
instance {t:Nat} {l:List Nat} {v:Pc} {cs:Hp} [h:Som (lk2 H t) v] [h2:SeH l H cs]:SeH (t::l) H ((t,v)::cs):=⟨⟨h.l,h2.h⟩⟩
class ApI {α:Type _} (a b:List α) (c:outParam (List α)):Prop where h:a ++ b=c
instance {α:Type _} {b:List α} : ApI [] b b:=⟨rfl⟩
instance {α:Type _} {x:α} {a b c:List α} [h:ApI a b c]:ApI (x::a) b (x::c):=⟨by rw [<-h.h];rfl⟩
class SbI (cs env:Qj):Prop where h:Sub cs env
instance:SbI [] env:=⟨aA⟩
instance {t:Nat} {v:Value} {cs:Qj} [h:Som (lk2 env t) v] [h2:SbI cs env]:SbI ((t,v)::cs) env:=⟨⟨h.l,h2.h⟩⟩
class HbI (ch H:Hp):Prop where h:HSub ch H
instance:HbI [] H:=⟨aA⟩
instance {t:Nat} {v:Pc} {cs:Hp} [h:Som (lk2 H t) v] [h2:HbI cs H]:HbI ((t,v)::cs) H:=⟨⟨h.l,h2.h⟩⟩
def Sub.app:∀{a b e:Qj},Sub a e->Sub b e->Sub (a ++ b) e
 | [],_,_,_,h=>h
 | (_,_)::_,_,_,h1,h=>⟨h1.1,Sub.app h1.2 h⟩
def HSub.app:∀{a b e:Hp},HSub a e->HSub b e->HSub (a ++ b) e
 | [],_,_,_,h=>h
 | (_,_)::_,_,_,h1,h=>⟨h1.1,HSub.app h1.2 h⟩
section
variable {c x y:Code} {G:Type} {cs:Qj} {ch:Hp} {e1:G->Qj} {H1:G->Hp} {ov:G->Qj} {oh:G->Hp} {inv:G->Prop} {μ:G->Nat} {g:G}
theorem lp (l D:List Nat) (ov:G->Qj) (oh:G->Hp) (inv:G->Prop) (μ:G->Nat) (m:G) (B:inv m) (hs:Sub (ov m) env) (z:HSub (oh m) H) [h1:SeI l env cs] [h2:SeH D H ch] [h3:∀g,ApI (ov g) cs (e1 g)] [h4:∀g,ApI (oh g) ch (H1 g)]
  (h:∀g,inv g->E P N sc c (Exit.then (Yi5 N sc cs ch ov oh inv μ g) Q) (e1 g) (H1 g)):E P N sc (.loop c) Q env H:=
 e_lp cs ch ov oh inv μ m B (hs.app h1.h) (z.app h2.h) λg o=>by rw [(h3 g).h,(h4 g).h];exact h g o
def Yl(h:G)(l:inv h)(m:μ h<μ g)(hs:Sub (ov h) env)(o:HSub (oh h) H)[k1:SbI cs env][k2:HbI ch H]:X N sc .normal (Exit.then (Yi5 N sc cs ch ov oh inv μ g) Q) env H:=x_rnd h l m (hs.app k1.h) (o.app k2.h)
theorem jn (l z:List Nat) (ov:G->Qj) (oh:G->Hp) (inv:G->Prop) [h1:SeI l env cs] [h2:SeH z H ch] [h3:∀g,ApI (ov g) cs (e1 g)] [h4:∀g,ApI (oh g) ch (H1 g)]
  (m:E P N sc x (Exit.then (JnK N sc cs ch ov oh inv) Q) env H) (o:∀g,inv g->E P N sc y Q (e1 g) (H1 g)):E P N sc (.seq x y) Q env H:=
 e_jn cs ch ov oh inv h1.h h2.h m λg h=>by rw [(h3 g).h,(h4 g).h];exact o g h
def Gd(h:G)(l:inv h)(hs:Sub (ov h) env)(m:HSub (oh h) H)[k1:SbI cs env][k2:HbI ch H]:X N sc .normal (Exit.then (JnK N sc cs ch ov oh inv) Q) env H:=x_jn h l (hs.app k1.h) (m.app k2.h)
end
end Go.Sky
namespace Go.Sky
open Go.Proofs
set_option linter.all false
set_option synthInstance.maxHeartbeats 0
variable{v w:Value}{xs:List Nat}{x y:Nat}
@[reducible,instance]def iUnd3:=Und.mk Tryz.underlying3
@[reducible,instance]def iUnd4:=Und.mk Tryz.underlying4
@[reducible,instance]def iUnd5:=Und.mk Tryz.underlying5
@[reducible,instance]def iUnd9:=Und.mk Tryz.underlying9
@[reducible,instance]def iUnd40:=Und.mk Tryz.underlying40
@[reducible,instance]def iUnd125:=Und.mk Tryz.underlying125
@[reducible,instance]def iUnd132:=Und.mk Tryz.underlying132
@[reducible,instance]def iUnd133:=Und.mk Tryz.underlying133
@[reducible,instance]def iUnd176:=Und.mk Tryz.underlying176
@[reducible,instance]def iUnd209:=Und.mk Tryz.underlying209
@[reducible,instance]def iUnd225:=Und.mk Tryz.underlying225
@[reducible,instance]def iUnd245:=Und.mk Tryz.underlying245
@[reducible,instance]def iUnd269:=Und.mk Tryz.underlying269
@[reducible,instance]def iUnd272:=Und.mk Tryz.underlying272
@[reducible,instance]def iUnd319:=Und.mk Tryz.underlying319
@[reducible,instance]def iUnd345:=Und.mk Tryz.underlying345
@[reducible,instance]def iUnd347:=Und.mk Tryz.underlying347
@[reducible,instance]def iUnd356:=Und.mk Tryz.underlying356
@[reducible,instance]def iUnd362:=Und.mk Tryz.underlying362
@[reducible,instance]def iUnd384:=Und.mk Tryz.underlying384
@[reducible,instance]def iUnd418:=Und.mk Tryz.underlying418
@[reducible,instance]def iUnd420:=Und.mk Tryz.underlying420
@[reducible,instance]def iUnd424:=Und.mk Tryz.underlying424
@[reducible,instance]def iUnd426:=Und.mk Tryz.underlying426
@[reducible,instance]def iUnd430:=Und.mk Tryz.underlying430
@[reducible,instance]def iUnd451:=Und.mk Tryz.underlying451
@[reducible,instance]def iSiz3:=Siz.mk Tryz.sizeOf3
@[reducible,instance]def iSiz4:=Siz.mk Tryz.sizeOf4
@[reducible,instance]def iSiz5:=Siz.mk Tryz.sizeOf5
@[reducible,instance]def iSiz9:=Siz.mk Tryz.sizeOf9
@[reducible,instance]def iSiz26:=Siz.mk Tryz.sizeOf26
@[reducible,instance]def iSiz40:=Siz.mk Tryz.sizeOf40
@[reducible,instance]def iSiz125:=Siz.mk Tryz.sizeOf125
@[reducible,instance]def iSiz133:=Siz.mk Tryz.sizeOf133
@[reducible,instance]def iSiz176:=Siz.mk Tryz.sizeOf176
@[reducible,instance]def iSiz209:=Siz.mk Tryz.sizeOf209
@[reducible,instance]def iSiz225:=Siz.mk Tryz.sizeOf225
@[reducible,instance]def iSiz245:=Siz.mk Tryz.sizeOf245
@[reducible,instance]def iSiz269:=Siz.mk Tryz.sizeOf269
@[reducible,instance]def iSiz272:=Siz.mk Tryz.sizeOf272
@[reducible,instance]def iSiz345:=Siz.mk Tryz.sizeOf345
@[reducible,instance]def iSiz362:=Siz.mk Tryz.sizeOf362
@[reducible,instance]def iSiz418:=Siz.mk Tryz.sizeOf418
@[reducible,instance]def iSiz420:=Siz.mk Tryz.sizeOf420
@[reducible,instance]def iSiz426:=Siz.mk Tryz.sizeOf426
@[reducible,instance]def iAgg4:=Agg.mk Tryz.isAgg4
@[reducible,instance]def iAgg9:=Agg.mk Tryz.isAgg9
@[reducible,instance]def iAgg26:=Agg.mk Tryz.isAgg26
@[reducible,instance]def iAgg40:=Agg.mk Tryz.isAgg40
@[reducible,instance]def iAgg176:=Agg.mk Tryz.isAgg176
@[reducible,instance]def iAgg209:=Agg.mk Tryz.isAgg209
@[reducible,instance]def iAgg245:=Agg.mk Tryz.isAgg245
@[reducible,instance]def iAgg269:=Agg.mk Tryz.isAgg269
@[reducible,instance]def iAgg272:=Agg.mk Tryz.isAgg272
@[reducible,instance]def iAgg362:=Agg.mk Tryz.isAgg362
@[reducible,instance]def iAgg418:=Agg.mk Tryz.isAgg418
@[reducible,instance]def iAgg420:=Agg.mk Tryz.isAgg420
@[reducible,instance]def iAgg426:=Agg.mk Tryz.isAgg426
@[reducible,instance]def iZer125:=Zer.mk Tryz.zeroValue125
@[reducible,instance]def iZer176:=Zer.mk Tryz.zeroValue176
@[reducible,instance]def iZer209:=Zer.mk Tryz.zeroValue209
@[reducible,instance]def iZer245:=Zer.mk Tryz.zeroValue245
@[reducible,instance]def iZer272:=Zer.mk Tryz.zeroValue272
@[reducible,instance]def iZer347:=Zer.mk Tryz.zeroValue347
@[reducible,instance]def iZer420:=Zer.mk Tryz.zeroValue420
@[reducible,instance]def iZer424:=Zer.mk Tryz.zeroValue424
@[reducible,instance]def iZer426:=Zer.mk Tryz.zeroValue426
abbrev cGa(f:Nat):=CalF Go.Proofs.Tryz.prog f
open Go.Proofs.Tryz
instance:cGa 99:=.mk call99
instance:cGa 123:=.mk call123
instance:cGa 168:=.mk call168
instance:cGa 170:=.mk call170
instance:cGa 172:=.mk call172
instance:cGa 173:=.mk call173
instance:cGa 176:=.mk call176
instance:cGa 177:=.mk call177
instance:cGa 178:=.mk call178
instance:cGa 179:=.mk call179
instance:cGa 198:=.mk call198
instance:cGa 199:=.mk call199
instance:cGa 200:=.mk call200
instance:cGa 201:=.mk call201
instance:cGa 202:=.mk call202
instance:cGa 203:=.mk call203
instance:cGa 204:=.mk call204
instance:cGa 207:=.mk call207
instance:cGa 210:=.mk call210
instance:cGa 219:=.mk call219
instance:cGa 226:=.mk call226
instance:cGa 231:=.mk call231
instance:cGa 232:=.mk call232
instance:cGa 233:=.mk call233
instance:cGa 234:=.mk call234
instance:cGa 235:=.mk call235
instance:cGa 236:=.mk call236
instance:cGa 237:=.mk call237
instance:cGa 238:=.mk call238
instance:cGa 239:=.mk call239
instance:cGa 241:=.mk call241
instance:cGa 242:=.mk call242
instance:cGa 243:=.mk call243
instance:cGa 244:=.mk call244
instance:cGa 268:=.mk call268
instance:cGa 269:=.mk call269
instance:cGa 270:=.mk call270
instance:cGa 271:=.mk call271
instance:cGa 272:=.mk call272
instance:cGa 273:=.mk call273
instance:cGa 278:=.mk call278
instance:cGa 279:=.mk call279
instance:cGa 282:=.mk call282
instance:cGa 284:=.mk call284
instance:cGa 285:=.mk call285
instance:cGa 286:=.mk call286
instance:cGa 290:=.mk call290
instance:cGa 294:=.mk call294
instance:cGa 297:=.mk call297
instance:cGa 298:=.mk call298
instance:cGa 299:=.mk call299
instance:cGa 300:=.mk call300
instance:cGa 301:=.mk call301
instance:cGa 317:=.mk call317
instance:cGa 318:=.mk call318
instance:cGa 319:=.mk call319
instance:cGa 320:=.mk call320
instance:cGa 321:=.mk call321
instance:cGa 322:=.mk call322
instance:cGa 323:=.mk call323
instance:cGa 325:=.mk call325
instance:cGa 329:=.mk call329
instance:cGa 330:=.mk call330
instance:cGa 331:=.mk call331
instance:cGa 332:=.mk call332
instance:cGa 335:=.mk call335
instance:cGa 336:=.mk call336
instance:cGa 337:=.mk call337
instance:cGa 338:=.mk call338
instance:cGa 339:=.mk call339
instance:cGa 350:=.mk call350
instance:cGa 351:=.mk call351
instance:cGa 352:=.mk call352
instance:cGa 353:=.mk call353
instance:cGa 354:=.mk call354
instance:cGa 355:=.mk call355
instance:cGa 356:=.mk call356
instance:cGa 357:=.mk call357
instance:cGa 358:=.mk call358
instance:cGa 359:=.mk call359
instance:cGa 362:=.mk call362
instance:cGa 371:=.mk call371
instance:cGa 372:=.mk call372
instance:cGa 373:=.mk call373
instance:cGa 374:=.mk call374
instance:cGa 375:=.mk call375
instance:cGa 376:=.mk call376
instance:cGa 377:=.mk call377
instance:cGa 378:=.mk call378
instance:cGa 379:=.mk call379
instance:cGa 380:=.mk call380
instance:cGa 396:=.mk call396
instance:cGa 397:=.mk call397
instance:cGa 398:=.mk call398
instance:cGa 399:=.mk call399
instance:cGa 400:=.mk call400
instance:cGa 401:=.mk call401
instance:cGa 402:=.mk call402
instance:cGa 403:=.mk call403
instance:cGa 411:=.mk call411
instance:EncT Tryz.prog 125 1 Md:=⟨pU⟩
instance:EncE 1 Md:=⟨_,_,pU⟩
instance:EncT Tryz.prog 5 1 Ybr:=⟨pB⟩
instance:EncE 1 Ybr:=⟨_,_,pB⟩
instance:EncT Tryz.prog 3 1 Ymj:=⟨pN⟩
instance:EncE 1 Ymj:=⟨_,_,pN⟩
instance:EncT Tryz.prog 3 1 Xf:=⟨pZ⟩
instance:EncE 1 Xf:=⟨_,_,pZ⟩
instance:EncT Tryz.prog 176 2 Yg5:=⟨pW⟩
instance:EncE 2 Yg5:=⟨_,_,pW⟩
instance:EncT Tryz.prog 176 2 wv:=⟨pV⟩
instance:EncE 2 wv:=⟨_,_,pV⟩
instance:EncT Tryz.prog 245 2 Ymk:=⟨pI⟩
instance:EncE 2 Ymk:=⟨_,_,pI⟩
instance {α:Type} : EncT Tryz.prog 133 1 (Ob (α:=α)):=⟨pS⟩
instance {α:Type} : EncE 1 (Ob (α:=α)):=⟨_,_,pS⟩
instance:EncT Tryz.prog 426 8 iq:=⟨pY⟩
instance:EncE 8 iq:=⟨_,_,pY⟩
instance:EncT Tryz.prog 209 4 rq:=⟨pQ⟩
instance:EncE 4 rq:=⟨_,_,pQ⟩
instance:EncT Tryz.prog 209 4 encQ:=⟨pR⟩
instance:EncE 4 encQ:=⟨_,_,pR⟩
@[reducible,instance]def iUnd23:=Und.mk Tryz.underlying23
@[reducible,instance]def iUnd25:=Und.mk Tryz.underlying25
@[reducible,instance]def iUnd31:=Und.mk Tryz.underlying31
@[reducible,instance]def iUnd37:=Und.mk Tryz.underlying37
@[reducible,instance]def iUnd41:=Und.mk Tryz.underlying41
@[reducible,instance]def iUnd51:=Und.mk Tryz.underlying51
@[reducible,instance]def iUnd75:=Und.mk Tryz.underlying75
@[reducible,instance]def iUnd77:=Und.mk Tryz.underlying77
@[reducible,instance]def iUnd79:=Und.mk Tryz.underlying79
@[reducible,instance]def iUnd81:=Und.mk Tryz.underlying81
@[reducible,instance]def iUnd90:=Und.mk Tryz.underlying90
@[reducible,instance]def iUnd102:=Und.mk Tryz.underlying102
@[reducible,instance]def iUnd106:=Und.mk Tryz.underlying106
@[reducible,instance]def iUnd127:=Und.mk Tryz.underlying127
@[reducible,instance]def iUnd137:=Und.mk Tryz.underlying137
@[reducible,instance]def iUnd150:=Und.mk Tryz.underlying150
@[reducible,instance]def iUnd173:=Und.mk Tryz.underlying173
@[reducible,instance]def iUnd179:=Und.mk Tryz.underlying179
@[reducible,instance]def iUnd182:=Und.mk Tryz.underlying182
@[reducible,instance]def iUnd185:=Und.mk Tryz.underlying185
@[reducible,instance]def iUnd191:=Und.mk Tryz.underlying191
@[reducible,instance]def iUnd195:=Und.mk Tryz.underlying195
@[reducible,instance]def iUnd220:=Und.mk Tryz.underlying220
@[reducible,instance]def iUnd224:=Und.mk Tryz.underlying224
@[reducible,instance]def iUnd233:=Und.mk Tryz.underlying233
@[reducible,instance]def iUnd260:=Und.mk Tryz.underlying260
@[reducible,instance]def iUnd261:=Und.mk Tryz.underlying261
@[reducible,instance]def iUnd284:=Und.mk Tryz.underlying284
@[reducible,instance]def iUnd320:=Und.mk Tryz.underlying320
@[reducible,instance]def iUnd323:=Und.mk Tryz.underlying323
@[reducible,instance]def iUnd328:=Und.mk Tryz.underlying328
@[reducible,instance]def iUnd365:=Und.mk Tryz.underlying365
@[reducible,instance]def iUnd366:=Und.mk Tryz.underlying366
@[reducible,instance]def iUnd490:=Und.mk Tryz.underlying490
@[reducible,instance]def iUnd492:=Und.mk Tryz.underlying492
@[reducible,instance]def iUnd493:=Und.mk Tryz.underlying493
@[reducible,instance]def iSiz23:=Siz.mk Tryz.sizeOf23
@[reducible,instance]def iSiz25:=Siz.mk Tryz.sizeOf25
@[reducible,instance]def iSiz31:=Siz.mk Tryz.sizeOf31
@[reducible,instance]def iSiz37:=Siz.mk Tryz.sizeOf37
@[reducible,instance]def iSiz51:=Siz.mk Tryz.sizeOf51
@[reducible,instance]def iSiz75:=Siz.mk Tryz.sizeOf75
@[reducible,instance]def iSiz77:=Siz.mk Tryz.sizeOf77
@[reducible,instance]def iSiz79:=Siz.mk Tryz.sizeOf79
@[reducible,instance]def iSiz81:=Siz.mk Tryz.sizeOf81
@[reducible,instance]def iSiz90:=Siz.mk Tryz.sizeOf90
@[reducible,instance]def iSiz127:=Siz.mk Tryz.sizeOf127
@[reducible,instance]def iSiz137:=Siz.mk Tryz.sizeOf137
@[reducible,instance]def iSiz142:=Siz.mk Tryz.sizeOf142
@[reducible,instance]def iSiz173:=Siz.mk Tryz.sizeOf173
@[reducible,instance]def iSiz179:=Siz.mk Tryz.sizeOf179
@[reducible,instance]def iSiz195:=Siz.mk Tryz.sizeOf195
@[reducible,instance]def iSiz220:=Siz.mk Tryz.sizeOf220
@[reducible,instance]def iSiz259:=Siz.mk Tryz.sizeOf259
@[reducible,instance]def iSiz261:=Siz.mk Tryz.sizeOf261
@[reducible,instance]def iSiz284:=Siz.mk Tryz.sizeOf284
@[reducible,instance]def iSiz320:=Siz.mk Tryz.sizeOf320
@[reducible,instance]def iSiz365:=Siz.mk Tryz.sizeOf365
@[reducible,instance]def iSiz366:=Siz.mk Tryz.sizeOf366
@[reducible,instance]def iSiz492:=Siz.mk Tryz.sizeOf492
@[reducible,instance]def iAgg3:=Agg.mk Tryz.isAgg3
@[reducible,instance]def iAgg23:=Agg.mk Tryz.isAgg23
@[reducible,instance]def iAgg25:=Agg.mk Tryz.isAgg25
@[reducible,instance]def iAgg31:=Agg.mk Tryz.isAgg31
@[reducible,instance]def iAgg37:=Agg.mk Tryz.isAgg37
@[reducible,instance]def iAgg51:=Agg.mk Tryz.isAgg51
@[reducible,instance]def iAgg75:=Agg.mk Tryz.isAgg75
@[reducible,instance]def iAgg77:=Agg.mk Tryz.isAgg77
@[reducible,instance]def iAgg79:=Agg.mk Tryz.isAgg79
@[reducible,instance]def iAgg81:=Agg.mk Tryz.isAgg81
@[reducible,instance]def iAgg90:=Agg.mk Tryz.isAgg90
@[reducible,instance]def iAgg125:=Agg.mk Tryz.isAgg125
@[reducible,instance]def iAgg127:=Agg.mk Tryz.isAgg127
@[reducible,instance]def iAgg133:=Agg.mk Tryz.isAgg133
@[reducible,instance]def iAgg137:=Agg.mk Tryz.isAgg137
@[reducible,instance]def iAgg142:=Agg.mk Tryz.isAgg142
@[reducible,instance]def iAgg173:=Agg.mk Tryz.isAgg173
@[reducible,instance]def iAgg179:=Agg.mk Tryz.isAgg179
@[reducible,instance]def iAgg185:=Agg.mk Tryz.isAgg185
@[reducible,instance]def iAgg195:=Agg.mk Tryz.isAgg195
@[reducible,instance]def iAgg217:=Agg.mk Tryz.isAgg217
@[reducible,instance]def iAgg220:=Agg.mk Tryz.isAgg220
@[reducible,instance]def iAgg259:=Agg.mk Tryz.isAgg259
@[reducible,instance]def iAgg261:=Agg.mk Tryz.isAgg261
@[reducible,instance]def iAgg284:=Agg.mk Tryz.isAgg284
@[reducible,instance]def iAgg294:=Agg.mk Tryz.isAgg294
@[reducible,instance]def iAgg298:=Agg.mk Tryz.isAgg298
@[reducible,instance]def iAgg310:=Agg.mk Tryz.isAgg310
@[reducible,instance]def iAgg320:=Agg.mk Tryz.isAgg320
@[reducible,instance]def iAgg366:=Agg.mk Tryz.isAgg366
@[reducible,instance]def iAgg492:=Agg.mk Tryz.isAgg492
@[reducible,instance]def iZer3:=Zer.mk Tryz.zeroValue3
@[reducible,instance]def iZer4:=Zer.mk Tryz.zeroValue4
@[reducible,instance]def iZer23:=Zer.mk Tryz.zeroValue23
@[reducible,instance]def iZer25:=Zer.mk Tryz.zeroValue25
@[reducible,instance]def iZer26:=Zer.mk Tryz.zeroValue26
@[reducible,instance]def iZer31:=Zer.mk Tryz.zeroValue31
@[reducible,instance]def iZer75:=Zer.mk Tryz.zeroValue75
@[reducible,instance]def iZer77:=Zer.mk Tryz.zeroValue77
@[reducible,instance]def iZer79:=Zer.mk Tryz.zeroValue79
@[reducible,instance]def iZer81:=Zer.mk Tryz.zeroValue81
@[reducible,instance]def iZer90:=Zer.mk Tryz.zeroValue90
@[reducible,instance]def iZer106:=Zer.mk Tryz.zeroValue106
@[reducible,instance]def iZer127:=Zer.mk Tryz.zeroValue127
@[reducible,instance]def iZer137:=Zer.mk Tryz.zeroValue137
@[reducible,instance]def iZer142:=Zer.mk Tryz.zeroValue142
@[reducible,instance]def iZer173:=Zer.mk Tryz.zeroValue173
@[reducible,instance]def iZer179:=Zer.mk Tryz.zeroValue179
@[reducible,instance]def iZer182:=Zer.mk Tryz.zeroValue182
@[reducible,instance]def iZer195:=Zer.mk Tryz.zeroValue195
@[reducible,instance]def iZer220:=Zer.mk Tryz.zeroValue220
@[reducible,instance]def iZer261:=Zer.mk Tryz.zeroValue261
@[reducible,instance]def iZer284:=Zer.mk Tryz.zeroValue284
@[reducible,instance]def iZer320:=Zer.mk Tryz.zeroValue320
@[reducible,instance]def iZer366:=Zer.mk Tryz.zeroValue366
@[reducible,instance]def iZer492:=Zer.mk Tryz.zeroValue492
open Go.Proofs.Tryz
instance:cGa 35:=.mk call35
instance:cGa 38:=.mk call38
instance:cGa 39:=.mk call39
instance:cGa 40:=.mk call40
instance:cGa 41:=.mk call41
instance:cGa 42:=.mk call42
instance:cGa 43:=.mk call43
instance:cGa 44:=.mk call44
instance:cGa 45:=.mk call45
instance:cGa 46:=.mk call46
instance:cGa 49:=.mk call49
instance:cGa 50:=.mk call50
instance:cGa 51:=.mk call51
instance:cGa 53:=.mk call53
instance:cGa 57:=.mk call57
instance:cGa 76:=.mk call76
instance:cGa 97:=.mk call97
instance:cGa 98:=.mk call98
instance:cGa 101:=.mk call101
instance:cGa 102:=.mk call102
instance:cGa 103:=.mk call103
instance:cGa 106:=.mk call106
instance:cGa 107:=.mk call107
instance:cGa 108:=.mk call108
instance:cGa 109:=.mk call109
instance:cGa 110:=.mk call110
instance:cGa 111:=.mk call111
instance:cGa 112:=.mk call112
instance:cGa 113:=.mk call113
instance:cGa 114:=.mk call114
instance:cGa 115:=.mk call115
instance:cGa 116:=.mk call116
instance:cGa 117:=.mk call117
instance:cGa 118:=.mk call118
instance:cGa 119:=.mk call119
instance:cGa 120:=.mk call120
instance:cGa 121:=.mk call121
instance:cGa 122:=.mk call122
instance:cGa 124:=.mk call124
instance:cGa 128:=.mk call128
instance:cGa 145:=.mk call145
instance:cGa 146:=.mk call146
instance:cGa 150:=.mk call150
instance:cGa 151:=.mk call151
instance:cGa 165:=.mk call165
instance:cGa 166:=.mk call166
instance:cGa 167:=.mk call167
instance:cGa 169:=.mk call169
instance:cGa 171:=.mk call171
instance:cGa 175:=.mk call175
instance:cGa 184:=.mk call184
instance:cGa 185:=.mk call185
instance:cGa 186:=.mk call186
instance:cGa 187:=.mk call187
instance:cGa 188:=.mk call188
instance:cGa 189:=.mk call189
instance:cGa 190:=.mk call190
instance:cGa 191:=.mk call191
instance:cGa 192:=.mk call192
instance:cGa 193:=.mk call193
instance:cGa 194:=.mk call194
instance:cGa 195:=.mk call195
instance:cGa 196:=.mk call196
instance:cGa 197:=.mk call197
instance:cGa 205:=.mk call205
instance:cGa 206:=.mk call206
instance:cGa 215:=.mk call215
instance:cGa 216:=.mk call216
instance:cGa 217:=.mk call217
instance:cGa 240:=.mk call240
instance:cGa 256:=.mk call256
instance:cGa 257:=.mk call257
instance:cGa 258:=.mk call258
instance:cGa 259:=.mk call259
instance:cGa 260:=.mk call260
instance:cGa 261:=.mk call261
instance:cGa 262:=.mk call262
instance:cGa 263:=.mk call263
instance:cGa 264:=.mk call264
instance:cGa 265:=.mk call265
instance:cGa 266:=.mk call266
instance:cGa 267:=.mk call267
instance:cGa 274:=.mk call274
instance:cGa 275:=.mk call275
instance:cGa 280:=.mk call280
instance:cGa 281:=.mk call281
instance:cGa 314:=.mk call314
instance:cGa 315:=.mk call315
instance:cGa 316:=.mk call316
instance:cGa 324:=.mk call324
instance:cGa 328:=.mk call328
instance:cGa 347:=.mk call347
instance:cGa 348:=.mk call348
instance:cGa 349:=.mk call349
instance:cGa 369:=.mk call369
instance:cGa 370:=.mk call370
instance:cGa 386:=.mk call386
instance:cGa 392:=.mk call392
instance:cGa 410:=.mk call410
open Go.Proofs.Tryz
set_option synthInstance.maxSize 100000
set_option maxRecDepth 20000
set_option linter.unusedSimpArgs false
theorem Ye3(v:Value)(xs:List Nat):Cal prog 172 #[v] [Ys 1 Md v xs] true (G:=Unit) (λ_=>True) (λ_=>Gi v (tz xs).length) (λ_=>[Ys 1 Md (Gi v (tz xs).length) (tz xs)]):=by
 refine Zd func172 ntmps172 λo n m c=>?_;refine Lh (Ygy (i:=1) J Zk) (λa=>?_);refine Lh (Ev (i:=1) J Zk) λl=>go 7 ?_;refine lp (G:=Nat) [] [0] (λk=>[(0,Gi v k)]) (λk=>[(1,Ys 1 Md (Gi v k) (xs.take k))]) (λk=>(k<=xs.length)/\(tz (xs.take k)=tz xs)) (λk=>k) xs.length ⟨aJ _,by rw [bT]⟩ ⟨by rw [a];rfl,aA⟩ ⟨by rw [a,bT];rfl,aA⟩ ?_;rintro k ⟨g,h⟩;have e:(xs.take k).length=k:=by rw [aS];omega
 refine go 7<|Zj 6 J (λj=>?_) (λj=>?_)
 .refine go 4 ⟨O,?_⟩;refine Fj (Ym 1 (k-1) J J J J Zk Pn Kf) J J<|go 5 ⟨O,?_⟩;refine Zc J (λf=>?_) (λf=>?_)
  .have b:=Yjt g O (by omega:(xs.take k).getD (k-1) 0=0);refine go 8 ⟨O,?_⟩;refine dt (d_pre 1 (i:=k-1) J J J J Zk Pn Kf)<|go 3 ?_;exact Xg (s_pre 1 1 (k-1) J J)<|Yl (k-1) ⟨O1,by rw [<-h,<-b]⟩ O1 ⟨by rw [<-Zdg v k (k-1)];rfl,aA⟩ ⟨by rw [Zdg,kB,dY O];rfl,aA⟩
  .refine go 12 ?_;have d:tz xs=xs.take k:=by rw [<-h];exact Zn4 g O
   exact Yx c () results172 (by rw [d,e]) aA (Kd 1 Za (by rw [d,e]))
 .refine go 23 ?_;have d:tz xs=xs.take k:=by rw [<-h];exact Zn4 g O
  exact Yx c () results172 (by rw [d,e]) aA (Kd 1 Za (by rw [d,e]))
def Pt:Cal prog 172 #[v] [Ys 1 Md v xs] false (G:=Unit) (λ_=>True) (λ_=>Gi v (tz xs).length) (λ_=>[]):=(Ye3 v xs).bare
theorem Zyd(t:bl x<=4294967296)(I:bl y<=4294967296):Cal prog 271 #[v,w] [Er v x,Er w y] false (G:=Value) (λr=>True) (λr=>r) (λr=>[Er r (x+y)]):=by
 refine Zd func271 ntmps271 λQ M n m=>?_;have F:=Nu x;have H:=Nu y;refine go 5 ?_;refine jn (G:=Value×Value×Nat×Nat) [] [0,1,2] (λq=>[(0,q.1),(1,q.2.1)]) (λq=>[(91,Er q.1 q.2.2.1),(92,Er q.2.1 q.2.2.2)]) (λq=>(q.2.2.1+q.2.2.2=x+y)/\((dg U q.2.2.2).length<=(dg U q.2.2.1).length)/\((dg U q.2.2.1).length<=1099511627776)) ?_ ?_
 .refine go 9<|Zc J (λg=>?_) (λg=>?_)
  .refine go 6<|Xg (Kh 2 91 J J J)<|Xg (Kh 1 92 J J J) ?_;exact Gd (w,v,y,x) ⟨O1,O1,O1⟩ K2 K2
  .refine go 1<|Xg (Kh 1 91 J J J)<|Xg (Kh 2 92 J J J) ?_;exact Gd (v,w,x,y) ⟨O1,O1,O1⟩ K2 K2
 .rintro⟨N,P,a,b⟩ ⟨hs,s,j⟩;dsimp only at hs s j;dsimp only;refine go 5 ⟨O,?_⟩;refine tt (Et 3 ((dg U a).length+1) 8 (enc:=Md) 0 J J J J Pn ti125 J pU.cells pU.pos J J J n.h) λv _=>go 17 ?_;refine lp (G:=Nat×List Nat×Nat) [0,1,5,21] [0,91,92,1,2] (λq=>[(22,.int .i64 (q.1:Int)),(6,.int .u64 (q.2.2:Int))]) (λq=>[(3,Ol 1 125 Md v q.2.1)]) (λq=>(q.1<=(dg U a).length)/\(q.2.1.length=(dg U a).length+1)/\(∀d∈q.2.1,d<U)/\(q.2.2<=1)/\(val U (q.2.1.take q.1)+q.2.2*U^q.1=val U ((dg U a).take q.1)+val U ((dg U b).take q.1))) (λq=>(dg U a).length-q.1) (0,List.replicate ((dg U a).length+1) 0,0) ⟨O1,O8,Ld Xs,O1,by simp [val]⟩ K2 K1 ?_;rintro⟨k,o,c⟩ ⟨z,l,e,u,f⟩;dsimp only at z l e u f;dsimp only;refine go 6<|Zc J (λh=>?_) (λh=>?_)
  .refine go 15 ?_;refine jn (G:=Unit) [0,1,5,6,7,21,22] [0,3,91,92,1,2] (λ_=>[(8,.int .u64 ((dg U b).getD k 0:Int))]) (λ_=>[]) (λ_=>True) ?_ ?_
   .refine go 8<|Zc J (λi=>?_) (λi=>?_)
    .refine go 7 ⟨O2,O2,?_⟩
     try (have p:(dg U b).getD k 0=0:=by simp [List.getD,bQ (by omega:(dg U b).length<=k)])
     exact Gd () aA ⟨by first|rfl|(rw [p];rfl),aA⟩ aA
    .refine go 1 ?_
     try (have p:(dg U b).getD k 0=0:=by simp [List.getD,bQ (by omega:(dg U b).length<=k)])
     exact Gd () aA ⟨by first|rfl|(rw [p];rfl),aA⟩ aA
   .rintro _ -;refine go 9 ⟨O2,O2,?_⟩;refine dt (Zp4 _ J J J J O Zhq)<|go 4 ⟨O2,?_⟩;refine tt (Lm 3 (enc:=Md) J J J J J J pU J n.h O3 O2) (λ_ _=>?_);refine go 8 ⟨O,?_⟩;exact Yl (k+1,_,_) ⟨O1,O9,Ik e _ _ (bO _ Xs),by have B:=Pm Xs (Gr Xm a) k;have D:=Pm Xs (Gr Xm b) k;simp only [U]at *;omega,Yiu f O⟩ O1 K2 K1
  .refine go 6 ?_;obtain rfl:k=(dg U a).length:=O;refine go 6 ⟨O2,?_⟩;refine tt (Lm 3 (enc:=Md) J J J J J J pU J n.h O3 O2) λ_ _=>go 5 ?_;refine cl 3 [3] Pt λ_ _=>?_;refine Nk (Zj4 3 J J pU)<|go 4 ?_;have t:tz (o.set (dg U a).length c)=dg U (x+y):=by
    rw [<-Cj Xm _ (Ik e _ _ (by simp only [U];omega)),<-hs];congr 1
    conv=>rhs;rw [<-Hi Xm a,<-Hi Xm b]
    rw [cC (aJ (dg U a).length),Ie U (dg U b) s]at f;rw [<-f,<-Cl U o c O,Ie _ _ O9]
   exact Yx m _ results271 J aA (gow 3 Za t)
theorem Zfy(p:bl x<=4294967296)(j:y<=x:=by omega):Cal prog 273 #[v,w] [Er v x,Er w y] false (G:=Value) (λr=>True) (λr=>r) (λr=>[Er r (x-y)]):=by
 refine Zd func273 ntmps273 λH F n h=>?_;have z:=Nu x;have B:=Nu y;have D:=Lk j;refine go 9 ?_;refine tt (Et 3 ((dg U x).length) 8 (enc:=Md) 0 J J J J Pn ti125 J pU.cells pU.pos J J J n.h) λv _=>go 17 ?_;refine lp (G:=Nat×List Nat×Nat) [0,1,5,13] [0,1,2] (λq=>[(14,.int .i64 (q.1:Int)),(6,.int .u64 (q.2.2:Int))]) (λq=>[(3,Ol 1 125 Md v q.2.1)]) (λq=>(q.1<=(dg U x).length)/\(q.2.1.length=(dg U x).length)/\(∀d∈q.2.1,d<U)/\(q.2.2<=1)/\(val U (q.2.1.take q.1)+val U ((dg U y).take q.1)=val U ((dg U x).take q.1)+q.2.2*U^q.1)) (λq=>(dg U x).length-q.1) (0,List.replicate ((dg U x).length) 0,0) ⟨O1,O8,Ld Xs,O1,by simp [val]⟩ K2 K1 ?_;rintro⟨k,o,c⟩ ⟨u,b,a,m,i⟩;dsimp only at u b a m i;dsimp only;refine go 6<|Zc J (λe=>?_) (λe=>?_)
 .refine go 15 ?_;refine jn (G:=Unit) [0,1,5,6,7,13,14] [0,3,1,2] (λ_=>[(8,.int .u64 ((dg U y).getD k 0:Int))]) (λ_=>[]) (λ_=>True) ?_ ?_
  .refine go 8<|Zc J (λf=>?_) (λf=>?_)
   .refine go 7 ⟨O2,O2,?_⟩
    try (have l:(dg U y).getD k 0=0:=by simp [List.getD,bQ (by omega:(dg U y).length<=k)])
    exact Gd () aA ⟨by first|rfl|(rw [l];rfl),aA⟩ aA
   .refine go 1 ?_
    try (have l:(dg U y).getD k 0=0:=by simp [List.getD,bQ (by omega:(dg U y).length<=k)])
    exact Gd () aA ⟨by first|rfl|(rw [l];rfl),aA⟩ aA
  .rintro _ -;refine go 9 ⟨O2,O2,?_⟩;refine dt (Ymt J J J J O Yaj)<|go 4 ⟨O2,?_⟩;refine tt (Lm 3 (enc:=Md) J J J J J J pU J n.h O3 O2) (λ_ _=>?_);refine go 8 ⟨O,?_⟩;exact Yl (k+1,_,_) ⟨O1,O9,Ik a _ _ (bO _ Xs),brw_le,Yc1 m (Pm Xs (Gr Xm x) k) (Pm Xs (Gr Xm y) k) i O⟩ O1 K2 K1
 .refine go 8 ?_;refine cl 3 [3] Pt λ_ _=>?_;refine Nk (Zj4 3 J J pU)<|go 4 ?_;obtain rfl:k=(dg U x).length:=O;have p:tz o=dg U (x-y):=by rw [<-Cj Xm _ a];congr 1;have g:(dg U y).length<=(dg U x).length:=O;rw [Ie U o O,Ie U (dg U y) g,Ie U (dg U x) (aJ _),Hi Xm,Hi Xm]at i;have t:=Zjl Xs o a;rw [b]at t;have s:c=0\/c=1:=O;rcases s with rfl|rfl<;>omega
  exact Yx h _ results273 J aA (gow 3 Za p)
theorem Zcl(p:bl x<=4294967296)(q:bl y<=4294967296):Cal prog 272 #[v,w] [Er v x,Er w y] false (G:=Int) (λr=>(r<0↔x<y)/\(0<r↔y<x)) (λr=> .int .i64 r) (λr=>[]):=by
 refine Zd func272 ntmps272 λt s o a=>?_;have l:=Nu x;have m:=Nu y;refine go 15<|Zc J (λe=>?_) (λe=>?_)
 .refine go 12 ⟨O,?_⟩;exact Yx a _ results272 J ⟨⟨λh=>Znh Xm O,λh=>by have:=Lk (eU h);omega⟩,⟨λh=>Znh Xm O,λh=>by have:=Lk (eU h);omega⟩⟩ Za
 .have c:(dg U x).length=(dg U y).length:=O;refine go 12 ⟨O,?_⟩;refine lp (G:=Nat) [0,1] [0,1,2] (λk=>[(5,.int .i64 ((k:Int)-1))]) (λk=>[]) (λk=>(k<=(dg U x).length)/\((dg U x).drop k=(dg U y).drop k)) (λk=>k) (dg U x).length ⟨O1,by rw [List.drop_length,c,List.drop_length]⟩ K1 aA ?_;rintro k ⟨n,d⟩;refine go 7<|Zc J (λf=>?_) (λf=>?_)
  .refine go 6<|Pd (λ_=>False) [(0,0),(1,0),(2,0),(3,0),(4,0),(5,0),(6,0),(7,0),(8,0),(9,0)]<|go 2 ?_;refine Qb J J (Pq (Ym 1 (k-1) J J J J Zk Pn Kf))<|go 3 ⟨O2,?_⟩;refine Qb J J (Pq (Ym 2 (k-1) J J J J Zk Pn Kf))<|go 5 ⟨O2,?_⟩;refine Zc J (λg=>?_) (λg=>?_)
   .refine go 12 ?_;have b:=Yhz Xs (xs:=dg U x) (ys:=dg U y) (Gr Xm x) (k:=k-1) O O (by rw [show k-1+1=k by omega];exact d) O;rw [Hi Xm,Hi Xm]at b;exact Yx a (-1) results272 J O Za
   .refine go 1<|Pd (λ_=>False) [(0,0),(1,0),(2,0),(3,0),(4,0),(5,0),(6,0),(7,0),(8,0),(9,0)]<|go 2 ?_;refine Qb J J (Pq (Ym 1 (k-1) J J J J Zk Pn Kf))<|go 3 ⟨O2,?_⟩;refine Qb J J (Pq (Ym 2 (k-1) J J J J Zk Pn Kf))<|go 5 ⟨O2,?_⟩;refine Zc J (λi=>?_) (λi=>?_)
    .refine go 12 ?_;have b:=Yhz Xs (xs:=dg U y) (ys:=dg U x) (Gr Xm y) (k:=k-1) O O (by rw [show k-1+1=k by omega];exact d.symm) O;rw [Hi Xm,Hi Xm]at b;exact Yx a 1 results272 J O Za
    .refine go 9 ⟨O,?_⟩;exact Yl (k-1) ⟨O1,by have:=Zp1 (xs:=dg U x) (ys:=dg U y) (k:=k-1) O O (by rw [show k-1+1=k by omega];exact d) O;exact this⟩ O1 ⟨by rw [show(((k-1:Nat):Int)-1)=(k:Int)-1-1 by omega];rfl,aA⟩ aA
  .refine go 11 ?_;obtain rfl:k=0:=O;have j:x=y:=(Zni Xm).1 (by simpa using d);exact Yx a 0 results272 J O Za
theorem Yif(b:x<U)(c:y<U):Xj prog 207 #[.int .u64 (x:Int),.int .u64 (y:Int)] [] (.tuple #[.int .u64 ((x*y/U:Nat):Int),.int .u64 ((x*y%U:Nat):Int)]):=by refine Zd func207 ntmps207 λf e d a=>?_;simp only [U]at b c;refine go 9 ?_;refine dt (Zq3 J J J b)<|go 6 ?_;refine dt (Fp 4294967296 (n:=32) J J J J J)<|go 6 ?_;refine dt (Zq3 J J J c)<|go 6 ?_;refine dt (Fp 4294967296 (n:=32) J J J J J)<|go 7 ?_;refine dt (Ck J J J)<|go 7 ?_;refine dt (Ck J J J)<|go 1 ?_;refine dt (Fp 4294967296 (n:=32) J J J J J)<|dt (Bg J J J)<|go 6 ?_;refine dt (Zq3 J J J (bO _ Xs))<|go 6 ?_;refine dt (Fp 4294967296 (n:=32) J J J J J)<|go 8 ?_;refine dt (Ck J J J)<|dt (Bg J J J)<|go 7 ?_;refine dt (Ck J J J)<|go 1 ?_;refine dt (Bg J J J)<|go 1 ?_;refine dt (Fp 4294967296 (n:=32) J J J J J)<|dt (Bg J J J)<|go 7 ?_;refine dt (Ck J J J)<|go 4 ?_;exact Nn a () results207 (by rw [Ye5 b c rfl rfl]) aA Za
theorem Zyb(F:bl x<=4294967296)(P:bl y<=4294967296):Cal prog 325 #[v,w] [Er v x,Er w y] false (G:=Value) (λr=>True) (λr=>r) (λr=>[Er r (x*y)]):=by
 refine Zd func325 ntmps325 λR Q B z=>?_;have M:=Nu x;have N:=Nu y;refine go 12 ⟨O,?_⟩;refine tt (Et 3 ((dg U x).length+(dg U y).length) 8 (enc:=Md) 0 J J J J Pn ti125 J pU.cells pU.pos J J J B.h) λv _=>go 12 ?_;refine lp (G:=Nat×List Nat) [1,5,20,21] [0,1,2] (λq=>[(22,.int .i64 (q.1:Int))]) (λq=>[(3,Ol 1 125 Md v q.2)]) (λq=>(q.1<=(dg U x).length)/\(q.2.length=(dg U x).length+(dg U y).length)/\(∀d∈q.2,d<U)/\(∀j,q.1+(dg U y).length<=j->q.2.getD j 0=0)/\(val U (q.2.take (q.1+(dg U y).length))=val U ((dg U x).take q.1)*y)) (λq=>(dg U x).length-q.1) (0,List.replicate ((dg U x).length+(dg U y).length) 0) ⟨O1,O8,Ld Xs,λj _=>Ea _ j,by simp [val,nG,Dl]⟩ K1 K1 ?_;rintro⟨i,o⟩ ⟨hi,s,g,H,t⟩;dsimp only at hi s g H t;dsimp only;refine go 6<|Zc J (λm=>?_) (λm=>?_)
 .refine go 27 ⟨O2,O2,?_⟩;refine lp (G:=Nat×List Nat×Nat) [1,5,6,7,20,21,22,27,28] [0,1,2] (λq=>[(29,.int .i64 (q.1:Int)),(8,.int .u64 (q.2.2:Int))]) (λq=>[(3,Ol 1 125 Md v q.2.1)]) (λq=>(q.1<=(dg U y).length)/\(q.2.1.length=(dg U x).length+(dg U y).length)/\(∀d∈q.2.1,d<U)/\(∀j,i+(dg U y).length<=j->q.2.1.getD j 0=0)/\(q.2.2<U)/\(val U (q.2.1.take (i+(dg U y).length))+q.2.2*U^(i+q.1)=val U ((dg U x).take i)*y+(dg U x).getD i 0*U^i*val U ((dg U y).take q.1))) (λq=>(dg U y).length-q.1) (0,o,0) ⟨O1,s,g,H,Xs,by rw [t];simp [val]⟩ K2 K1 ?_;rintro⟨k,p,c⟩ ⟨I,u,a,l,f,h⟩;dsimp only at I u a l f h;dsimp only;have b:=Ya6 (Pm Xs (Gr Xm x) i) (Pm Xs (Gr Xm y) k) (Pm Xs a (i+k)) f;refine go 6<|Zc J (λn=>?_) (λn=>?_)
  .refine go 17 ⟨O2,O2,?_⟩;refine cl 3 [] (Yif (Pm Xs (Gr Xm _) _) (Pm Xs (Gr Xm _) _)) λ_ _=>?_;refine go 14 ⟨O,?_⟩;refine dt (Ym 3 (i+k) J J J J (Yo pU) Pn Kf)<|go 1 ⟨O2,?_⟩;refine dt (Zp4 0 J J J J O Zhq)<|go 11 ?_;refine dt (Bg J J J)<|go 7 ?_;refine dt (Zp4 0 J J J J O Zhq)<|go 15 ⟨O,?_⟩;refine dt (Bg J J J)<|dt (Ym 3 (i+k) J J J J (Yo pU) Pn Kf)<|tt (Lm 3 (enc:=Md) J J J J J J pU J B.h O3 O2) (λ_ _=>?_);refine go 8 ⟨O,?_⟩;exact Yl (k+1,_,_) ⟨O1,O9,Ik a _ _ (bO _ Xs),λj D=>by rw [Mc O,aD O];exact l j D,b.2,Ye4 h O O b.1⟩ O1 K2 K1
  .refine go 5 ?_;obtain rfl:k=(dg U y).length:=O;have e:=h;rw [cC (aJ (dg U y).length),Hi Xm]at e;refine go 7 ⟨O,?_⟩;refine dt (Ym 3 (i+(dg U y).length) J J J J (Yo pU) Pn Kf)<|tt (Lm 3 (enc:=Md) J J J J J J pU J B.h O3 O2) (λ_ _=>?_);refine go 7 ⟨O,?_⟩;exact Yl (i+1,_) ⟨O1,O9,Ik a _ _ f,λj D=>by rw [Mc O,aD O];exact l j O,by dsimp only;rw [show i+1+(dg U y).length=i+(dg U y).length+1 by omega,Cl _ _ _ O,Od,bL,<-e]⟩ O1 K1 K1
 .refine go 8 ?_;refine cl 3 [3] Pt λ_ _=>?_;refine Nk (Zj4 3 J J pU)<|go 4 ?_;obtain rfl:i=(dg U x).length:=O;have F:tz o=dg U (x*y):=by rw [<-Cj Xm _ g];congr 1;rw [Ie U o O,cC (aJ _),Hi Xm]at t;exact t
  exact Yx z _ results325 J aA (gow 3 Za F)
theorem Zt7(q:x<U):Xj prog 335 #[.int .u64 (x:Int)] [] (.int .i64 (bl x:Int)):=by
 refine Zd func335 ntmps335 λF D B g=>?_;simp only [U]at q;have c:=Gc x 32;have a:=Gc x 16;have l:=Gc x 8;have b:=Gc x 24;have d:=Gc x 40;have e:=Gc x 48;have f:=Gc x 56;have f32:=Zb2 32 x;have f16:=Zb2 16 x;have f8:=Zb2 8 x;have f24:=Zb2 24 x;have f40:=Zb2 40 x;have f48:=Zb2 48 x;have f56:=Zb2 56 x;have r:=bA x (2^32) (2^16);have s:=bA x (2^32) (2^8);have t:=bA x (2^16) (2^8);have u:=bA (x/2^32) (2^16) (2^8);have z:=bA x (2^32) (2^16*2^8);simp only [Nat.reducePow,Nat.reduceMul]at *;refine go 12<|Zc J (λm=>?_) (λm=>?_)
 .refine go 3 ?_;refine dt (Fp 4294967296 (n:=32) J J J J J)<|go 14 ?_;refine Zc J (λo=>?_) (λo=>?_)
  .refine go 3 ?_;refine dt (Fp 65536 (n:=16) J J J J J)<|go 16 ⟨O,?_⟩;refine Zc J (λp=>?_) (λp=>?_)
   .refine go 3 ?_;refine dt (Fp 256 (n:=8) J J J J J)<|go 13 ⟨O,?_⟩;refine dt (Zgi J J Zap uT5)<|dt (Zh8 J J J uT9 J O O3 O7)<|dt (Zc0 J J uT5 uT3 Ay)<|go 5 ⟨Cc O O,?_⟩;exact Yx g () results335 (Av x O (by first|omega|(simp only [bA,Nat.reduceMul,c,a,l,b,d,e,f];omega))).symm aA Za
   .refine go 6 ?_;refine dt (Zgi J J Zap uT5)<|dt (Zh8 J J J uT9 J O O3 O7)<|dt (Zc0 J J uT5 uT3 Ay)<|go 5 ⟨Cc O O,?_⟩;exact Yx g () results335 (Av x O (by first|omega|(simp only [bA,Nat.reduceMul,c,a,l,b,d,e,f];omega))).symm aA Za
  .refine go 9<|Zc J (λi=>?_) (λi=>?_)
   .refine go 3 ?_;refine dt (Fp 256 (n:=8) J J J J J)<|go 13 ⟨O,?_⟩;refine dt (Zgi J J Zap uT5)<|dt (Zh8 J J J uT9 J O O3 O7)<|dt (Zc0 J J uT5 uT3 Ay)<|go 5 ⟨Cc O O,?_⟩;exact Yx g () results335 (Av x O (by first|omega|(simp only [bA,Nat.reduceMul,c,a,l,b,d,e,f];omega))).symm aA Za
   .refine go 6 ?_;refine dt (Zgi J J Zap uT5)<|dt (Zh8 J J J uT9 J O O3 O7)<|dt (Zc0 J J uT5 uT3 Ay)<|go 5 ⟨Cc O O,?_⟩;exact Yx g () results335 (Av x O (by first|omega|(simp only [bA,Nat.reduceMul,c,a,l,b,d,e,f];omega))).symm aA Za
 .refine go 9<|Zc J (λh=>?_) (λh=>?_)
  .refine go 3 ?_;refine dt (Fp 65536 (n:=16) J J J J J)<|go 16 ⟨O,?_⟩;refine Zc J (λj=>?_) (λj=>?_)
   .refine go 3 ?_;refine dt (Fp 256 (n:=8) J J J J J)<|go 13 ⟨O,?_⟩;refine dt (Zgi J J Zap uT5)<|dt (Zh8 J J J uT9 J O O3 O7)<|dt (Zc0 J J uT5 uT3 Ay)<|go 5 ⟨Cc O O,?_⟩;exact Yx g () results335 (Av x O (by first|omega|(simp only [bA,Nat.reduceMul,c,a,l,b,d,e,f];omega))).symm aA Za
   .refine go 6 ?_;refine dt (Zgi J J Zap uT5)<|dt (Zh8 J J J uT9 J O O3 O7)<|dt (Zc0 J J uT5 uT3 Ay)<|go 5 ⟨Cc O O,?_⟩;exact Yx g () results335 (Av x O (by first|omega|(simp only [bA,Nat.reduceMul,c,a,l,b,d,e,f];omega))).symm aA Za
  .refine go 9<|Zc J (λk=>?_) (λk=>?_)
   .refine go 3 ?_;refine dt (Fp 256 (n:=8) J J J J J)<|go 13 ⟨O,?_⟩;refine dt (Zgi J J Zap uT5)<|dt (Zh8 J J J uT9 J O O3 O7)<|dt (Zc0 J J uT5 uT3 Ay)<|go 5 ⟨Cc O O,?_⟩;exact Yx g () results335 (Av x O (by first|omega|(simp only [bA,Nat.reduceMul,c,a,l,b,d,e,f];omega))).symm aA Za
   .refine go 6 ?_;refine dt (Zgi J J Zap uT5)<|dt (Zh8 J J J uT9 J O O3 O7)<|dt (Zc0 J J uT5 uT3 Ay)<|go 5 ⟨Cc O O,?_⟩;exact Yx g () results335 (Av x O (by first|omega|(simp only [bA,Nat.reduceMul,c,a,l,b,d,e,f];omega))).symm aA Za
theorem Zqm(b:x<U):Xj prog 300 #[.int .u64 (x:Int)] [] (.int .i64 ((64-bl x:Nat):Int)):=by refine Zd func300 ntmps300 λf e d a=>?_;have c:bl x<=64:=(Qt 64 x).2 b;refine go 8 ?_;refine cl 0 [] (Zt7 b) λ_ _=>?_;refine go 5 ⟨O,?_⟩;exact Yx a () results300 (by congr 1;omega) aA Za
theorem Zko(g:bl x<=1099511627776:=by omega):Xj prog 241 #[v] [Er v x] (.int .i64 (bl x:Int)):=by
 refine Zd func241 ntmps241 λj i f b=>?_;have e:=Nu x;refine go 13<|Zc J (λa=>?_) (λa=>?_)
 .refine go 7 ?_;have c:x=0:=(Nt Xm x).1 O;exact Yx b () results241 (by rw [c];rfl) aA Za
 .have d:0<x:=by rcases aV x with rfl|h;(simp [Eh]at a);exact h
  obtain⟨k,l,m,n⟩:=Zxd d;refine go 11 ⟨O,O,?_⟩;refine dt (Ym 1 ((dg U x).length-1) J J J J Zk Pn Kf)<|go 1 ⟨O2,?_⟩;refine cl 1 [] (Zqm (Pm Xs (Gr Xm _) _)) λ_ _=>?_;refine go 5 ⟨O,?_⟩;exact Yx b () results241 (by congr 1;omega) aA Za
theorem Yb0(g:xs.length*8<=140737488355328):Yjd prog 362 #[v] [Ys 1 Md v xs] (G:=Value) (λr=>True) (λr=>r) (λr=>Ol 1 125 Md r xs):=by
 refine Zqe func362 J ntmps362 J K1 ?_;intro j h d e;have d:=Hw.mk d;simp only [Qf,Yg];refine Lh (Ygz (i:=1) J Zk) λc=>go 9 ?_;refine dt (Zp3 J J J (i:=1) J Zk Pn)<|go 2 ?_;refine Yp J (λb=>?_) (λb=>?_)
 .refine go 7 ?_;obtain rfl:xs=[]:=c (by simpa using b);exact Xg (Hb 9 1 125 Md)<|Zgr (.inl J) (.slice none 0 0) (λa w hs=>Fc hs results362 J) J aA J 9 J J J
 .refine go 4 ?_;refine tt (Ycw 2 (enc:=Md) J J J Pn pU J d.h) λv _=>go 1 ?_;refine tt (Fr 2 1 8 J J J J J J O3 J Zk Pn ti125 J pU J J J O9 O3 J d.h) λf _=>go 4 ?_;exact Zgr (.inl J) _ (λa w hs=>Fc hs results362 J) J aA J 2 J (by rfl) J
theorem Zt8{h l:Nat}(hl:l<U)(hy:y<U)(hh:h<y):Xj prog 338 #[.int .u64 (h:Int),.int .u64 (l:Int),.int .u64 (y:Int)] [] (.tuple #[.int .u64 (((h*U+l)/y:Nat):Int),.int .u64 (((h*U+l)%y:Nat):Int)]):=by
 refine Zd func338 ntmps338 λw0 sc hw a8=>?_;have c0:U=18446744073709551616:=rfl;have hp:0<y:=O;have c1:bl y<=64:=(Qt 64 y).2 hy;obtain⟨s,hs⟩:∃s,s=64-bl y:=⟨_,rfl⟩;obtain⟨Y,g⟩:∃Y,Y=y*2^s:=⟨_,rfl⟩;obtain⟨b6,S⟩:=Ye1 hp hy hs;rw [<-g]at b6 S;have V:=S;obtain⟨D,hD⟩:∃D,D=(h*U+l)*2^s:=⟨_,rfl⟩;obtain⟨u,Z⟩:∃u,u=D/U:=⟨_,rfl⟩;obtain⟨v,a0⟩:∃v,v=D%U:=⟨_,rfl⟩;obtain⟨v1,Q⟩:∃x,x=v/4294967296:=⟨_,rfl⟩;obtain⟨v0,P⟩:∃x,x=v%4294967296:=⟨_,rfl⟩;obtain⟨d,b1⟩:∃x,x=Y/4294967296:=⟨_,rfl⟩;obtain⟨N,a9⟩:∃x,x=Y%4294967296:=⟨_,rfl⟩;have e:Y=d*4294967296+N:=O;have b7:=shl_lt hh (show y*2^s<U by rw [<-g];exact S);have c3:u<Y:=by rw [Z,hD,g];exact top_lt hl hh
 have hu:u<d*4294967296+N:=O;have c4:v<U:=by rw [a0];exact bO _ Xs
 have b0:2147483648<=d:=O;have i:d<4294967296:=O;have f:N<4294967296:=O;have M:v1<4294967296:=O;have I:v0<4294967296:=O;obtain⟨Q1,m⟩:∃x,x=(u*4294967296+v1)/Y:=⟨_,rfl⟩;obtain⟨t,H⟩:∃x,x=(u*4294967296+v1)%Y:=⟨_,rfl⟩;have c2:t<Y:=by rw [H];exact bO _ O
 have ht:t<d*4294967296+N:=O;obtain⟨Q0,k⟩:∃x,x=(t*4294967296+v0)/Y:=⟨_,rfl⟩;have R:0<Y:=O;obtain⟨a6,a7⟩:=dv_two (D:=D) R Z a0 Q P;rw [<-m,<-H,<-k]at a6;rw [<-H]at a7;have b8:Q0<4294967296:=by rw [k,e];exact dv_Q I ht
 have b9:Q1<4294967296:=by rw [m,e];exact dv_Q M hu
 refine go 13<|Zc J (λa1=>?_) (λa1=>?_)
 .exfalso;omega
 .refine go 10<|Zc J (λa2=>?_) (λa2=>?_)
  .exfalso;omega
  .refine go 9<|Zc J (λa3=>?_) (λa3=>?_)
   .refine go 1<|Pd (λ_=>False) [(0,0),(1,0),(2,0),(3,0),(4,0),(5,0),(6,0),(7,3)]<|go 2 ?_;refine Qb J J (Pq (Ycp J J J))<|go 2 ?_;refine Qb J J (Pq (u_rem J J J O))<|go 6 ?_;exact Nn a8 () results338 (by have h0:h=0:=O;rw [h0];simp) aA Za
   .refine go 5 ?_;refine cl 0 [] (Zqm hy) λ_ _=>?_;refine dt (Zv7 J J uT3 underlying319 (by simp only [U];omega))<|go 4 ?_;refine Zr (Kg 8 (v':= .int .u64 (s:Int)) J (by rw [hs]))<|go 3 ?_;refine dt (Zmk J J J J)<|go 4 ?_;refine Zr (Kg 2 (v':= .int .u64 (Y:Int)) J (by rw [g,aU (by rw [<-g];exact V)]))<|go 2 ?_;refine dt (Fp 4294967296 (n:=32) J J J J J)<|go 6 ?_;refine dt (Zq3 J J J)<|go 7 ?_;refine dt (Zmk J J J J)<|go 2 ?_;refine dt (Zd8 J J J (by first|exact bO _ Xs|omega))<|dt (Zmj J J (n:=64-s) J (by simp only [U];omega))<|dt (Yjr J J J (bO _ Xs) (bC (fU _ _) hl))<|go 4 ?_;refine Zr (Kg 11 (v':= .int .u64 (u:Int)) J (by rw [Z,hD,Yep O b7 hl]))<|go 3 ?_;refine dt (Zmk J J J J)<|go 4 ?_;refine Zr (Kg 12 (v':= .int .u64 (v:Int)) J (by rw [a0,hD,Ya9 h l s]))<|go 2 ?_;refine dt (Fp 4294967296 (n:=32) J J J J J)<|go 4 ?_;refine Zr (Kg 13 (v':= .int .u64 (v1:Int)) J (by rw [Q]))<|go 2 ?_;refine dt (Zq3 J J J)<|go 4 ?_;refine Zr (Kg 14 (v':= .int .u64 (v0:Int)) J (by rw [Zud,P]))<|Zr (Kg 9 (v':= .int .u64 (d:Int)) J (by rw [b1]))<|Zr (Kg 10 (v':= .int .u64 (N:Int)) J (by rw [Zud,a9]))<|go 3 ?_;refine dt (Ycp J J J)<|go 8 ?_;refine dt (Ck J J J)<|dt (Zd8 J J J (by first|exact bO _ Xs|omega))<|go 3 ?_;refine jn (G:=Unit) [2,8,9,10,11,13,14] [0] (λ_=>[(15,.int .u64 ((Q1:Nat):Int))]) (λ_=>[]) (λ_=>True) ?_ ?_
    .refine go 1<|Zr (Kg 16 (v':= .int .u64 ((u%d:Nat):Int)) J (by rw [rsub O O])) ?_;refine lp (G:=Nat×Nat) [2,8,9,10,11,13,14] [0] (λq=>[(15,.int .u64 (q.1:Int)),(16,.int .u64 (q.2:Int))]) (λq=>[]) (λq=>(dvI u v1 d N q.1 q.2)/\(q.2<4294967296)) (λq=>q.1) (u/d,u%d) ⟨dv0 b0 i f M hu,jN (bO _ O) i⟩ K2 aA ?_;rintro⟨a,r⟩ ⟨j,hr⟩;dsimp only at j hr;dsimp only;have b4:=j.1;have b5:=j.2.1;refine go 6<|Zj 69 J (λb2=>?_) (λb2=>?_)
     .refine go 16 ?_;have b:=Zi7 O j M hu O;have c:=b.1;refine go 2 ?_;refine dt (Zd8 (n:=1) J J J)<|go 4 ?_;refine Zr (Kg 15 (v':= .int .u64 ((a-1:Nat):Int)) J (Zbd (Ztk c O)))<|go 3 ?_;refine dt (Bg J J J)<|go 4 ?_;refine Zr (Kg 16 (v':= .int .u64 ((r+d:Nat):Int)) J (Zbd (aU O)))<|go 5<|Zc J (λa4=>?_) (λa4=>?_)
      .refine go 4 ?_;have z:Q1=a-1:=by rw [m,e];exact(Zgb O f b.2 O O).symm
       exact Gd () aA ⟨by rw [z];rfl,aA⟩ aA
      .refine go 2 ?_;exact Yl (a-1,r+d) ⟨b.2,by dsimp only;omega⟩ O1 K2 aA
     .have W:=Zsf (show a<4294967296 by omega) f;have e1:=aU (show a*N<U from W);have e2:=aU (show 4294967296*r<U by omega);have e3:=aU (show 4294967296*r+v1<U by omega);refine go 2 ?_;refine Fj (Ck J J J) J J<|go 1 ?_;refine Fj (Ck J J J) J J<|go 1 ?_;refine Fj (Bg J J J) J J<|go 4 ?_;refine Zc J (λo=>?_) (λo=>?_)
      .rw [e1,e2,e3]at o;refine go 4 ?_;have b:=Zi7 O j M hu O;have c:=b.1;refine go 2 ?_;refine dt (Zd8 (n:=1) J J J)<|go 4 ?_;refine Zr (Kg 15 (v':= .int .u64 ((a-1:Nat):Int)) J (Zbd (Ztk c O)))<|go 3 ?_;refine dt (Bg J J J)<|go 4 ?_;refine Zr (Kg 16 (v':= .int .u64 ((r+d:Nat):Int)) J (Zbd (aU O)))<|go 5<|Zc J (λB=>?_) (λB=>?_)
       .refine go 4 ?_;have z:Q1=a-1:=by rw [m,e];exact(Zgb O f b.2 O O).symm
        exact Gd () aA ⟨by rw [z];rfl,aA⟩ aA
       .refine go 2 ?_;exact Yl (a-1,r+d) ⟨b.2,by dsimp only;omega⟩ O1 K2 aA
      .rw [e1,e2,e3]at o;refine go 4 ?_;have z:Q1=a:=by rw [m,e];exact(Zp0 O j O).symm
       exact Gd () aA ⟨by rw [z];rfl,aA⟩ aA
    .rintro _ -;refine go 3 ?_;refine dt (Ck J J J)<|go 1 ?_;refine dt (Bg J J J)<|go 2 ?_;refine dt (Ck J J J)<|dt (Zd8 J J J (by first|exact bO _ Xs|omega))<|go 4 ?_;refine Zr (Kg 17 (v':= .int .u64 (t:Int)) J (by rw [H,m,Zy7 R V]))<|go 3 ?_;refine dt (Ycp J J J)<|go 8 ?_;refine dt (Ck J J J)<|dt (Zd8 J J J (by first|exact bO _ Xs|omega))<|go 3 ?_;refine jn (G:=Unit) [2,8,14,15,17] [0] (λ_=>[(18,.int .u64 ((Q0:Nat):Int))]) (λ_=>[]) (λ_=>True) ?_ ?_
     .refine go 1<|Zr (Kg 16 (v':= .int .u64 ((t%d:Nat):Int)) J (by rw [rsub O O])) ?_;refine lp (G:=Nat×Nat) [2,8,9,10,14,15,17] [0] (λq=>[(18,.int .u64 (q.1:Int)),(16,.int .u64 (q.2:Int))]) (λq=>[]) (λq=>(dvI t v0 d N q.1 q.2)/\(q.2<4294967296)) (λq=>q.1) (t/d,t%d) ⟨dv0 b0 i f I ht,jN (bO _ O) i⟩ K2 aA ?_;rintro⟨a,r⟩ ⟨j,hr⟩;dsimp only at j hr;dsimp only;have b4:=j.1;have b5:=j.2.1;refine go 6<|Zj 104 J (λb3=>?_) (λb3=>?_)
      .refine go 16 ?_;have b:=Zi7 O j I ht O;have c:=b.1;refine go 2 ?_;refine dt (Zd8 (n:=1) J J J)<|go 4 ?_;refine Zr (Kg 18 (v':= .int .u64 ((a-1:Nat):Int)) J (Zbd (Ztk c O)))<|go 3 ?_;refine dt (Bg J J J)<|go 4 ?_;refine Zr (Kg 16 (v':= .int .u64 ((r+d:Nat):Int)) J (Zbd (aU O)))<|go 5<|Zc J (λa5=>?_) (λa5=>?_)
       .refine go 4 ?_;have z:Q0=a-1:=by rw [k,e];exact(Zgb O f b.2 O O).symm
        exact Gd () aA ⟨by rw [z];rfl,aA⟩ aA
       .refine go 2 ?_;exact Yl (a-1,r+d) ⟨b.2,by dsimp only;omega⟩ O1 K2 aA
      .have W:=Zsf (show a<4294967296 by omega) f;have e1:=aU (show a*N<U from W);have e2:=aU (show 4294967296*r<U by omega);have e3:=aU (show 4294967296*r+v0<U by omega);refine go 2 ?_;refine Fj (Ck J J J) J J<|go 1 ?_;refine Fj (Ck J J J) J J<|go 1 ?_;refine Fj (Bg J J J) J J<|go 4 ?_;refine Zc J (λp=>?_) (λp=>?_)
       .rw [e1,e2,e3]at p;refine go 4 ?_;have b:=Zi7 O j I ht O;have c:=b.1;refine go 2 ?_;refine dt (Zd8 (n:=1) J J J)<|go 4 ?_;refine Zr (Kg 18 (v':= .int .u64 ((a-1:Nat):Int)) J (Zbd (Ztk c O)))<|go 3 ?_;refine dt (Bg J J J)<|go 4 ?_;refine Zr (Kg 16 (v':= .int .u64 ((r+d:Nat):Int)) J (Zbd (aU O)))<|go 5<|Zc J (λF=>?_) (λF=>?_)
        .refine go 4 ?_;have z:Q0=a-1:=by rw [k,e];exact(Zgb O f b.2 O O).symm
         exact Gd () aA ⟨by rw [z];rfl,aA⟩ aA
        .refine go 2 ?_;exact Yl (a-1,r+d) ⟨b.2,by dsimp only;omega⟩ O1 K2 aA
       .rw [e1,e2,e3]at p;refine go 4 ?_;have z:Q0=a:=by rw [k,e];exact(Zp0 O j O).symm
        exact Gd () aA ⟨by rw [z];rfl,aA⟩ aA
     .rintro _ -;refine go 3 ?_;refine dt (Ck J J J)<|go 1 ?_;refine dt (Bg J J J)<|go 1 ?_;refine dt (Ck J J J)<|go 1 ?_;refine dt (Bg J J J)<|go 2 ?_;refine dt (Ck J J J)<|dt (Zd8 J J J (by first|exact bO _ Xs|omega))<|go 1 ?_;refine dt (Zmj J J J J)<|go 5 ?_;have hA:(Q1*4294967296%U+Q0)%U=(h*U+l)/y:=by rw [<-Zmv _ y s,<-hD,<-g,a6];simp only [U];omega
      have hB:((t*4294967296%U+v0)%U+(U-(Q0*Y)%U))%U/2^s=(h*U+l)%y:=by rw [<-Zmu _ y s,<-hD,<-g,a7,k,Zy7 R V]
      exact Nn a8 () results338 (by rw [hA,hB]) aA Za
theorem Ya5{d:Nat}(s:bl x<=8589934592)(f:0<d)(g:d<U):Cal prog 336 #[v,.int .u64 (d:Int)] [Er v x] false (G:=Value) (λr=>True) (λr=> .tuple #[r,.int .u64 ((x%d:Nat):Int)]) (λr=>[Er r (x/d)]):=by
 refine Zd func336 ntmps336 λu t j i=>?_;have p:=Nu x;refine go 10 ?_;refine tt (Et 2 ((dg U x).length) 8 (enc:=Md) 0 J J J J Pn ti125 J pU.cells pU.pos J J J j.h) (λv _=>?_);refine go 18 ⟨O,?_⟩;refine lp (G:=Nat×List Nat×Nat) [0,1,6] [0,1] (λq=>[(8,.int .i64 ((q.1:Int)-1)),(7,.int .u64 (q.2.2:Int))]) (λq=>[(2,Ol 1 125 Md v q.2.1)]) (λq=>(q.1<=(dg U x).length)/\(q.2.1.length=(dg U x).length)/\(q.2.2<d)/\(∀d∈q.2.1,d<U)/\(val U (q.2.1.drop q.1)*d+q.2.2=val U ((dg U x).drop q.1))) (λq=>q.1) ((dg U x).length,List.replicate (dg U x).length 0,0) ⟨aJ _,O8,O1,Ld Xs,by simp [val]⟩ K2 K1 ?_;rintro⟨k,o,r⟩ ⟨l,h,c,a,e⟩;dsimp only at l h c a e;dsimp only;refine go 7<|Zc J (λb=>?_) (λb=>?_)
 .refine go 10 ?_;refine dt (Ym 1 (k-1) J J J J Zk Pn Kf)<|go 2 ⟨O2,?_⟩;refine cl 2 [] (Zt8 (Pm Xs (Gr Xm _) _) g c) λ_ _=>go 3 ?_;refine dt (Ym 2 (k-1) J J J J (Yo pU) Pn Kf)<|tt (Lm 2 (enc:=Md) J J J J J J pU J j.h O3 O2) (λ_ _=>?_);refine go 9 ⟨O,?_⟩;exact Yl (k-1,_,_) ⟨O1,O9,bO _ f,Ik a _ _ (Ztc (Pm Xs (Gr Xm x) _) c),Zuv f O O (by rw [show k-1+1=k by omega];exact e)⟩ O1 ⟨by rw [show(((k-1:Nat):Int)-1)=(k:Int)-1-1 by omega];rfl,rfl,aA⟩ K1
 .refine go 8 ?_;refine cl 2 [2] Pt λ_ _=>?_;refine Nk (Zj4 2 J J pU)<|go 6 ?_;obtain rfl:k=0:=O;rw [lM,lM,Hi Xm]at e;have n:tz o=dg U (x/d):=by rw [<-Cj Xm _ a,<-e,aR,gV f,dI c,fR]
  have m:r=x%d:=by rw [<-e,aR,iU,aU c]
  exact Nn i _ results336 (by rw [m]) aA (gow 2 Za n)
theorem Zo2{s:Nat}(W:bl x<=4294967296:=by omega)(hs:s<=4294967296:=by omega):Cal prog 337 #[v,.int .i64 (s:Int)] [Er v x] false (G:=Value) (λr=>True) (λr=>r) (λr=>[Er r (x*2^s)]):=by
 refine Zd func337 ntmps337 λZ Y I B=>?_;obtain⟨w,S⟩:∃w,w=s/64:=⟨_,rfl⟩;obtain⟨b,Q⟩:∃b,b=s%64:=⟨_,rfl⟩;have V:=Nu x;refine go 13<|Zc J (λm=>?_) (λm=>?_)
 .refine go 7<|Xg (Hb 9 1 125 Md) ?_;have M:x=0:=(Nt Xm x).1 O;exact Yx B (.slice none 0 0) results337 J aA (gow 9 Za (by rw [M,iO];rfl))
 .refine go 5 ?_;refine dt (Zlo J J J)<|go 1 ?_;refine dt (Ki J J J)<|go 5 ?_;refine Zr (Kg 5 (v':= .int .i64 (w:Int)) J (by congr 1;omega))<|Zr (Kg 6 (v':= .int .i64 (b:Int)) J (by congr 1;omega))<|go 6 ⟨O,O,?_⟩;refine tt (Et 2 ((dg U x).length+w+1) 8 (enc:=Md) 0 J J J J Pn ti125 J pU.cells pU.pos J J J I.h) λv _=>go 12 ?_;refine lp (G:=Nat×List Nat) [5,6,7,23,24] [0,1] (λq=>[(25,.int .i64 (q.1:Int))]) (λq=>[(2,Ol 1 125 Md v q.2)]) (λq=>(q.1<=(dg U x).length)/\(q.2.length=(dg U x).length+w+1)/\(q.2.getD (w+q.1) 0<2^b)/\(∀j,w+q.1<j->q.2.getD j 0=0)/\(∀d∈q.2,d<U)/\(val U (q.2.take ((dg U x).length+w+1))=val U ((dg U x).take q.1)*2^b*U^w)) (λq=>(dg U x).length-q.1) (0,List.replicate ((dg U x).length+w+1) 0) ⟨O1,O8,by rw [Ea];exact dZ b,λj _=>Ea _ j,Ld Xs,by rw [nG,Dl];simp [val]⟩ K1 K1 ?_;rintro⟨i,o⟩ ⟨hi,z,P,l,a,F⟩;dsimp only at hi z P l a F;dsimp only;have D:i<(dg U x).length->_:=λR=>Ydn (xs:=dg U x) (show b<=63 by omega) z.symm (show w+i+1<_ by omega) P (l (w+i+1) O) (Pm Xs (Gr Xm x) i) F;refine go 6<|Zc J (λp=>?_) (λp=>?_)
  .refine go 14 ⟨O2,O2,?_⟩;have f:=Pm Xs (Gr Xm x) i;refine Pd (λ_=>False) [(0,0),(1,0),(2,0),(3,0),(4,0),(5,0),(6,0),(7,0),(8,0),(9,0),(10,0),(11,3)]<|go 4 ⟨O,?_⟩;refine Qb J J (Pq (Ym 2 (w+i) J J J J (Yo pU) Pn Kf))<|go 3 ⟨O2,?_⟩;refine Qb J J (Pq (Zmk J J (n:=b) J J))<|Qb J J (Pq (Yjr J J J (Pm Xs a _) (bO _ Xs)))<|Qb J J (Pq (Ym 2 (w+i) J J J J (Yo pU) Pn Kf))<|r3' J (Lm 2 (enc:=Md) J J J J J J pU J I.h O3 O2) λ_ _=>go 8 ?_;refine Zc J (λt=>?_) (λt=>?_)
   .have c:=Ik (Ik a (w+i) (o.getD (w+i) 0 ||| (dg U x).getD i 0*2^b%U) (kA (n:=64) (Pm Xs a _) (bO _ Xs))) (w+i+1) ((dg U x).getD i 0/2^(64-b)) (bC (fU _ _) f);have g:((o.set (w+i) (o.getD (w+i) 0 ||| (dg U x).getD i 0*2^b%U)).set (w+i+1) ((dg U x).getD i 0/2^(64-b))).getD (w+i+1) 0<2^b:=by rw [Mc O9,aF rfl];exact Ze1 O f
    have k:∀j,w+i+1<j->((o.set (w+i) (o.getD (w+i) 0 ||| (dg U x).getD i 0*2^b%U)).set (w+i+1) ((dg U x).getD i 0/2^(64-b))).getD j 0=0:=λj u=>by rw [Mc O9,aD O,Mc O,aD O];exact l j O
    have e:=D O;refine go 9 ⟨O,O,O,?_⟩;refine dt (Zmj J J (n:=64-b) J O)<|dt (Ym 2 (w+i+1) J J J J (Yo pU) Pn Kf O (by simp only [bX];omega))<|tt (Lm 2 (enc:=Md) J J J J J J pU J I.h O3 (by simp only [bX];omega)) (λ_ _=>?_);refine go 7 ⟨O,?_⟩;exact Yl (i+1,_) ⟨O1,O9,by dsimp only;rw [show w+(i+1)=w+i+1 by omega];exact g,λj u=>by have H:w+(i+1)<j:=u;dsimp only;exact k j O,c,e⟩ O1 K1 K1
   .obtain rfl:b=0:=O;have c:=Ik a (w+i) (o.getD (w+i) 0 ||| (dg U x).getD i 0*2^0%U) (kA (n:=64) (Pm Xs a _) (bO _ Xs));have g:(o.set (w+i) (o.getD (w+i) 0 ||| (dg U x).getD i 0*2^0%U)).getD (w+i+1) 0<2^0:=by rw [Mc O,aD O,l _ O];exact dZ 0
    have k:∀j,w+i+1<j->(o.set (w+i) (o.getD (w+i) 0 ||| (dg U x).getD i 0*2^0%U)).getD j 0=0:=λj u=>by rw [Mc O,aD O];exact l j O
    have e:=D O;rw [show(dg U x).getD i 0/2^(64-0)=0 from dI f]at e;have h:=Zl9 (o.set (w+i) (o.getD (w+i) 0 ||| (dg U x).getD i 0*2^0%U)) (w+i+1) (by rw [Mc O,aD O,l _ O]);rw [h]at e;refine go 7 ⟨O,?_⟩;exact Yl (i+1,_) ⟨O1,O9,by dsimp only;rw [show w+(i+1)=w+i+1 by omega];exact g,λj u=>by have H:w+(i+1)<j:=u;dsimp only;exact k j O,c,e⟩ O1 K1 K1
  .refine go 8 ?_;refine cl 2 [2] Pt λ_ _=>?_;refine Nk (Zj4 2 J J pU)<|go 4 ?_;obtain rfl:i=(dg U x).length:=O;have N:tz o=dg U (x*2^s):=by rw [<-Cj Xm _ a];congr 1;rw [Ie U o O,cC (aJ _),Hi Xm,Zc8,dB,<-bN,show b+64*w=s by omega]at F;exact F
   exact Yx B _ results337 J aA (gow 2 Za N)
theorem Ylg{s:Nat}(R:bl x<=8589934592)(hs:s<=8589934592):Cal prog 339 #[v,.int .i64 (s:Int)] [Er v x] false (G:=Value) (λr=>True) (λr=>r) (λr=>[Er r (x/2^s)]):=by
 refine Zd func339 ntmps339 λV S F D=>?_;obtain⟨w,m⟩:∃w,w=s/64:=⟨_,rfl⟩;obtain⟨b,k⟩:∃b,b=s%64:=⟨_,rfl⟩;have Q:=Nu x;have N:((dg U x).drop w).length=(dg U x).length-w:=eH;refine go 8 ?_;refine dt (Zlo J J J)<|go 1 ?_;refine dt (Ki J J J)<|go 6 ?_;refine Zr (Kg 5 (v':= .int .i64 (w:Int)) J (by congr 1;omega))<|Zr (Kg 6 (v':= .int .i64 (b:Int)) J (by congr 1;omega))<|go 7<|Zc J (λu=>?_) (λu=>?_)
 .refine go 7<|Xg (Hb 9 1 125 Md) ?_;have H:x/2^s=0:=by rw [Zar m k,dI ((Xx Xm w x).1 O),Nat.zero_div]
  exact Yx D (.slice none 0 0) results339 J aA (gow 9 Za (by rw [H];rfl))
 .refine go 6 ?_;refine dt (d_suf 1 w J J J J Zk Pn Kf O)<|Nk (s_suf 1 2 w J J)<|tt (Zik 3 (Yb0 (by simp only [eH];omega)) J J J K1 call362 (Yd 2 J J J Zs) J F.h) λv _=>go 3 ?_;refine jn (G:=List Nat) [7] [0,1,2] (λo=>[]) (λo=>[(3,Ol 1 125 Md v o)]) (λo=>(o.length=(dg U x).length-w)/\(∀j,j<o.length->o.getD j 0=x/2^s/U^j%U)) ?_ ?_
  .refine go 6<|Zc J (λz=>?_) (λz=>?_)
   .refine go 8 ?_;refine lp (G:=Nat×List Nat) [0,5,6,7,24] [0,1,2] (λq=>[(25,.int .i64 (q.1:Int))]) (λq=>[(3,Ol 1 125 Md v q.2)]) (λq=>(q.1<=(dg U x).length-w)/\(q.2.length=(dg U x).length-w)/\(∀j,j<q.1->q.2.getD j 0=x/2^s/U^j%U)/\(∀j,q.1<=j->q.2.getD j 0=x/U^w/U^j%U)/\(∀d∈q.2,d<U)) (λq=>(dg U x).length-w-q.1) (0,(dg U x).drop w) ⟨bI _,O8,λj f=>absurd f (cK j),λj _=>Zza x w j,λd M=>Gr Xm x d (kL M)⟩ K1 K1 ?_;rintro⟨i,o⟩ ⟨hi,t,p,l,a⟩;dsimp only at hi t p l a;dsimp only;refine go 6<|Zc J (λB=>?_) (λB=>?_)
    .refine go 17 ⟨O2,O2,?_⟩;refine dt (Zmj J J (n:=b) J J)<|go 1 ⟨O2,?_⟩;refine tt (Lm 3 (enc:=Md) J J J J J J pU J F.h O3 O2) (λ_ _=>?_);refine go 11 ⟨O,?_⟩;refine Zc J (λg=>?_) (λg=>?_)
     .simp only [bX]at g;have c:∀j,((o.set i (o.getD i 0/2^b)).set i ((o.set i (o.getD i 0/2^b)).getD i 0 ||| ((dg U x).getD (w+i+1) 0*2^(64-b))%U)).getD j 0=if i=j then x/2^s/U^i%U else o.getD j 0:=λj=>by
       rw [Mc O9,Mc O,Mc O];split
       .rw [aF rfl,l i (aJ _),Fa Xm,Zar m k,Zte,show x/U^(w+i+1)=x/U^w/U^i/U by rw [bA,bA,<-cJ,<-bN];rfl,Zri _ _ O]
       .rfl
      have h:=Ik (Ik a i (o.getD i 0/2^b) (bC (fU _ _) (Pm Xs a _))) i ((o.set i (o.getD i 0/2^b)).getD i 0 ||| ((dg U x).getD (w+i+1) 0*2^(64-b))%U) (kA (n:=64) (Pm Xs (Ik a _ _ (bC (fU _ _) (Pm Xs a _))) _) (bO _ Xs));refine Pd (λ_=>False) [(0,0),(1,0),(2,0),(3,0),(4,0),(5,0),(6,0),(7,0),(8,0),(9,0),(10,0),(11,0),(12,0),(13,0),(14,0),(15,0),(16,3)]<|go 9 ⟨O2,O2,O,O,?_⟩;refine Qb J J (Pq (Ym 1 (w+i+1) J J J J Zk Pn Kf O O2))<|go 3 ⟨O2,O,?_⟩;refine Qb J J (Pq (Zmk J J (n:=64-b) J O))<|Qb J J (Pq (Yjr J J J (Pm Xs (Ik a _ _ (bC (fU _ _) (Pm Xs a _))) _) (bO _ Xs)))<|go 1 ⟨O2,?_⟩;refine r3' J (Lm 3 (enc:=Md) J J J J J J pU J F.h O3 O2) (λ_ _=>?_);refine go 7 ⟨O,?_⟩;exact Yl (i+1,_) ⟨O1,O9,λj f=>by dsimp only;rw [c j];split;(· rename_i e;rw [<-e]);exact p j (by have:j<i+1:=f;omega),λj f=>by dsimp only;rw [c j,aD (by have:i+1<=j:=f;omega)];exact l j (by have:i+1<=j:=f;omega),h⟩ O1 K1 K1
     .have c:∀j,(o.set i (o.getD i 0/2^b)).getD j 0=if i=j then x/2^s/U^i%U else o.getD j 0:=λj=>by
       rw [Mc O];split
       .rw [l i (aJ _),Zar m k,Zte,Yaq O];rw [bA,<-cJ];exact dI (Zyl (by simp only [bX]at g;omega))
       .rfl
      have h:=Ik a i (o.getD i 0/2^b) (bC (fU _ _) (Pm Xs a _));refine go 7 ⟨O,?_⟩;exact Yl (i+1,_) ⟨O1,O9,λj f=>by dsimp only;rw [c j];split;(· rename_i e;rw [<-e]);exact p j (by have:j<i+1:=f;omega),λj f=>by dsimp only;rw [c j,aD (by have:i+1<=j:=f;omega)];exact l j (by have:i+1<=j:=f;omega),h⟩ O1 K1 K1
    .refine go 4 ?_;exact Gd _ ⟨O,by intro j f;rw [p j O]⟩ aA K1
   .refine go 1 ?_;exact Gd _ ⟨O8,by intro j f;rw [Zza,Zar m k,show b=0 by omega,gW,Nat.div_one]⟩ aA K1
  .rintro o ⟨t,P⟩;refine go 3 ?_;refine cl 3 [3] Pt λ_ _=>?_;refine Nk (Zj4 3 J J pU)<|go 4 ?_;have I:tz o=dg U (x/2^s):=Zuq Xm P (by rw [t,Zar m k];exact bC (fU _ _) (Zyl O));exact Yx D _ results339 J aA (gow 3 Za I)
theorem Zm8(t:bl x<=4294967296:=by omega):Xj prog 242 #[v] [Er v x] (.string (Xn x)):=by
 refine Zd func242 ntmps242 λz u h g=>?_;have s:=Nu x;have p:=Zvi x;have r:=lenU x;have m:(List.replicate (dg 256 x).length (0:Nat)).length=(dg 256 x).length:=aT;refine go 8 ?_;refine cl 1 [1] Zko λ_ _=>?_;refine go 1 ⟨O,?_⟩;refine dt (Zlo J J J)<|tt (Et 2 ((dg 256 x).length) 1 (enc:=Ybr) 0 J J J J uT384 ti5 J pB.cells pB.pos J J J h.h) λv _=>go 12 ?_;refine lp (G:=Nat×List Nat) [0,3,12] [0,1] (λq=>[(13,.int .i64 (q.1:Int))]) (λq=>[(2,Ol 1 5 Ybr v q.2)]) (λq=>(q.1<=(dg 256 x).length)/\(q.2.length=(dg 256 x).length)/\(∀j,j<q.1->q.2.getD j 0=x/256^((dg 256 x).length-1-j)%256)) (λq=>(dg 256 x).length-q.1) (0,List.replicate (dg 256 x).length 0) ⟨O1,O8,λj d=>absurd d (cK j)⟩ K1 K1 ?_;rintro⟨i,o⟩ ⟨hi,f,b⟩;dsimp only at hi f b;dsimp only;refine go 6<|Zc J (λc=>?_) (λc=>?_)
 .refine go 20 ⟨O,O,?_⟩;refine Zr (Kg 5 (v':= .int .i64 (((dg 256 x).length-1-i:Nat):Int)) J (by congr 1;omega)) ?_;have a:=Zqg x ((dg 256 x).length-1-i);rw [<-Fa Xm]at a;refine go 5 ?_;refine dt (Zlo J J J)<|dt (Ym 1 (((dg 256 x).length-1-i)/8) J J J J Zk Pn Kf)<|go 2 ⟨O,?_⟩;refine dt (Ki J J J)<|go 1 ⟨O,?_⟩;refine dt (Zmj J J (n:=((dg 256 x).length-1-i)%8*8) J O)<|dt (Zgi J J Zap uT5)<|go 1 ⟨O2,?_⟩;refine tt (Lm 2 (enc:=Ybr) J J J J J J pB J h.h O3 O2) (λ_ _=>?_);refine go 7 ⟨O,?_⟩;exact Yl (i+1,_) ⟨O1,O9,λj d=>by dsimp only;rw [Mc O];split;(· rename_i e;rw [<-e];exact a);exact b j O⟩ O1 K1 K1
 .refine go 8 ?_;refine dt (d_b2s J J (i:=2) J (Yo pB) uT384 uT9 uT5)<|go 4 ?_;have k:Xn x=⟨(o.map UInt8.ofNat).toArray⟩:=by
   have l:o=(dg 256 x).reverse:=by refine Zez O9 (λj d=>?_);rw [b j O,Zpg O,Fa O]
   rw [l];rfl
  exact Yx g () results242 (by rw [k]) aA Za
theorem Zdc(D:bl x<=4294967296:=by omega):Cal prog 243 #[.string (Xn x)] [] false (G:=Value) (λr=>True) (λr=>r) (λr=>[Er r x]):=by
 refine Zd func243 ntmps243 λH F b m=>?_;have B:=Nu x;have u:=Zvi x;have z:=lenU x;have p:=Fi x;refine go 10 ⟨O,?_⟩;refine dt (Zlo J J J)<|tt (Et 1 ((dg U x).length) 8 (enc:=Md) 0 J J J J Pn ti125 J pU.cells pU.pos J J J b.h) λv _=>go 12 ?_;refine lp (G:=Nat×List Nat) [0,3,12] [0] (λq=>[(13,.int .i64 (q.1:Int))]) (λq=>[(1,Ol 1 125 Md v q.2)]) (λq=>(q.1<=(dg 256 x).length)/\(q.2.length=(dg U x).length)/\(∀w,w<q.2.length->q.2.getD w 0=hi x ((dg 256 x).length-q.1) w)) (λq=>(dg 256 x).length-q.1) (0,List.replicate (dg U x).length 0) ⟨O1,O8,λw b=>by dsimp only at *;rw [aT]at b;rw [Ea,hi_top O]⟩ K1 K1 ?_;rintro⟨i,o⟩ ⟨l,f,a⟩;dsimp only at l f a;dsimp only;refine go 6<|Zc J (λk=>?_) (λk=>?_)
 .refine go 20 ⟨O,O,?_⟩;refine Zr (Kg 5 (v':= .int .i64 (((dg 256 x).length-1-i:Nat):Int)) J (by congr 1;omega)) ?_;have c:=Zt6 x i O;have h:=a (((dg 256 x).length-1-i)/8) O;have d:o.getD (((dg 256 x).length-1-i)/8) 0<U:=by rw [h];exact bO _ Xs
  have g:∀w,w<o.length->(o.set (((dg 256 x).length-1-i)/8) (o.getD (((dg 256 x).length-1-i)/8) 0 ||| (((Xn x).data.toList.getD i 0).toNat*2^(((dg 256 x).length-1-i)%8*8))%U)).getD w 0=hi x ((dg 256 x).length-(i+1)) w:=λw b=>by
   rw [c,h,show(dg 256 x).length-i=(dg 256 x).length-1-i+1 by omega,Yl1,Mc O,show(dg 256 x).length-(i+1)=(dg 256 x).length-1-i by omega];split
   .rename_i e;rw [e]
   .rename_i e;rw [a w b,show(dg 256 x).length-i=(dg 256 x).length-1-i+1 by omega];exact Yfz e
  refine Pd (λ_=>False) [(0,0),(1,0),(2,0),(3,0),(4,0),(5,0),(6,0),(7,0),(8,0),(9,0),(10,0),(11,0),(12,0),(13,0),(14,0),(15,3)]<|go 2 ?_;refine Qb J J (Pq (Zlo J J J))<|Qb J J (Pq (Ym 1 (((dg 256 x).length-1-i)/8) J J J J (Yo pU) Pn Kf))<|go 3 ⟨O2,?_⟩;refine Qb J J (Pq (Yhl J J J uT9 J))<|Qb J J (Pq (Zv7 J J uT5 Zap (by have:=(((Xn x).data.toList.getD i 0).toNat_lt);simp only [U];omega)))<|go 1 ?_;refine Qb J J (Pq (Ki J J J))<|go 1 ⟨O,?_⟩;refine Qb J J (Pq (Zmk J J (n:=((dg 256 x).length-1-i)%8*8) J O))<|Qb J J (Pq (Yjr J J J d (bO _ Xs)))<|Qb J J (Pq (Ym 1 (((dg 256 x).length-1-i)/8) J J J J (Yo pU) Pn Kf))<|r3' J (Lm 1 (enc:=Md) J J J J J J pU J b.h O3 O2) (λ_ _=>?_);refine go 7 ⟨O,?_⟩;exact Yl (i+1,_) ⟨O1,O9,λw b=>g w (by simpa using b)⟩ O1 K1 K1
 .refine go 12 ?_;have t:o=dg U x:=Zez f (λj s=>by rw [a j s,Fa Xm,Yf1 O]);exact Yx m _ results243 J aA (gow 1 Za t)
theorem Zyc(hx:bl x<=4000000000)(e0:bl y<=4000000000)(hy:0<y):Cal prog 301 #[v,w] [Er v x,Er w y] true (G:=Value×Value) (λr=>True) (λr=> .tuple #[r.1,r.2]) (λr=>[Er r.1 (x/y),Er r.2 (x%y)]):=by
 refine Zd func301 ntmps301 λw0 sc p P=>?_;have hX:=Nu x;have hY:=Nu y;refine go 11 ?_;refine cl 2 [1,2] (Zcl O O) λr hr=>go 3<|Zc J (λS=>?_) (λS=>?_)
 .have o:x<y:=hr.1.1 O;refine go 9<|Xg (Hb 9 1 125 Md) ?_;exact Nn P (.slice none 0 0,v) results301 J aA (gow 9 (Kd 1 Za (by rw [aU o])) (by rw [dI o];rfl))
 .have c4:y<=x:=by have:=hr.1;omega
  have d9:=Lk c4;refine go 10<|Zc J (λV=>?_) (λV=>?_)
  .have Q:y<U:=by have:=(Xx Xm 1 y).1 O;simpa using this
   have m:(dg U y).getD 0 0=y:=by rw [Fa Xm];simp [aU Q]
   refine go 6 ⟨O,O2,?_⟩;refine cl 3 [1] (Ya5 O (by rw [m];exact hy) (by rw [m];exact Q)) λv _=>go 11 ?_;refine tt (Oe [(0,_)] 4 (enc:=Md) [x%(dg U y).getD 0 0] J J K2 Pn ti125 J J J J J pU.cells J J p.h) λe2 _=>cl 4 [4] Pt λ_ _=>?_;refine Nk (Zj4 4 J J pU)<|go 6 ?_;exact Nn P (_,_) results301 J aA (Kd 3 (gow 4 Za (by rw [Zgu (jN (bO _ (by rw [m];exact hy)) (by rw [m];exact Q)),m])) (by rw [m]<;>rfl))
  .refine go 3 ?_;obtain⟨k,hk⟩:∃k,k=(dg U y).length:=⟨_,rfl⟩;have d8:k<=(dg U x).length:=O;obtain⟨b,hb⟩:∃b,b=64-bl ((dg U y).getD (k-1) 0):=⟨_,rfl⟩;obtain⟨b2,_,b1,a2,a9,B⟩:=Yld hy hk hb;obtain⟨D,c⟩:∃D,D=y*2^b:=⟨_,rfl⟩;have c5:(dg U D).length=k:=by rw [c];exact b2
   have a1:D<U^k:=by rw [c];exact a2
   have a0:U^(k-1)*9223372036854775808<=D:=by rw [c];exact B
   have l:0<D:=by rw [c];exact fY hy (dZ b)
   have d7:bl D<=4000000064:=by rw [c,Zwn hy];omega
   refine go 5 ⟨O,?_⟩;refine dt (Ym 2 ((dg U y).length-1) J J J J Zk Pn Kf)<|go 1 ⟨O2,?_⟩;refine cl 4 [] (Zqm (Pm Xs (Gr Xm y) _)) λ_ _=>?_;refine Nk (Kg 44 (v':= .int .i64 (b:Int)) J (by rw [hb,hk]))<|go 3 ?_;refine jn (G:=Value×Value) [0,8] [0,1,2] (λq=>[(9,q.1),(10,q.2)]) (λq=>[(81,Er q.1 D),(82,Ol 1 125 Md q.2 (List.replicate ((dg U x).length+1) 0))]) (λq=>True) ?_ ?_
   .refine Zac (λ_=>False) [8]<|Zw 4 [(0,0),(1,0),(3,0),(4,0),(5,0)]<|go 6 ⟨O,?_⟩;refine Nm 3 2 6 ?_ ?_
    .refine Iy (Zv 81 [2] Zo2) λe3 _=>?_;refine Zw 0 [(7,0),(6,1),(8,3)]<|go 1 ?_;refine Bm J (Et 82 ((dg U x).length+1) 8 (enc:=Md) 0 J J J J Pn ti125 J pU.cells pU.pos J J J p.h) λe4 _=>go 2 ?_;exact Yq<|Gd (_,_) aA K2 ⟨by rw [c];rfl,rfl,aA⟩
    .refine Zaf J J (Et 82 ((dg U x).length+1) 8 (enc:=Md) 0 J J J J Pn ti125 J pU.cells pU.pos J J J p.h) (λe5 _=>?_);refine Zw 0 [(2,1),(7,0),(8,3)]<|Qk (Zv 81 [2] Zo2) λe6 _=>go 3 ?_;exact Yq<|Gd (_,_) aA K2 ⟨by rw [c];rfl,rfl,aA⟩
   .rintro⟨vd,vr⟩ -;dsimp only;refine go 1 ?_;have c7:(dg U (x*2^b)).length<=(dg U x).length+1:=(Xx Xm _ _).2 (by rw [cJ];exact jE ((Xx Xm _ x).1 (aJ _)) (by rw [Yi3];exact dK O O) Xs);refine go 4 ?_;refine cl 5 [1] Zo2 λe7 _=>?_;refine tt (t_cpy 82 5 0 J J J J J J O3 J Zk Yhc (by rw [aT];exact c7) (by rw [aT];omega) (by rw [aT];omega) Pn pU J p.h) λ_ _=>go 3 ?_;have a4:(spl (List.replicate ((dg U x).length+1) 0) 0 (dg U (x*2^b))).length=(dg U x).length+1:=by rw [Ih (by rw [aT];omega),aT]
    refine go 7 ?_;have d2:(List.replicate ((dg U x).length+1-k) (0:Nat)).length=(dg U x).length+1-k:=aT;refine Zr (Kg 11 (v':= .int .i64 (k:Int)) J (by rw [c5]))<|go 5 ⟨O,?_⟩;refine tt (Et 6 ((dg U x).length+1-k) 8 (enc:=Md) 0 J J J J Pn ti125 J pU.cells pU.pos J J J p.h) (λd1 _=>?_);refine go 13 ⟨O,?_⟩;refine lp (G:=Nat×List Nat×List Nat) [8,9,10,11,12] [0,81,1,2,5] (λq=>[(13,.int .i64 ((q.1:Int)-1))]) (λq=>[(82,Ol 1 125 Md vr q.2.1),(6,Ol 1 125 Md d1 q.2.2)]) (λq=>(q.1<=(dg U x).length+1-k)/\(q.2.1.length=(dg U x).length+1)/\(∀d∈q.2.1,d<U)/\(q.2.2.length=(dg U x).length+1-k)/\(∀d∈q.2.2,d<U)/\(val U q.2.1<D*U^q.1)/\(val U (q.2.2.drop q.1)*U^q.1*D+val U q.2.1=x*2^b)) (λq=>q.1) ((dg U x).length+1-k,spl (List.replicate ((dg U x).length+1) 0) 0 (dg U (x*2^b)),List.replicate ((dg U x).length+1-k) 0) ⟨aJ _,a4,Zqq (Ld Xs) (Gr Xm _) 0,O8,Ld Xs,by rw [Zq2,Hi Xm];exact Yhg ((Xx Xm _ x).1 (aJ _)) a9 b1 O a0,by rw [Zq2,Hi Xm];simp [val]⟩ ⟨by rw [aT];rfl,aA⟩ K2 ?_;rintro⟨a,R,q⟩ ⟨hj,a5,e,c8,M,H,hN⟩;dsimp only at hj a5 e c8 M H hN;dsimp only;refine go 7<|Zc J (λW=>?_) (λW=>?_)
    .refine go 5 ?_;have I:val U R<U^(a-1+k+1):=by refine cY H ?_;rw [show a-1+k+1=k+a by omega,bN];exact aP _ (eU a1)
     have s:tz ((R.drop (a-1)).take (a-1+k+1-(a-1)))=dg U (val U R/U^(a-1)):=Yji e O (by rw [show a-1+(a-1+k+1-(a-1))=a-1+k+1 by omega];exact I);have a7:val U R/U^(a-1)<D*U:=by rw [cL (bW Xs),dB,<-nI,show(a-1).succ=a by omega];exact H
     have a8:bl (val U R/U^(a-1))<=4294967296:=by have h1:=Lk (eU a7);have h2:=Zwo D U;have h3:bl U<=65:=(Qt 65 U).2 (by simp [U]);omega
     have b5:=Yju e (j:=a-1) b1 I O;have b7:(dg U D).getD (k-1) 0*U^(k-1)<=D:=by rw [Fa Xm];exact aB (aP _ (Nat.mod_le _ _)) (Nat.div_mul_le_self _ _)
     have c0:val U R/U^(a-1)/D<=18446744073709551615:=by have:=(cL l).2 (show _<U*D by rw [aR];exact a7);simp only [U]at this ⊢;omega
     refine go 4 ?_;refine jn (G:=Nat) [8,9,10,11,12,13] [0,82,6,81,1,2,5] (λg=>[(14,.int .u64 (g:Int))]) (λg=>[]) (λg=>(val U R/U^(a-1)/D<=g)/\(g<U)) ?_ ?_
     .refine go 1<|Pd (λ_=>False) [(0,0),(1,0),(2,0),(3,0),(4,0),(5,0),(6,0),(7,0),(8,0),(9,0),(10,0),(11,0)]<|go 4 ⟨O,?_⟩;refine Qb J J (Pq (Ym 82 (a-1+k) J J J J (Yo pU) Pn Kf))<|go 4 ⟨O2,O,?_⟩;refine Qb J J (Pq (Ym 81 (k-1) J J J J Zk Pn Kf))<|go 4 ⟨O2,?_⟩;refine Zc J (λY=>?_) (λY=>?_)
      .refine Pd (λ_=>False) [(0,0),(1,0),(2,0),(3,0),(4,0),(5,0),(6,0),(7,0),(8,0),(9,0),(10,0),(11,0),(12,0),(13,0),(14,0),(15,0),(16,0),(17,0),(18,1),(19,0),(20,0),(21,0),(22,0)]<|go 4 ⟨O,?_⟩;refine Qb J J (Pq (Ym 82 (a-1+k) J J J J (Yo pU) Pn Kf))<|go 6 ⟨O2,O,O,?_⟩;refine Qb J J (Pq (Ym 82 (a-1+k-1) J J J J (Yo pU) Pn Kf))<|go 4 ⟨O2,O,?_⟩;refine Qb J J (Pq (Ym 81 (k-1) J J J J Zk Pn Kf))<|go 1 ⟨O2,?_⟩;refine Qk (Zv 6 [] (Zt8 (Pm Xs e _) (Pm Xs (Gr Xm _) _) O)) λ_ _=>go 5 ?_;exact Gd _ ⟨Yf2 b7 O b5,Ztc (Pm Xs e _) O⟩ K1 aA
      .refine go 1 ?_;exact Gd 18446744073709551615 ⟨c0,O3⟩ K1 aA
     .rintro g ⟨hg,f⟩;refine go 8 ⟨O,O,?_⟩;refine dt (d_mid (ii:=82) (i:=a-1) (j:=a-1+k+1) J J J J J (Yo pU) Pn Kf O O O O)<|go 7 ?_;refine tt (Oe [(0,_)] 7 (enc:=Md) [g] J J K2 Pn ti125 J J J J J pU.cells J J p.h) λe8 _=>cl 7 [7] Pt λ_ _=>?_;refine Nk (Zj4 7 J J pU)<|Nk (Ydx 7 (Zgu f) J J)<|cl 83 [81,7] (Zyb O (aB ((Qt 64 g).2 f) O)) λd3 _=>go 5 ?_;refine lp (G:=Nat×Value) [8,9,10,11,12,13,15] [0,82,6,81,1,2,5,7] (λq=>[(14,.int .u64 (q.1:Int)),(16,q.2)]) (λq=>[(83,Er q.2 (D*q.1))]) (λq=>(val U R/U^(a-1)/D<=q.1)/\(q.1<U)) (λq=>q.1) (g,_) ⟨O1,O1⟩ ⟨J,J,aA⟩ ⟨J,aA⟩ ?_;rintro⟨g,vp⟩ ⟨hg,f⟩;dsimp only at hg f;dsimp only;have a3:bl (D*g)<=4294967296:=by have h1:=Zwo D g;have h2:=(Qt 64 g).2 f;omega
      refine go 4 ?_;refine tt (Oj 7 Pt J J J K1 call172 (Zdf 82 J J pU (Zis (a-1) (a-1+k+1)) Zja Zs) J p.h) λ_ _=>go 1 ?_;refine tt (Oj 7 (Zcl a8 a3) J J J K2 call272 (Zdf 82 J J pU (Yd2 s (by rw [s]) (Zis (a-1) (a-1+k+1))) (by rw [Gn];exact(Zja)) (Yd 83 J J J Zs)) J p.h) λe1 t=>go 3 ?_;refine Zc J (λZ=>?_) (λZ=>?_)
      .have o:val U R/U^(a-1)<D*g:=t.1.1 O;have b0:1<=g:=by rcases aV g with h|h;(rw [h,nX]at o;exact absurd o (cK _));exact h
       have b6:D<=D*g:=eP _ b0;have c1:val U R/U^(a-1)/D<=g-1:=by have:=(cL l).2 (show _<g*D by rw [aR];exact o);omega
       refine go 6 ?_;refine dt (Zd8 (n:=1) J J J)<|go 3 ?_;refine Zr (Kg 14 (v':= .int .u64 ((g-1:Nat):Int)) J (Zbd (Ztk b0 f)))<|go 3 ?_;refine cl 8 [83,81] (Zfy a3 b6) λd4 _=>go 3<|Xg (Kh 8 83 J J J) ?_;exact Yl (g-1,_) ⟨c1,by dsimp only;omega⟩ O1 K2 ⟨by rw [Nat.mul_sub_one];rfl,aA⟩
      .refine go 6 ?_;have hQ:g=val U R/U^(a-1)/D:=by have h1:=t.1;have h2:D*g<=val U R/U^(a-1):=O;exact jQ ((kH l).2 (by rw [aR];exact h2)) hg
       refine go 2 ?_;refine tt (Oj 8 Pt J J J K1 call172 (Zdf 82 J J pU (Zis (a-1) (a-1+k+1)) Zja Zs) J p.h) λ_ _=>go 1 ?_;refine tt (Oj 9 (Zfy a8) J J J K2 call273 (Zdf 82 J J pU (Yd2 s (by rw [s]) (Zis (a-1) (a-1+k+1))) (by rw [Gn];exact(Zja)) (Yd 83 J J J Zs)) J p.h) λd5 _=>go 4 ?_;have b3:(dg U (val U R/U^(a-1)-D*g)).length<=a-1+k+1-(a-1):=by
        have:val U R/U^(a-1)-D*g<D:=by rw [hQ];have h3:=cP (val U R/U^(a-1)) D;have h4:=bO (val U R/U^(a-1)) l;omega
        have:=(Xx Xm k _).2 (jN this a1);omega
       refine go 2 ?_;refine tt (t_clr (zv:= .bool false) (i:=82) (z:=0) (a-1) J J J J O3 (Zy8 O) O O Pn pU (λw=>zeroValue125 w) J J p.h) λ_ _=>go 6 ?_;refine tt (t_cpy 82 9 (a-1) J J J J J J O3 J Zk (Zy8 (by rw [Ih (by rw [aT];omega)];omega)) b3 (by rw [Ih (by rw [aT];omega)];omega) (by rw [Ih (by rw [aT];omega)];omega) Pn pU J p.h) λ_ _=>go 2 ?_;have b8:a-1+(List.replicate (a-1+k+1-(a-1)) 0).length<=R.length:=by rw [aT];omega
       have c6:=Ih (xs:=R) (lo:=a-1) b8;have b9:a-1+(dg U (val U R/U^(a-1)-D*g)).length<=(spl R (a-1) (List.replicate (a-1+k+1-(a-1)) 0)).length:=O;have u:=Yjq e (j:=a-1) (n:=a-1+k+1-(a-1)) O (by rw [show a-1+(a-1+k+1-(a-1))=a-1+k+1 by omega];exact I) b3;rw [Hi Xm]at u;have b4:=Yhf (j:=a-1) (N:=x*2^b) (Vq:=val U (q.drop a)) l hQ (by rw [show a-1+1=a by omega];exact hN);have a6:=b4.1;have F:=b4.2;rw [<-u]at a6 F;have c3:val U ((q.set (a-1) g).drop (a-1))=g+U*val U (q.drop a):=by rw [drop_set O,show a-1+1=a by omega];rfl
       rw [<-c3]at F;refine go 4 ?_;refine dt (Ym 6 (a-1) J J J J (Yo pU) Pn Kf)<|tt (Lm 6 (enc:=Md) J J J J J J pU J p.h O3 O2) (λ_ _=>?_);refine go 8 ⟨O,?_⟩;exact Yl (a-1,_,_) ⟨O1,(Ih b9).trans (c6.trans a5),Zqq (Zqq e (Ld Xs) _) (Gr Xm _) _,O9,Ik M _ _ f,a6,F⟩ O1 ⟨by rw [show(((a-1:Nat):Int)-1)=(a:Int)-1-1 by omega];rfl,aA⟩ K2
    .refine go 6 ?_;obtain rfl:a=0:=O;rw [gW,jV]at H;have c2:bl (val U R)<=8589934592:=by have:=Lk (eU H);omega
     refine go 2 ?_;refine cl 9 [6] Pt λ_ _=>?_;refine Nk (Zj4 6 J J pU)<|go 1 ?_;refine cl 9 [82] Pt λ_ _=>?_;refine Nk (Zj4 82 J J pU)<|Nk (Ydx 82 (Cj Xm R e).symm J J)<|go 1 ?_;refine cl 10 [82] (Ylg c2 O) λd6 _=>go 5 ?_;rw [lM,gW,jV]at hN;have c9:tz q=dg U (x/y):=by rw [<-Cj Xm _ M,<-Zmv x y b,<-c,<-hN,aR,gV l,dI H,fR]
     have d0:val U R/2^b=x%y:=by rw [<-Zmu x y b,<-c,<-hN,aR,iU,aU H]
     exact Nn P (_,_) results301 J aA (gow 6 (Kd 10 Za (by rw [d0])) c9)
theorem Zo3(l:bl x<=4000000000:=by omega)(m:bl y<=4000000000:=by omega):Cal prog 297 #[v,w] [Er v x,Er w y] true (G:=Value) (λr=>True) (λr=>r) (λr=>[Er r (Nat.gcd x y)]):=by
 refine Zd func297 ntmps297 λz s p j=>?_;have n:=Nu x;have o:=Nu y;refine go 7<|Zr (Kh 1 91 J J J)<|Zr (Kh 2 92 J J J) ?_;refine lp (G:=Value×Value×Nat×Nat) [] [0,1,2] (λq=>[(0,q.1),(1,q.2.1)]) (λq=>[(91,Er q.1 q.2.2.1),(92,Er q.2.1 q.2.2.2)]) (λq=>(Nat.gcd q.2.2.1 q.2.2.2=Nat.gcd x y)/\(bl q.2.2.1<=4000000000)/\(bl q.2.2.2<=4000000000)) (λq=>q.2.2.2) (v,w,x,y) ⟨J,l,m⟩ K2 K2 ?_;rintro⟨t,u,a,b⟩ ⟨i,k,f⟩;dsimp only at i k f;dsimp only;refine go 8<|Zc J (λd=>?_) (λd=>?_)
 .have c:0<b:=by rcases aV b with h|h;(subst h;simp [Eh]at d);exact h
  refine go 7 ?_;refine cl 3 [91,92] (Zyc k f c) λg _=>go 14 ?_;have e:a%b<b:=bO _ c;exact Xg (Kh 92 91 J J J)<|Xg (Kh 4 92 J J J)<|Yl (_,_,b,a%b) ⟨by dsimp only;rw [<-i,Nat.gcd_comm b,<-Nat.gcd_rec,Nat.gcd_comm],f,aB (Lk (eU e)) f⟩ e K2 K2
 .have c:b=0:=(Nt Xm b).1 O;refine go 12 ?_;exact Yx j _ results297 J aA (Kd 91 Za (by rw [<-i,c,Nat.gcd_zero_right]))
end Go.Sky

