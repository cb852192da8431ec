/- Rules, arithmetic and contracts: part 9. No conditions but those that each theorem names. -/
import Derived.Test.YtlnoheikolgejaaGreatLa07
set_option linter.all false
set_option maxHeartbeats 4000000
namespace Go.Sky
open Go.RowKit Below
variable {P:Program} {N:Nat} {sc:Nat->Prop} {env env':Xz} {H H':Hp} {Q Q':Exit->Act->World->Prop} {M:Nat->Prop}
class EnI (vs:List Value) (env:outParam Xz):Prop where h:Qd 0 vs=env
class PnI (vs:List Pc) (H:outParam Hp):Prop where h:Yr 1 vs=H
section
variable {a b c d e f g i j:Value} {p q r s t u v w x y:Pc}
instance:EnI [] []:=⟨rfl⟩
instance:EnI [a] [(0,a)]:=⟨rfl⟩
instance:EnI [a,b] [(0,a),(1,b)]:=⟨rfl⟩
instance:EnI [a,b,c] [(0,a),(1,b),(2,c)]:=⟨rfl⟩
instance:EnI [a,b,c,d] [(0,a),(1,b),(2,c),(3,d)]:=⟨rfl⟩
instance:EnI [a,b,c,d,e] [(0,a),(1,b),(2,c),(3,d),(4,e)]:=⟨rfl⟩
instance:EnI [a,b,c,d,e,f] [(0,a),(1,b),(2,c),(3,d),(4,e),(5,f)]:=⟨rfl⟩
instance:EnI [a,b,c,d,e,f,g] [(0,a),(1,b),(2,c),(3,d),(4,e),(5,f),(6,g)]:=⟨rfl⟩
instance:PnI [] []:=⟨rfl⟩
instance:PnI [p] [(1,p)]:=⟨rfl⟩
instance:PnI [p,q] [(1,p),(2,q)]:=⟨rfl⟩
instance:PnI [p,q,r] [(1,p),(2,q),(3,r)]:=⟨rfl⟩
instance:PnI [p,q,r,s] [(1,p),(2,q),(3,r),(4,s)]:=⟨rfl⟩
instance:PnI [p,q,r,s,t] [(1,p),(2,q),(3,r),(4,s),(5,t)]:=⟨rfl⟩
instance:PnI [p,q,r,s,t,u] [(1,p),(2,q),(3,r),(4,s),(5,t),(6,u)]:=⟨rfl⟩
instance:PnI [p,q,r,s,t,u,v] [(1,p),(2,q),(3,r),(4,s),(5,t),(6,u),(7,v)]:=⟨rfl⟩
instance:PnI [p,q,r,s,t,u,v,w] [(1,p),(2,q),(3,r),(4,s),(5,t),(6,u),(7,v),(8,w)]:=⟨rfl⟩
instance:PnI [p,q,r,s,t,u,v,w,x] [(1,p),(2,q),(3,r),(4,s),(5,t),(6,u),(7,v),(8,w),(9,x)]:=⟨rfl⟩
instance:PnI [p,q,r,s,t,u,v,w,x,y] [(1,p),(2,q),(3,r),(4,s),(5,t),(6,u),(7,v),(8,w),(9,x),(10,y)]:=⟨rfl⟩
end
class RoL (l:List Pc):Prop where h:AllRo l
instance:RoL []:=⟨aA⟩
instance {p:Pc} {r:List Pc} [h:RoI p] [h2:RoL r]:RoL (p::r):=⟨⟨h.h,h2.h⟩⟩
theorem Zf {f:FuncId} {fn:Func} {c:Code} {vs:List Value} {k:List Pc} {al:Bool} {G:Type} {φ:G->Prop} {val:G->Value} {m:G->List Pc} {N:Nat} (D:P.funcs[f]? = some fn) (z:fn.ntmps=N)
  [he:EnI vs env] [hp:PnI k H] [hro:RoL k] (h:∀l (sc:Nat->Prop),Hw l sc->(∀b,sc b->l.heap.size<=b\/∃q∈k,q.fp b)->E P N sc c (Zag P fn l k al φ val m) env ((0,Yt l (λ_=>False))::H))
  (B:fn.body=some c:=by rfl) (n:Nat.ble vs.length N=true:=by rfl):Cal P f vs.toArray k al φ val m:=
 cal_in D B z n hro.h λl sc F o=>by rw [he.h,hp.h];exact h l sc ⟨F⟩ o
class RvI (P:Program) (N:Nat) (sc:Nat->Prop) (env:Xz) (H:Hp) (r:ResultVar) (v:outParam Value):Prop where h:RV P N sc env H r v
instance {t:Nat} {v:Value} [h:Som (lk2 env t) v]:RvI P N sc env H (.tmp t) v:=⟨h.l⟩
instance {c b i k:Nat} {t tb:TypeId} {l:List Value} [h:Som (lk2 env c) (.pointer (some ⟨b,0,none⟩))] [h1:Agg P t true] [h2:BxI H b i tb l] [h3:Siz P t k] [h4:TB (lenq l k)]:RvI P N sc env H (.cell c t) (.agg l.toArray):=⟨Hu _ h.l h2.h h1.h h3.h (Zej h4.h)⟩
instance {c b i:Nat} {t tb:TypeId} {v:Value} [h:Som (lk2 env c) (.pointer (some ⟨b,0,none⟩))] [h1:Agg P t false] [h2:BxI H b i tb [v]]:RvI P N sc env H (.cell c t) v:=⟨Yaa h.l h2.h h1.h⟩
section
variable {fn:Func} {pre:List Pc} {al:Bool} {G:Type} {φ:G->Prop} {val:G->Value} {its:G->List Pc} {w0:World} {r1 r2 r3:ResultVar} {v1 v2 v3:Value}
def Xc(k:∀b,sc b->w0.heap.size<=b\/∃q∈pre,q.fp b)(g:G)(l:fn.results=#[r1])[h1:RvI P N sc env H r1 v1][h0:Som (lk2 H 0) (Yt w0 (λ_=>False))](n:val g=v1)(m:φ g)(h:Give H al (its g)) :
  X N sc .ret (Zag P fn w0 pre al φ val its) env H:=Zn0 (.inl rfl) k g v1 (λa w hs=>Zcd hs l h1.h) n m h0.l h
def Na(k:∀b,sc b->w0.heap.size<=b\/∃q∈pre,q.fp b)(g:G)(l:fn.results=#[r1,r2])[h1:RvI P N sc env H r1 v1][h2:RvI P N sc env H r2 v2][h0:Som (lk2 H 0) (Yt w0 (λ_=>False))](n:val g= .tuple #[v1,v2])(m:φ g)(h:Give H al (its g)) :
  X N sc .ret (Zag P fn w0 pre al φ val its) env H:=Zn0 (.inl rfl) k g (.tuple #[v1,v2]) (λa w hs=>Zh9 hs l h1.h h2.h) n m h0.l h
def xe3(k:∀b,sc b->w0.heap.size<=b\/∃q∈pre,q.fp b)(g:G)(l:fn.results=#[r1,r2,r3])[h1:RvI P N sc env H r1 v1][h2:RvI P N sc env H r2 v2][h3:RvI P N sc env H r3 v3][h0:Som (lk2 H 0) (Yt w0 (λ_=>False))](n:val g= .tuple #[v1,v2,v3])(m:φ g)(h:Give H al (its g)) :
  X N sc .ret (Zag P fn w0 pre al φ val its) env H:=Zn0 (.inl rfl) k g (.tuple #[v1,v2,v3]) (λa w hs=>Yan hs l h1.h h2.h h3.h) n m h0.l h
end
class EncE {α:Type} (k:Nat) (enc:α->Value):Prop where h:∃(P:Program) (t:TypeId),Enc P t k enc
theorem Oz{p k:Pc}{r:List Pc}(i:Nat)[hi:Som (lk2 H i) k][h0:TB (neb i 0)][ho:RoI k](h:Give H true r)(e:k=p:=by rfl):Give H true (p::r):=e▸Ig i hi.l (Zq6 (Ar h0.h)) ho.h h
section
variable {α:Type} {k i:Nat} {e:TypeId} {enc:α->Value} {v v':Value} {xs ys:List α} {al:Bool} {r:List Pc}
theorem gow(i:Nat)[hi:Som (lk2 H i) (Pt k e enc v xs)][h0:TB (neb i 0)][he:EncE k enc](h:Give H al r)(l:xs=ys:=by rfl):Give H al (Yg k enc v ys::r):=by obtain⟨_,_,m⟩:=he.h;exact Zxz i hi.l (Zq6 (Ar h0.h)) m l h
end
section
variable {n:Nat} {x b:Bool} {d e j:Nat} {op:Go.Op} {ty:TypeId} {pos:String} {af:Array Edge} {rest:List Oper} {ops:Array Oper} {ll:List Oper}
def kf [h1:DI P N sc op env H (.bool x) True][h2:TB (ltb d N)](e:x=false)(h:L P N sc ops rest Q ((d,.bool false)::env) H):L P N sc ops (⟨some d,op,ty,pos,af,none⟩::rest) Q env H:=dt (Zy _ (h1.h aA) (aL _ e)) h (Pq h2.h)
def kt [h1:DI P N sc op env H (.bool x) True][h2:TB (ltb d N)](e:x=true)(h:L P N sc ops rest Q ((d,.bool true)::env) H):L P N sc ops (⟨some d,op,ty,pos,af,none⟩::rest) Q env H:=dt (Zy _ (h1.h aA) (aL _ e)) h (Pq h2.h)
def kfg [h1:DI P N sc op env H (.bool x) True][hj:Som (dsto ll j) e][hg:Som (lk2 env e) (.bool b)][h4:TB (ltb e N)][h2:TB (ltb d N)](e:x=false)(h:L P N sc ll.toArray rest Q ((d,.bool false)::env) H):L P N sc ll.toArray (⟨some d,op,ty,pos,af,some (j,b)⟩::rest) Q env H:=Bb (Zy _ (h1.h aA) (aL _ e)) (Fl hj) hg.l h (Pq h4.h) (Pq h2.h)
def ktg [h1:DI P N sc op env H (.bool x) True][hj:Som (dsto ll j) e][hg:Som (lk2 env e) (.bool b)][h4:TB (ltb e N)][h2:TB (ltb d N)](e:x=true)(h:L P N sc ll.toArray rest Q ((d,.bool true)::env) H):L P N sc ll.toArray (⟨some d,op,ty,pos,af,some (j,b)⟩::rest) Q env H:=Bb (Zy _ (h1.h aA) (aL _ e)) (Fl hj) hg.l h (Pq h4.h) (Pq h2.h)
end
section
variable {f:FuncId} {xs:List Operand} {ats:Array TypeId} {d i j e n:Nat} {vs:List Value} {pre:List Pc} {al b:Bool} {G:Type} {φ:G->Prop} {val:G->Value} {its:G->List Pc} {w0:World} {M0:Nat->Prop} {ty:TypeId} {pos:String} {af:Array Edge} {G':G->Hp} {ops:Array Oper} {rest ll:List Oper}
def cl (n:Nat) (l:List Nat) (m:Cal P f vs.toArray pre al φ val its) [hx:EvI env xs vs] [hf:CalF P f] [hp:PreL P H al l pre] [h0:Som (lk2 H 0) (Yt w0 M0)] [hN:TB (ltb d N)] [hw:Hw w0 sc] [ha:∀g,AddI n (its g) H (G' g)]
  (h:∀g,φ g->L P N sc ops rest Q ((d,val g)::env) (G' g)):L P N sc ops (⟨some d,.call { callee:= .value (.func f),args:=xs.toArray,argTypes:=ats },ty,pos,af,none⟩::rest) Q env H:=Ym (Zs n l m) h
def It (n:Nat) (l:List Nat) (m:Cal P f vs.toArray pre al φ val its) [hx:EvI env xs vs] [hf:CalF P f] [hp:PreL P H al l pre] [h0:Som (lk2 H 0) (Yt w0 M0)] [hN:TB (ltb d N)] [hw:Hw w0 sc] [ha:∀g,AddI n (its g) H (G' g)] [hj:Som (dsto ll j) e] [he:Som (lk2 env e) (.bool b)] [hN2:TB (ltb e N)]
  (h:∀g,φ g->L P N sc ll.toArray rest Q ((d,val g)::env) (G' g)):L P N sc ll.toArray (⟨some d,.call { callee:= .value (.func f),args:=xs.toArray,argTypes:=ats },ty,pos,af,some (j,b)⟩::rest) Q env H:=gt' (Zs n l m) h
end
class SeI (l:List Nat) (env:Xz) (cs:outParam Xz):Prop where h:Sub cs env
instance:SeI [] env []:=⟨aA⟩
instance {t:Nat} {l:List Nat} {v:Value} {cs:Xz} [h:Som (lk2 env t) v] [h2:SeI l env cs]:SeI (t::l) env ((t,v)::cs):=⟨⟨h.l,h2.h⟩⟩
class SeH (l:List Nat) (H:Hp) (ch:outParam Hp):Prop where h:HSub ch H
instance:SeH [] H []:=⟨aA⟩
instance {t:Nat} {l:List Nat} {v:Pc} {cs:Hp} [h:Som (lk2 H t) v] [h2:SeH l H cs]:SeH (t::l) H ((t,v)::cs):=⟨⟨h.l,h2.h⟩⟩
class ApI {α:Type _} (a b:List α) (c:outParam (List α)):Prop where h:a ++ b=c
instance {α:Type _} {b:List α} : ApI [] b b:=⟨rfl⟩
instance {α:Type _} {x:α} {a b c:List α} [h:ApI a b c]:ApI (x::a) b (x::c):=⟨by rw [<-h.h];rfl⟩
class SbI (cs env:Xz):Prop where h:Sub cs env
instance:SbI [] env:=⟨aA⟩
instance {t:Nat} {v:Value} {cs:Xz} [h:Som (lk2 env t) v] [h2:SbI cs env]:SbI ((t,v)::cs) env:=⟨⟨h.l,h2.h⟩⟩
class HbI (ch H:Hp):Prop where h:HSub ch H
instance:HbI [] H:=⟨aA⟩
instance {t:Nat} {v:Pc} {cs:Hp} [h:Som (lk2 H t) v] [h2:HbI cs H]:HbI ((t,v)::cs) H:=⟨⟨h.l,h2.h⟩⟩
def Sub.app:∀{a b e:Xz},Sub a e->Sub b e->Sub (a ++ b) e
 | [],_,_,_,h=>h
 | (_,_)::_,_,_,h1,h=>⟨h1.1,Sub.app h1.2 h⟩
def HSub.app:∀{a b e:Hp},HSub a e->HSub b e->HSub (a ++ b) e
 | [],_,_,_,h=>h
 | (_,_)::_,_,_,h1,h=>⟨h1.1,HSub.app h1.2 h⟩
section
variable {c x y:Code} {G:Type} {cs:Xz} {ch:Hp} {e1:G->Xz} {H1:G->Hp} {ov:G->Xz} {oh:G->Hp} {inv:G->Prop} {μ:G->Nat} {g:G}
theorem lp (l D:List Nat) (ov:G->Xz) (oh:G->Hp) (inv:G->Prop) (μ:G->Nat) (m:G) (B:inv m) (hs:Sub (ov m) env) (z:HSub (oh m) H) [h1:SeI l env cs] [h2:SeH D H ch] [h3:∀g,ApI (ov g) cs (e1 g)] [h4:∀g,ApI (oh g) ch (H1 g)]
  (h:∀g,inv g->E P N sc c (Exit.then (Yjt N sc cs ch ov oh inv μ g) Q) (e1 g) (H1 g)):E P N sc (.loop c) Q env H:=
 e_lp cs ch ov oh inv μ m B (hs.app h1.h) (z.app h2.h) λg o=>by rw [(h3 g).h,(h4 g).h];exact h g o
def Yv(h:G)(l:inv h)(m:μ h<μ g)(hs:Sub (ov h) env)(o:HSub (oh h) H)[k1:SbI cs env][k2:HbI ch H]:X N sc .normal (Exit.then (Yjt N sc cs ch ov oh inv μ g) Q) env H:=x_rnd h l m (hs.app k1.h) (o.app k2.h)
theorem jn (l z:List Nat) (ov:G->Xz) (oh:G->Hp) (inv:G->Prop) [h1:SeI l env cs] [h2:SeH z H ch] [h3:∀g,ApI (ov g) cs (e1 g)] [h4:∀g,ApI (oh g) ch (H1 g)]
  (m:E P N sc x (Exit.then (JnK N sc cs ch ov oh inv) Q) env H) (o:∀g,inv g->E P N sc y Q (e1 g) (H1 g)):E P N sc (.seq x y) Q env H:=
 e_jn cs ch ov oh inv h1.h h2.h m λg h=>by rw [(h3 g).h,(h4 g).h];exact o g h
def Hd(h:G)(l:inv h)(hs:Sub (ov h) env)(m:HSub (oh h) H)[k1:SbI cs env][k2:HbI ch H]:X N sc .normal (Exit.then (JnK N sc cs ch ov oh inv) Q) env H:=x_jn h l (hs.app k1.h) (m.app k2.h)
end
end Go.Sky
namespace Go.Sky
open Go.Proofs
set_option linter.all false
set_option synthInstance.maxHeartbeats 0
variable{v w:Value}{xs ts:List Nat}{x y:Nat}{s t:Bool}{listed:Array Bool}{ops:Array Oper}
@[reducible,instance]def iUnd3:=Und.mk Tryz.underlying3
@[reducible,instance]def iUnd4:=Und.mk Tryz.underlying4
@[reducible,instance]def iUnd5:=Und.mk Tryz.underlying5
@[reducible,instance]def iUnd9:=Und.mk Tryz.underlying9
@[reducible,instance]def iUnd25:=Und.mk Tryz.underlying25
@[reducible,instance]def iUnd139:=Und.mk Tryz.underlying139
@[reducible,instance]def iUnd140:=Und.mk Tryz.underlying140
@[reducible,instance]def iUnd144:=Und.mk Tryz.underlying144
@[reducible,instance]def iUnd167:=Und.mk Tryz.underlying167
@[reducible,instance]def iUnd222:=Und.mk Tryz.underlying222
@[reducible,instance]def iUnd225:=Und.mk Tryz.underlying225
@[reducible,instance]def iUnd228:=Und.mk Tryz.underlying228
@[reducible,instance]def iUnd240:=Und.mk Tryz.underlying240
@[reducible,instance]def iUnd259:=Und.mk Tryz.underlying259
@[reducible,instance]def iUnd301:=Und.mk Tryz.underlying301
@[reducible,instance]def iUnd303:=Und.mk Tryz.underlying303
@[reducible,instance]def iUnd306:=Und.mk Tryz.underlying306
@[reducible,instance]def iUnd313:=Und.mk Tryz.underlying313
@[reducible,instance]def iUnd320:=Und.mk Tryz.underlying320
@[reducible,instance]def iUnd334:=Und.mk Tryz.underlying334
@[reducible,instance]def iUnd336:=Und.mk Tryz.underlying336
@[reducible,instance]def iUnd340:=Und.mk Tryz.underlying340
@[reducible,instance]def iUnd342:=Und.mk Tryz.underlying342
@[reducible,instance]def iUnd346:=Und.mk Tryz.underlying346
@[reducible,instance]def iUnd380:=Und.mk Tryz.underlying380
@[reducible,instance]def iUnd395:=Und.mk Tryz.underlying395
@[reducible,instance]def iSiz3:=Siz.mk Tryz.sizeOf3
@[reducible,instance]def iSiz4:=Siz.mk Tryz.sizeOf4
@[reducible,instance]def iSiz5:=Siz.mk Tryz.sizeOf5
@[reducible,instance]def iSiz9:=Siz.mk Tryz.sizeOf9
@[reducible,instance]def iSiz25:=Siz.mk Tryz.sizeOf25
@[reducible,instance]def iSiz28:=Siz.mk Tryz.sizeOf28
@[reducible,instance]def iSiz140:=Siz.mk Tryz.sizeOf140
@[reducible,instance]def iSiz144:=Siz.mk Tryz.sizeOf144
@[reducible,instance]def iSiz167:=Siz.mk Tryz.sizeOf167
@[reducible,instance]def iSiz222:=Siz.mk Tryz.sizeOf222
@[reducible,instance]def iSiz225:=Siz.mk Tryz.sizeOf225
@[reducible,instance]def iSiz228:=Siz.mk Tryz.sizeOf228
@[reducible,instance]def iSiz240:=Siz.mk Tryz.sizeOf240
@[reducible,instance]def iSiz259:=Siz.mk Tryz.sizeOf259
@[reducible,instance]def iSiz301:=Siz.mk Tryz.sizeOf301
@[reducible,instance]def iSiz320:=Siz.mk Tryz.sizeOf320
@[reducible,instance]def iSiz334:=Siz.mk Tryz.sizeOf334
@[reducible,instance]def iSiz336:=Siz.mk Tryz.sizeOf336
@[reducible,instance]def iSiz342:=Siz.mk Tryz.sizeOf342
@[reducible,instance]def iAgg4:=Agg.mk Tryz.isAgg4
@[reducible,instance]def iAgg9:=Agg.mk Tryz.isAgg9
@[reducible,instance]def iAgg25:=Agg.mk Tryz.isAgg25
@[reducible,instance]def iAgg28:=Agg.mk Tryz.isAgg28
@[reducible,instance]def iAgg144:=Agg.mk Tryz.isAgg144
@[reducible,instance]def iAgg167:=Agg.mk Tryz.isAgg167
@[reducible,instance]def iAgg225:=Agg.mk Tryz.isAgg225
@[reducible,instance]def iAgg228:=Agg.mk Tryz.isAgg228
@[reducible,instance]def iAgg259:=Agg.mk Tryz.isAgg259
@[reducible,instance]def iAgg320:=Agg.mk Tryz.isAgg320
@[reducible,instance]def iAgg334:=Agg.mk Tryz.isAgg334
@[reducible,instance]def iAgg336:=Agg.mk Tryz.isAgg336
@[reducible,instance]def iAgg342:=Agg.mk Tryz.isAgg342
@[reducible,instance]def iZer144:=Zer.mk Tryz.zeroValue144
@[reducible,instance]def iZer167:=Zer.mk Tryz.zeroValue167
@[reducible,instance]def iZer222:=Zer.mk Tryz.zeroValue222
@[reducible,instance]def iZer228:=Zer.mk Tryz.zeroValue228
@[reducible,instance]def iZer259:=Zer.mk Tryz.zeroValue259
@[reducible,instance]def iZer303:=Zer.mk Tryz.zeroValue303
@[reducible,instance]def iZer336:=Zer.mk Tryz.zeroValue336
@[reducible,instance]def iZer340:=Zer.mk Tryz.zeroValue340
@[reducible,instance]def iZer342:=Zer.mk Tryz.zeroValue342
abbrev cGa(f:Nat):=CalF Go.Proofs.Tryz.prog f
open Go.Proofs.Tryz
instance:cGa 80:=.mk call80
instance:cGa 143:=.mk call143
instance:cGa 145:=.mk call145
instance:cGa 147:=.mk call147
instance:cGa 148:=.mk call148
instance:cGa 152:=.mk call152
instance:cGa 153:=.mk call153
instance:cGa 154:=.mk call154
instance:cGa 155:=.mk call155
instance:cGa 169:=.mk call169
instance:cGa 170:=.mk call170
instance:cGa 196:=.mk call196
instance:cGa 197:=.mk call197
instance:cGa 209:=.mk call209
instance:cGa 210:=.mk call210
instance:cGa 211:=.mk call211
instance:cGa 212:=.mk call212
instance:cGa 213:=.mk call213
instance:cGa 214:=.mk call214
instance:cGa 215:=.mk call215
instance:cGa 216:=.mk call216
instance:cGa 217:=.mk call217
instance:cGa 218:=.mk call218
instance:cGa 219:=.mk call219
instance:cGa 220:=.mk call220
instance:cGa 222:=.mk call222
instance:cGa 223:=.mk call223
instance:cGa 224:=.mk call224
instance:cGa 225:=.mk call225
instance:cGa 240:=.mk call240
instance:cGa 241:=.mk call241
instance:cGa 242:=.mk call242
instance:cGa 243:=.mk call243
instance:cGa 249:=.mk call249
instance:cGa 250:=.mk call250
instance:cGa 251:=.mk call251
instance:cGa 252:=.mk call252
instance:cGa 253:=.mk call253
instance:cGa 254:=.mk call254
instance:cGa 255:=.mk call255
instance:cGa 277:=.mk call277
instance:cGa 278:=.mk call278
instance:cGa 279:=.mk call279
instance:cGa 280:=.mk call280
instance:cGa 281:=.mk call281
instance:cGa 282:=.mk call282
instance:cGa 283:=.mk call283
instance:cGa 284:=.mk call284
instance:cGa 285:=.mk call285
instance:cGa 302:=.mk call302
instance:cGa 304:=.mk call304
instance:cGa 305:=.mk call305
instance:cGa 306:=.mk call306
instance:cGa 307:=.mk call307
instance:cGa 308:=.mk call308
instance:cGa 309:=.mk call309
instance:cGa 310:=.mk call310
instance:cGa 311:=.mk call311
instance:cGa 312:=.mk call312
instance:cGa 313:=.mk call313
instance:cGa 314:=.mk call314
instance:cGa 315:=.mk call315
instance:cGa 316:=.mk call316
instance:cGa 327:=.mk call327
instance:cGa 340:=.mk call340
instance:cGa 341:=.mk call341
instance:cGa 342:=.mk call342
instance:cGa 343:=.mk call343
instance:cGa 344:=.mk call344
instance:cGa 345:=.mk call345
instance:cGa 355:=.mk call355
instance:cGa 356:=.mk call356
instance:cGa 357:=.mk call357
instance:cGa 358:=.mk call358
instance:cGa 359:=.mk call359
instance:cGa 360:=.mk call360
instance:cGa 361:=.mk call361
instance:cGa 362:=.mk call362
instance:cGa 363:=.mk call363
instance:cGa 364:=.mk call364
instance:cGa 365:=.mk call365
instance:cGa 366:=.mk call366
instance:cGa 367:=.mk call367
instance:cGa 368:=.mk call368
instance:cGa 369:=.mk call369
instance:cGa 370:=.mk call370
instance:cGa 377:=.mk call377
instance:cGa 378:=.mk call378
instance:cGa 386:=.mk call386
instance:cGa 387:=.mk call387
instance:cGa 388:=.mk call388
instance:cGa 389:=.mk call389
instance:cGa 390:=.mk call390
instance:cGa 391:=.mk call391
instance:cGa 392:=.mk call392
instance:cGa 393:=.mk call393
instance:cGa 394:=.mk call394
instance:cGa 395:=.mk call395
instance:cGa 396:=.mk call396
instance:cGa 402:=.mk call402
instance:EncT Tryz.prog 222 1 Ot:=⟨pU⟩
instance:EncE 1 Ot:=⟨_,_,pU⟩
instance:EncT Tryz.prog 5 1 Zx1:=⟨pB⟩
instance:EncE 1 Zx1:=⟨_,_,pB⟩
instance:EncT Tryz.prog 3 1 Yie:=⟨pN⟩
instance:EncE 1 Yie:=⟨_,_,pN⟩
instance:EncT Tryz.prog 3 1 Zz:=⟨pZ⟩
instance:EncE 1 Zz:=⟨_,_,pZ⟩
instance:EncT Tryz.prog 144 2 Yc9:=⟨pW⟩
instance:EncE 2 Yc9:=⟨_,_,pW⟩
instance:EncT Tryz.prog 144 2 wv:=⟨pV⟩
instance:EncE 2 wv:=⟨_,_,pV⟩
instance:EncT Tryz.prog 167 2 Yif:=⟨pI⟩
instance:EncE 2 Yif:=⟨_,_,pI⟩
instance {α:Type} : EncT Tryz.prog 140 1 (Kx (α:=α)):=⟨pS⟩
instance {α:Type} : EncE 1 (Kx (α:=α)):=⟨_,_,pS⟩
instance:EncT Tryz.prog 342 8 iq:=⟨pY⟩
instance:EncE 8 iq:=⟨_,_,pY⟩
instance:EncT Tryz.prog 259 4 rq:=⟨pQ⟩
instance:EncE 4 rq:=⟨_,_,pQ⟩
instance:EncT Tryz.prog 259 4 encQ:=⟨pR⟩
instance:EncE 4 encQ:=⟨_,_,pR⟩
@[reducible,instance]def iUnd22:=Und.mk Tryz.underlying22
@[reducible,instance]def iUnd24:=Und.mk Tryz.underlying24
@[reducible,instance]def iUnd27:=Und.mk Tryz.underlying27
@[reducible,instance]def iUnd36:=Und.mk Tryz.underlying36
@[reducible,instance]def iUnd38:=Und.mk Tryz.underlying38
@[reducible,instance]def iUnd40:=Und.mk Tryz.underlying40
@[reducible,instance]def iUnd61:=Und.mk Tryz.underlying61
@[reducible,instance]def iUnd116:=Und.mk Tryz.underlying116
@[reducible,instance]def iUnd128:=Und.mk Tryz.underlying128
@[reducible,instance]def iUnd130:=Und.mk Tryz.underlying130
@[reducible,instance]def iUnd141:=Und.mk Tryz.underlying141
@[reducible,instance]def iUnd147:=Und.mk Tryz.underlying147
@[reducible,instance]def iUnd150:=Und.mk Tryz.underlying150
@[reducible,instance]def iUnd151:=Und.mk Tryz.underlying151
@[reducible,instance]def iUnd155:=Und.mk Tryz.underlying155
@[reducible,instance]def iUnd178:=Und.mk Tryz.underlying178
@[reducible,instance]def iUnd196:=Und.mk Tryz.underlying196
@[reducible,instance]def iUnd197:=Und.mk Tryz.underlying197
@[reducible,instance]def iUnd214:=Und.mk Tryz.underlying214
@[reducible,instance]def iUnd215:=Und.mk Tryz.underlying215
@[reducible,instance]def iUnd281:=Und.mk Tryz.underlying281
@[reducible,instance]def iUnd291:=Und.mk Tryz.underlying291
@[reducible,instance]def iUnd368:=Und.mk Tryz.underlying368
@[reducible,instance]def iUnd369:=Und.mk Tryz.underlying369
@[reducible,instance]def iUnd372:=Und.mk Tryz.underlying372
@[reducible,instance]def iUnd406:=Und.mk Tryz.underlying406
@[reducible,instance]def iUnd408:=Und.mk Tryz.underlying408
@[reducible,instance]def iUnd409:=Und.mk Tryz.underlying409
@[reducible,instance]def iUnd422:=Und.mk Tryz.underlying422
@[reducible,instance]def iSiz24:=Siz.mk Tryz.sizeOf24
@[reducible,instance]def iSiz27:=Siz.mk Tryz.sizeOf27
@[reducible,instance]def iSiz36:=Siz.mk Tryz.sizeOf36
@[reducible,instance]def iSiz38:=Siz.mk Tryz.sizeOf38
@[reducible,instance]def iSiz40:=Siz.mk Tryz.sizeOf40
@[reducible,instance]def iSiz61:=Siz.mk Tryz.sizeOf61
@[reducible,instance]def iSiz116:=Siz.mk Tryz.sizeOf116
@[reducible,instance]def iSiz128:=Siz.mk Tryz.sizeOf128
@[reducible,instance]def iSiz141:=Siz.mk Tryz.sizeOf141
@[reducible,instance]def iSiz147:=Siz.mk Tryz.sizeOf147
@[reducible,instance]def iSiz178:=Siz.mk Tryz.sizeOf178
@[reducible,instance]def iSiz195:=Siz.mk Tryz.sizeOf195
@[reducible,instance]def iSiz196:=Siz.mk Tryz.sizeOf196
@[reducible,instance]def iSiz213:=Siz.mk Tryz.sizeOf213
@[reducible,instance]def iSiz215:=Siz.mk Tryz.sizeOf215
@[reducible,instance]def iSiz291:=Siz.mk Tryz.sizeOf291
@[reducible,instance]def iSiz368:=Siz.mk Tryz.sizeOf368
@[reducible,instance]def iSiz369:=Siz.mk Tryz.sizeOf369
@[reducible,instance]def iSiz372:=Siz.mk Tryz.sizeOf372
@[reducible,instance]def iSiz408:=Siz.mk Tryz.sizeOf408
@[reducible,instance]def iAgg3:=Agg.mk Tryz.isAgg3
@[reducible,instance]def iAgg24:=Agg.mk Tryz.isAgg24
@[reducible,instance]def iAgg36:=Agg.mk Tryz.isAgg36
@[reducible,instance]def iAgg38:=Agg.mk Tryz.isAgg38
@[reducible,instance]def iAgg40:=Agg.mk Tryz.isAgg40
@[reducible,instance]def iAgg61:=Agg.mk Tryz.isAgg61
@[reducible,instance]def iAgg116:=Agg.mk Tryz.isAgg116
@[reducible,instance]def iAgg128:=Agg.mk Tryz.isAgg128
@[reducible,instance]def iAgg140:=Agg.mk Tryz.isAgg140
@[reducible,instance]def iAgg141:=Agg.mk Tryz.isAgg141
@[reducible,instance]def iAgg147:=Agg.mk Tryz.isAgg147
@[reducible,instance]def iAgg155:=Agg.mk Tryz.isAgg155
@[reducible,instance]def iAgg178:=Agg.mk Tryz.isAgg178
@[reducible,instance]def iAgg195:=Agg.mk Tryz.isAgg195
@[reducible,instance]def iAgg196:=Agg.mk Tryz.isAgg196
@[reducible,instance]def iAgg213:=Agg.mk Tryz.isAgg213
@[reducible,instance]def iAgg215:=Agg.mk Tryz.isAgg215
@[reducible,instance]def iAgg291:=Agg.mk Tryz.isAgg291
@[reducible,instance]def iAgg369:=Agg.mk Tryz.isAgg369
@[reducible,instance]def iAgg408:=Agg.mk Tryz.isAgg408
@[reducible,instance]def iZer3:=Zer.mk Tryz.zeroValue3
@[reducible,instance]def iZer4:=Zer.mk Tryz.zeroValue4
@[reducible,instance]def iZer28:=Zer.mk Tryz.zeroValue28
@[reducible,instance]def iZer36:=Zer.mk Tryz.zeroValue36
@[reducible,instance]def iZer61:=Zer.mk Tryz.zeroValue61
@[reducible,instance]def iZer116:=Zer.mk Tryz.zeroValue116
@[reducible,instance]def iZer141:=Zer.mk Tryz.zeroValue141
@[reducible,instance]def iZer147:=Zer.mk Tryz.zeroValue147
@[reducible,instance]def iZer150:=Zer.mk Tryz.zeroValue150
@[reducible,instance]def iZer151:=Zer.mk Tryz.zeroValue151
@[reducible,instance]def iZer178:=Zer.mk Tryz.zeroValue178
@[reducible,instance]def iZer196:=Zer.mk Tryz.zeroValue196
@[reducible,instance]def iZer215:=Zer.mk Tryz.zeroValue215
@[reducible,instance]def iZer369:=Zer.mk Tryz.zeroValue369
@[reducible,instance]def iZer372:=Zer.mk Tryz.zeroValue372
@[reducible,instance]def iZer408:=Zer.mk Tryz.zeroValue408
open Go.Proofs.Tryz
instance:cGa 11:=.mk call11
instance:cGa 12:=.mk call12
instance:cGa 13:=.mk call13
instance:cGa 14:=.mk call14
instance:cGa 15:=.mk call15
instance:cGa 16:=.mk call16
instance:cGa 20:=.mk call20
instance:cGa 21:=.mk call21
instance:cGa 33:=.mk call33
instance:cGa 44:=.mk call44
instance:cGa 45:=.mk call45
instance:cGa 56:=.mk call56
instance:cGa 57:=.mk call57
instance:cGa 58:=.mk call58
instance:cGa 59:=.mk call59
instance:cGa 60:=.mk call60
instance:cGa 61:=.mk call61
instance:cGa 62:=.mk call62
instance:cGa 63:=.mk call63
instance:cGa 64:=.mk call64
instance:cGa 65:=.mk call65
instance:cGa 66:=.mk call66
instance:cGa 70:=.mk call70
instance:cGa 71:=.mk call71
instance:cGa 72:=.mk call72
instance:cGa 73:=.mk call73
instance:cGa 74:=.mk call74
instance:cGa 78:=.mk call78
instance:cGa 79:=.mk call79
instance:cGa 82:=.mk call82
instance:cGa 83:=.mk call83
instance:cGa 84:=.mk call84
instance:cGa 87:=.mk call87
instance:cGa 93:=.mk call93
instance:cGa 103:=.mk call103
instance:cGa 104:=.mk call104
instance:cGa 107:=.mk call107
instance:cGa 108:=.mk call108
instance:cGa 109:=.mk call109
instance:cGa 121:=.mk call121
instance:cGa 122:=.mk call122
instance:cGa 123:=.mk call123
instance:cGa 124:=.mk call124
instance:cGa 125:=.mk call125
instance:cGa 126:=.mk call126
instance:cGa 127:=.mk call127
instance:cGa 128:=.mk call128
instance:cGa 133:=.mk call133
instance:cGa 134:=.mk call134
instance:cGa 135:=.mk call135
instance:cGa 136:=.mk call136
instance:cGa 140:=.mk call140
instance:cGa 141:=.mk call141
instance:cGa 142:=.mk call142
instance:cGa 144:=.mk call144
instance:cGa 146:=.mk call146
instance:cGa 151:=.mk call151
instance:cGa 161:=.mk call161
instance:cGa 168:=.mk call168
instance:cGa 172:=.mk call172
instance:cGa 173:=.mk call173
instance:cGa 174:=.mk call174
instance:cGa 175:=.mk call175
instance:cGa 176:=.mk call176
instance:cGa 177:=.mk call177
instance:cGa 178:=.mk call178
instance:cGa 181:=.mk call181
instance:cGa 195:=.mk call195
instance:cGa 206:=.mk call206
instance:cGa 207:=.mk call207
instance:cGa 221:=.mk call221
instance:cGa 237:=.mk call237
instance:cGa 247:=.mk call247
instance:cGa 248:=.mk call248
instance:cGa 256:=.mk call256
instance:cGa 257:=.mk call257
instance:cGa 259:=.mk call259
instance:cGa 260:=.mk call260
instance:cGa 269:=.mk call269
instance:cGa 271:=.mk call271
instance:cGa 275:=.mk call275
instance:cGa 299:=.mk call299
instance:cGa 300:=.mk call300
instance:cGa 301:=.mk call301
instance:cGa 303:=.mk call303
instance:cGa 317:=.mk call317
instance:cGa 318:=.mk call318
instance:cGa 334:=.mk call334
instance:cGa 335:=.mk call335
instance:cGa 336:=.mk call336
instance:cGa 354:=.mk call354
instance:cGa 385:=.mk call385
open Go.Proofs.Tryz
set_option synthInstance.maxSize 100000
set_option maxRecDepth 20000
set_option linter.unusedSimpArgs false
theorem Ybc(v:Value)(xs:List Nat):Cal prog 147 #[v] [Yg 1 Ot v xs] true (G:=Unit) (λ_=>True) (λ_=>Ic v (tz xs).length) (λ_=>[Yg 1 Ot (Ic v (tz xs).length) (tz xs)]):=by
 refine Zf func147 ntmps147 λo n m c=>?_;refine Qf (Yc3 (i:=1) J Zh) (λa=>?_);refine Qf (Py (i:=1) J Zh) λl=>go 7 ?_;refine lp (G:=Nat) [] [0] (λk=>[(0,Ic v k)]) (λk=>[(1,Yg 1 Ot (Ic v k) (xs.take k))]) (λk=>(k<=xs.length)/\(tz (xs.take k)=tz xs)) (λk=>k) xs.length ⟨aK _,by rw [bM]⟩ ⟨by rw [a];rfl,aA⟩ ⟨by rw [a,bM];rfl,aA⟩ ?_;rintro k ⟨g,h⟩;have e:(xs.take k).length=k:=by rw [aU];omega
 refine go 7<|Yn 6 J (λj=>?_) (λj=>?_)
 .refine go 4 ⟨O,?_⟩;refine Bb (Yh 1 (k-1) J J J J Zh Qx Mw) J J<|go 5 ⟨O,?_⟩;refine Zc J (λf=>?_) (λf=>?_)
  .have b:=Yfu g O (by omega:(xs.take k).getD (k-1) 0=0);refine go 8 ⟨O,?_⟩;refine dt (Ydp 1 (k-1) J J J J Zh Qx Mw)<|go 3 ?_;exact Zr (s_pre 1 1 (k-1) J J)<|Yv (k-1) ⟨O1,by rw [<-h,<-b]⟩ O1 ⟨by rw [<-Zbw v k (k-1)];rfl,aA⟩ ⟨by rw [Zbw,jU,dM O];rfl,aA⟩
  .refine go 12 ?_;have d:tz xs=xs.take k:=by rw [<-h];exact Zls g O
   exact Xc c () results147 (by rw [d,e]) aA (Oz 1 Za (by rw [d,e]))
 .refine go 23 ?_;have d:tz xs=xs.take k:=by rw [<-h];exact Zls g O
  exact Xc c () results147 (by rw [d,e]) aA (Oz 1 Za (by rw [d,e]))
def Pa:Cal prog 147 #[v] [Yg 1 Ot v xs] false (G:=Unit) (λ_=>True) (λ_=>Ic v (tz xs).length) (λ_=>[]):=(Ybc v xs).bare
theorem Zuo(z:bl x<=4294967296)(N:bl y<=4294967296):Cal prog 278 #[v,w] [Gs v x,Gs w y] false (G:=Value) (λr=>True) (λr=>r) (λr=>[Gs r (x+y)]):=by
 refine Zf func278 ntmps278 λS P n m=>?_;have I:=Oi x;have M:=Oi y;refine go 5 ?_;refine jn (G:=Value×Value×Nat×Nat) [] [0,1,2] (λq=>[(0,q.1),(1,q.2.1)]) (λq=>[(91,Gs q.1 q.2.2.1),(92,Gs q.2.1 q.2.2.2)]) (λq=>(q.2.2.1+q.2.2.2=x+y)/\((dg U q.2.2.2).length<=(dg U q.2.2.1).length)/\((dg U q.2.2.1).length<=1099511627776)) ?_ ?_
 .refine go 9<|Zc J (λg=>?_) (λg=>?_)
  .refine go 6<|Zr (Nt 2 91 J J J)<|Zr (Nt 1 92 J J J) ?_;exact Hd (w,v,y,x) ⟨O1,O1,O1⟩ K2 K2
  .refine go 1<|Zr (Nt 1 91 J J J)<|Zr (Nt 2 92 J J J) ?_;exact Hd (v,w,x,y) ⟨O1,O1,O1⟩ K2 K2
 .rintro⟨Q,R,a,b⟩ ⟨hs,u,j⟩;dsimp only at hs u j;dsimp only;refine go 5 ⟨O,?_⟩;refine tt (Gt 3 ((dg U a).length+1) 8 (enc:=Ot) 0 J J J J Qx ti222 J pU.cells pU.pos J J J n.h) λv _=>go 17 ?_;refine lp (G:=Nat×List Nat×Nat) [0,1,5,21] [0,91,92,1,2] (λq=>[(22,.int .i64 (q.1:Int)),(6,.int .u64 (q.2.2:Int))]) (λq=>[(3,Pt 1 222 Ot v q.2.1)]) (λq=>(q.1<=(dg U a).length)/\(q.2.1.length=(dg U a).length+1)/\(∀d∈q.2.1,d<U)/\(q.2.2<=1)/\(val U (q.2.1.take q.1)+q.2.2*U^q.1=val U ((dg U a).take q.1)+val U ((dg U b).take q.1))) (λq=>(dg U a).length-q.1) (0,List.replicate ((dg U a).length+1) 0,0) ⟨O1,O7,Nq Xf,O1,by simp [val]⟩ K2 K1 ?_;rintro⟨k,o,c⟩ ⟨D,l,e,B,f⟩;dsimp only at D l e B f;dsimp only;refine go 6<|Zc J (λh=>?_) (λh=>?_)
  .refine go 15 ?_;refine jn (G:=Unit) [0,1,5,6,7,21,22] [0,3,91,92,1,2] (λ_=>[(8,.int .u64 ((dg U b).getD k 0:Int))]) (λ_=>[]) (λ_=>True) ?_ ?_
   .refine go 8<|Zc J (λi=>?_) (λi=>?_)
    .refine go 7 ⟨O2,O2,?_⟩
     try (have p:(dg U b).getD k 0=0:=by simp [List.getD,bO (by omega:(dg U b).length<=k)])
     exact Hd () aA ⟨by first|rfl|(rw [p];rfl),aA⟩ aA
    .refine go 1 ?_
     try (have p:(dg U b).getD k 0=0:=by simp [List.getD,bO (by omega:(dg U b).length<=k)])
     exact Hd () aA ⟨by first|rfl|(rw [p];rfl),aA⟩ aA
   .rintro _ -;refine go 9 ⟨O2,O2,?_⟩;refine dt (Zng _ J J J J O Zfz)<|go 4 ⟨O2,?_⟩;refine tt (Lk 3 (enc:=Ot) J J J J J J pU J n.h O3 O2) (λ_ _=>?_);refine go 8 ⟨O,?_⟩;exact Yv (k+1,_,_) ⟨O1,O8,Lu e _ _ (bR _ Xf),by have F:=Qw Xf (Iq Xd a) k;have H:=Qw Xf (Iq Xd b) k;simp only [U]at *;omega,Ye0 f O⟩ O1 K2 K1
  .refine go 6 ?_;obtain rfl:k=(dg U a).length:=O;refine go 6 ⟨O2,?_⟩;refine tt (Lk 3 (enc:=Ot) J J J J J J pU J n.h O3 O2) λ_ _=>go 5 ?_;refine cl 3 [3] Pa λ_ _=>?_;refine Zo (Zh4 3 J J pU)<|go 4 ?_;have z:tz (o.set (dg U a).length c)=dg U (x+y):=by
    rw [<-Ec Xd _ (Lu e _ _ (by simp only [U];omega)),<-hs];congr 1
    conv=>rhs;rw [<-Kk Xd a,<-Kk Xd b]
    rw [cK (aK (dg U a).length),Lo U (dg U b) u]at f;rw [<-f,<-El U o c O,Lo _ _ O8]
   exact Xc m _ results278 J aA (gow 3 Za z)
theorem Zeg(p:bl x<=4294967296)(j:y<=x:=by omega):Cal prog 280 #[v,w] [Gs v x,Gs w y] false (G:=Value) (λr=>True) (λr=>r) (λr=>[Gs r (x-y)]):=by
 refine Zf func280 ntmps280 λM I n h=>?_;have D:=Oi x;have F:=Oi y;have H:=Mj j;refine go 9 ?_;refine tt (Gt 3 ((dg U x).length) 8 (enc:=Ot) 0 J J J J Qx ti222 J pU.cells pU.pos J J J n.h) λv _=>go 17 ?_;refine lp (G:=Nat×List Nat×Nat) [0,1,5,13] [0,1,2] (λq=>[(14,.int .i64 (q.1:Int)),(6,.int .u64 (q.2.2:Int))]) (λq=>[(3,Pt 1 222 Ot v q.2.1)]) (λq=>(q.1<=(dg U x).length)/\(q.2.1.length=(dg U x).length)/\(∀d∈q.2.1,d<U)/\(q.2.2<=1)/\(val U (q.2.1.take q.1)+val U ((dg U y).take q.1)=val U ((dg U x).take q.1)+q.2.2*U^q.1)) (λq=>(dg U x).length-q.1) (0,List.replicate ((dg U x).length) 0,0) ⟨O1,O7,Nq Xf,O1,by simp [val]⟩ K2 K1 ?_;rintro⟨k,o,c⟩ ⟨B,b,a,m,i⟩;dsimp only at B b a m i;dsimp only;refine go 6<|Zc J (λe=>?_) (λe=>?_)
 .refine go 15 ?_;refine jn (G:=Unit) [0,1,5,6,7,13,14] [0,3,1,2] (λ_=>[(8,.int .u64 ((dg U y).getD k 0:Int))]) (λ_=>[]) (λ_=>True) ?_ ?_
  .refine go 8<|Zc J (λf=>?_) (λf=>?_)
   .refine go 7 ⟨O2,O2,?_⟩
    try (have l:(dg U y).getD k 0=0:=by simp [List.getD,bO (by omega:(dg U y).length<=k)])
    exact Hd () aA ⟨by first|rfl|(rw [l];rfl),aA⟩ aA
   .refine go 1 ?_
    try (have l:(dg U y).getD k 0=0:=by simp [List.getD,bO (by omega:(dg U y).length<=k)])
    exact Hd () aA ⟨by first|rfl|(rw [l];rfl),aA⟩ aA
  .rintro _ -;refine go 9 ⟨O2,O2,?_⟩;refine dt (Yir J J J J O Zww)<|go 4 ⟨O2,?_⟩;refine tt (Lk 3 (enc:=Ot) J J J J J J pU J n.h O3 O2) (λ_ _=>?_);refine go 8 ⟨O,?_⟩;exact Yv (k+1,_,_) ⟨O1,O8,Lu a _ _ (bR _ Xf),brw_le,Zzb m (Qw Xf (Iq Xd x) k) (Qw Xf (Iq Xd y) k) i O⟩ O1 K2 K1
 .refine go 8 ?_;refine cl 3 [3] Pa λ_ _=>?_;refine Zo (Zh4 3 J J pU)<|go 4 ?_;obtain rfl:k=(dg U x).length:=O;have p:tz o=dg U (x-y):=by rw [<-Ec Xd _ a];congr 1;have g:(dg U y).length<=(dg U x).length:=O;rw [Lo U o O,Lo U (dg U y) g,Lo U (dg U x) (aK _),Kk Xd,Kk Xd]at i;have z:=Zhn Xf o a;rw [b]at z;have u:c=0\/c=1:=O;rcases u with rfl|rfl<;>omega
  exact Xc h _ results280 J aA (gow 3 Za p)
theorem Za4(p:bl x<=4294967296)(q:bl y<=4294967296):Cal prog 279 #[v,w] [Gs v x,Gs w y] false (G:=Int) (λr=>(r<0↔x<y)/\(0<r↔y<x)) (λr=> .int .i64 r) (λr=>[]):=by
 refine Zf func279 ntmps279 λz u o a=>?_;have l:=Oi x;have m:=Oi y;refine go 15<|Zc J (λe=>?_) (λe=>?_)
 .refine go 12 ⟨O,?_⟩;exact Xc a _ results279 J ⟨⟨λh=>Zk8 Xd O,λh=>by have:=Mj (eP h);omega⟩,⟨λh=>Zk8 Xd O,λh=>by have:=Mj (eP h);omega⟩⟩ Za
 .have c:(dg U x).length=(dg U y).length:=O;refine go 12 ⟨O,?_⟩;refine lp (G:=Nat) [0,1] [0,1,2] (λk=>[(5,.int .i64 ((k:Int)-1))]) (λk=>[]) (λk=>(k<=(dg U x).length)/\((dg U x).drop k=(dg U y).drop k)) (λk=>k) (dg U x).length ⟨O1,by rw [List.drop_length,c,List.drop_length]⟩ K1 aA ?_;rintro k ⟨n,d⟩;refine go 7<|Zc J (λf=>?_) (λf=>?_)
  .refine go 6<|Qj (λ_=>False) [(0,0),(1,0),(2,0),(3,0),(4,0),(5,0),(6,0),(7,0),(8,0),(9,0)]<|go 2 ?_;refine Xp J J (Qv (Yh 1 (k-1) J J J J Zh Qx Mw))<|go 3 ⟨O2,?_⟩;refine Xp J J (Qv (Yh 2 (k-1) J J J J Zh Qx Mw))<|go 5 ⟨O2,?_⟩;refine Zc J (λg=>?_) (λg=>?_)
   .refine go 12 ?_;have b:=Yd6 Xf (xs:=dg U x) (ys:=dg U y) (Iq Xd x) (k:=k-1) O O (by rw [show k-1+1=k by omega];exact d) O;rw [Kk Xd,Kk Xd]at b;exact Xc a (-1) results279 J O Za
   .refine go 1<|Qj (λ_=>False) [(0,0),(1,0),(2,0),(3,0),(4,0),(5,0),(6,0),(7,0),(8,0),(9,0)]<|go 2 ?_;refine Xp J J (Qv (Yh 1 (k-1) J J J J Zh Qx Mw))<|go 3 ⟨O2,?_⟩;refine Xp J J (Qv (Yh 2 (k-1) J J J J Zh Qx Mw))<|go 5 ⟨O2,?_⟩;refine Zc J (λi=>?_) (λi=>?_)
    .refine go 12 ?_;have b:=Yd6 Xf (xs:=dg U y) (ys:=dg U x) (Iq Xd y) (k:=k-1) O O (by rw [show k-1+1=k by omega];exact d.symm) O;rw [Kk Xd,Kk Xd]at b;exact Xc a 1 results279 J O Za
    .refine go 9 ⟨O,?_⟩;exact Yv (k-1) ⟨O1,by have:=Zne (xs:=dg U x) (ys:=dg U y) (k:=k-1) O O (by rw [show k-1+1=k by omega];exact d) O;exact this⟩ O1 ⟨by rw [show(((k-1:Nat):Int)-1)=(k:Int)-1-1 by omega];rfl,aA⟩ aA
  .refine go 11 ?_;obtain rfl:k=0:=O;have j:x=y:=(Zk9 Xd).1 (by simpa using d);exact Xc a 0 results279 J O Za
theorem Yem(b:x<U)(c:y<U):Qp prog 377 #[.int .u64 (x:Int),.int .u64 (y:Int)] [] (.tuple #[.int .u64 ((x*y/U:Nat):Int),.int .u64 ((x*y%U:Nat):Int)]):=by refine Zf func377 ntmps377 λf e d a=>?_;simp only [U]at b c;refine go 9 ?_;refine dt (Zn9 J J J b)<|go 6 ?_;refine dt (Hl 4294967296 (n:=32) J J J J J)<|go 6 ?_;refine dt (Zn9 J J J c)<|go 6 ?_;refine dt (Hl 4294967296 (n:=32) J J J J J)<|go 7 ?_;refine dt (Eg J J J)<|go 7 ?_;refine dt (Eg J J J)<|go 1 ?_;refine dt (Hl 4294967296 (n:=32) J J J J J)<|dt (Dl J J J)<|go 6 ?_;refine dt (Zn9 J J J (bR _ Xf))<|go 6 ?_;refine dt (Hl 4294967296 (n:=32) J J J J J)<|go 8 ?_;refine dt (Eg J J J)<|dt (Dl J J J)<|go 7 ?_;refine dt (Eg J J J)<|go 1 ?_;refine dt (Dl J J J)<|go 1 ?_;refine dt (Hl 4294967296 (n:=32) J J J J J)<|dt (Dl J J J)<|go 7 ?_;refine dt (Eg J J J)<|go 4 ?_;exact Na a () results377 (by rw [Ybe b c rfl rfl]) aA Za
theorem Zum(I:bl x<=4294967296)(R:bl y<=4294967296):Cal prog 344 #[v,w] [Gs v x,Gs w y] false (G:=Value) (λr=>True) (λr=>r) (λr=>[Gs r (x*y)]):=by
 refine Zf func344 ntmps344 λV S F D=>?_;have P:=Oi x;have Q:=Oi y;refine go 12 ⟨O,?_⟩;refine tt (Gt 3 ((dg U x).length+(dg U y).length) 8 (enc:=Ot) 0 J J J J Qx ti222 J pU.cells pU.pos J J J F.h) λv _=>go 12 ?_;refine lp (G:=Nat×List Nat) [1,5,20,21] [0,1,2] (λq=>[(22,.int .i64 (q.1:Int))]) (λq=>[(3,Pt 1 222 Ot v q.2)]) (λq=>(q.1<=(dg U x).length)/\(q.2.length=(dg U x).length+(dg U y).length)/\(∀d∈q.2,d<U)/\(∀j,q.1+(dg U y).length<=j->q.2.getD j 0=0)/\(val U (q.2.take (q.1+(dg U y).length))=val U ((dg U x).take q.1)*y)) (λq=>(dg U x).length-q.1) (0,List.replicate ((dg U x).length+(dg U y).length) 0) ⟨O1,O7,Nq Xf,λj _=>Ge _ j,by simp [val,nC,Fi]⟩ K1 K1 ?_;rintro⟨i,o⟩ ⟨hi,u,g,M,z⟩;dsimp only at hi u g M z;dsimp only;refine go 6<|Zc J (λm=>?_) (λm=>?_)
 .refine go 27 ⟨O2,O2,?_⟩;refine lp (G:=Nat×List Nat×Nat) [1,5,6,7,20,21,22,27,28] [0,1,2] (λq=>[(29,.int .i64 (q.1:Int)),(8,.int .u64 (q.2.2:Int))]) (λq=>[(3,Pt 1 222 Ot v q.2.1)]) (λq=>(q.1<=(dg U y).length)/\(q.2.1.length=(dg U x).length+(dg U y).length)/\(∀d∈q.2.1,d<U)/\(∀j,i+(dg U y).length<=j->q.2.1.getD j 0=0)/\(q.2.2<U)/\(val U (q.2.1.take (i+(dg U y).length))+q.2.2*U^(i+q.1)=val U ((dg U x).take i)*y+(dg U x).getD i 0*U^i*val U ((dg U y).take q.1))) (λq=>(dg U y).length-q.1) (0,o,0) ⟨O1,u,g,M,Xf,by rw [z];simp [val]⟩ K2 K1 ?_;rintro⟨k,p,c⟩ ⟨N,B,a,l,f,h⟩;dsimp only at N B a l f h;dsimp only;have b:=Zxi (Qw Xf (Iq Xd x) i) (Qw Xf (Iq Xd y) k) (Qw Xf a (i+k)) f;refine go 6<|Zc J (λn=>?_) (λn=>?_)
  .refine go 17 ⟨O2,O2,?_⟩;refine cl 3 [] (Yem (Qw Xf (Iq Xd _) _) (Qw Xf (Iq Xd _) _)) λ_ _=>?_;refine go 14 ⟨O,?_⟩;refine dt (Yh 3 (i+k) J J J J (Yc pU) Qx Mw)<|go 1 ⟨O2,?_⟩;refine dt (Zng 0 J J J J O Zfz)<|go 11 ?_;refine dt (Dl J J J)<|go 7 ?_;refine dt (Zng 0 J J J J O Zfz)<|go 15 ⟨O,?_⟩;refine dt (Dl J J J)<|dt (Yh 3 (i+k) J J J J (Yc pU) Qx Mw)<|tt (Lk 3 (enc:=Ot) J J J J J J pU J F.h O3 O2) (λ_ _=>?_);refine go 8 ⟨O,?_⟩;exact Yv (k+1,_,_) ⟨O1,O8,Lu a _ _ (bR _ Xf),λj H=>by rw [Oq O,aD O];exact l j H,b.2,Ybd h O O b.1⟩ O1 K2 K1
  .refine go 5 ?_;obtain rfl:k=(dg U y).length:=O;have e:=h;rw [cK (aK (dg U y).length),Kk Xd]at e;refine go 7 ⟨O,?_⟩;refine dt (Yh 3 (i+(dg U y).length) J J J J (Yc pU) Qx Mw)<|tt (Lk 3 (enc:=Ot) J J J J J J pU J F.h O3 O2) (λ_ _=>?_);refine go 7 ⟨O,?_⟩;exact Yv (i+1,_) ⟨O1,O8,Lu a _ _ f,λj H=>by rw [Oq O,aD O];exact l j O,by dsimp only;rw [show i+1+(dg U y).length=i+(dg U y).length+1 by omega,El _ _ _ O,Pg,bI,<-e]⟩ O1 K1 K1
 .refine go 8 ?_;refine cl 3 [3] Pa λ_ _=>?_;refine Zo (Zh4 3 J J pU)<|go 4 ?_;obtain rfl:i=(dg U x).length:=O;have I:tz o=dg U (x*y):=by rw [<-Ec Xd _ g];congr 1;rw [Lo U o O,cK (aK _),Kk Xd]at z;exact z
  exact Xc D _ results344 J aA (gow 3 Za I)
theorem Zq4(q:x<U):Qp prog 327 #[.int .u64 (x:Int)] [] (.int .i64 (bl x:Int)):=by
 refine Zf func327 ntmps327 λH G F g=>?_;simp only [U]at q;have c:=Ky x 32;have a:=Ky x 16;have l:=Ky x 8;have b:=Ky x 24;have d:=Ky x 40;have e:=Ky x 48;have f:=Ky x 56;have f32:=Zae 32 x;have f16:=Zae 16 x;have f8:=Zae 8 x;have f24:=Zae 24 x;have f40:=Zae 40 x;have f48:=Zae 48 x;have f56:=Zae 56 x;have r:=aX x (2^32) (2^16);have u:=aX x (2^32) (2^8);have z:=aX x (2^16) (2^8);have B:=aX (x/2^32) (2^16) (2^8);have D:=aX x (2^32) (2^16*2^8);simp only [Nat.reducePow,Nat.reduceMul]at *;refine go 12<|Zc J (λm=>?_) (λm=>?_)
 .refine go 3 ?_;refine dt (Hl 4294967296 (n:=32) J J J J J)<|go 14 ?_;refine Zc J (λo=>?_) (λo=>?_)
  .refine go 3 ?_;refine dt (Hl 65536 (n:=16) J J J J J)<|go 16 ⟨O,?_⟩;refine Zc J (λp=>?_) (λp=>?_)
   .refine go 3 ?_;refine dt (Hl 256 (n:=8) J J J J J)<|go 13 ⟨O,?_⟩;refine dt (Zex J J Bf uT5)<|dt (Zgi J J J uT9 J O O3 O6)<|dt (Zbf J J uT5 uT3 Cr)<|go 5 ⟨Fx O O,?_⟩;exact Xc g () results327 (Cp x O (by first|omega|(simp only [aX,Nat.reduceMul,c,a,l,b,d,e,f];omega))).symm aA Za
   .refine go 6 ?_;refine dt (Zex J J Bf uT5)<|dt (Zgi J J J uT9 J O O3 O6)<|dt (Zbf J J uT5 uT3 Cr)<|go 5 ⟨Fx O O,?_⟩;exact Xc g () results327 (Cp x O (by first|omega|(simp only [aX,Nat.reduceMul,c,a,l,b,d,e,f];omega))).symm aA Za
  .refine go 9<|Zc J (λi=>?_) (λi=>?_)
   .refine go 3 ?_;refine dt (Hl 256 (n:=8) J J J J J)<|go 13 ⟨O,?_⟩;refine dt (Zex J J Bf uT5)<|dt (Zgi J J J uT9 J O O3 O6)<|dt (Zbf J J uT5 uT3 Cr)<|go 5 ⟨Fx O O,?_⟩;exact Xc g () results327 (Cp x O (by first|omega|(simp only [aX,Nat.reduceMul,c,a,l,b,d,e,f];omega))).symm aA Za
   .refine go 6 ?_;refine dt (Zex J J Bf uT5)<|dt (Zgi J J J uT9 J O O3 O6)<|dt (Zbf J J uT5 uT3 Cr)<|go 5 ⟨Fx O O,?_⟩;exact Xc g () results327 (Cp x O (by first|omega|(simp only [aX,Nat.reduceMul,c,a,l,b,d,e,f];omega))).symm aA Za
 .refine go 9<|Zc J (λh=>?_) (λh=>?_)
  .refine go 3 ?_;refine dt (Hl 65536 (n:=16) J J J J J)<|go 16 ⟨O,?_⟩;refine Zc J (λj=>?_) (λj=>?_)
   .refine go 3 ?_;refine dt (Hl 256 (n:=8) J J J J J)<|go 13 ⟨O,?_⟩;refine dt (Zex J J Bf uT5)<|dt (Zgi J J J uT9 J O O3 O6)<|dt (Zbf J J uT5 uT3 Cr)<|go 5 ⟨Fx O O,?_⟩;exact Xc g () results327 (Cp x O (by first|omega|(simp only [aX,Nat.reduceMul,c,a,l,b,d,e,f];omega))).symm aA Za
   .refine go 6 ?_;refine dt (Zex J J Bf uT5)<|dt (Zgi J J J uT9 J O O3 O6)<|dt (Zbf J J uT5 uT3 Cr)<|go 5 ⟨Fx O O,?_⟩;exact Xc g () results327 (Cp x O (by first|omega|(simp only [aX,Nat.reduceMul,c,a,l,b,d,e,f];omega))).symm aA Za
  .refine go 9<|Zc J (λk=>?_) (λk=>?_)
   .refine go 3 ?_;refine dt (Hl 256 (n:=8) J J J J J)<|go 13 ⟨O,?_⟩;refine dt (Zex J J Bf uT5)<|dt (Zgi J J J uT9 J O O3 O6)<|dt (Zbf J J uT5 uT3 Cr)<|go 5 ⟨Fx O O,?_⟩;exact Xc g () results327 (Cp x O (by first|omega|(simp only [aX,Nat.reduceMul,c,a,l,b,d,e,f];omega))).symm aA Za
   .refine go 6 ?_;refine dt (Zex J J Bf uT5)<|dt (Zgi J J J uT9 J O O3 O6)<|dt (Zbf J J uT5 uT3 Cr)<|go 5 ⟨Fx O O,?_⟩;exact Xc g () results327 (Cp x O (by first|omega|(simp only [aX,Nat.reduceMul,c,a,l,b,d,e,f];omega))).symm aA Za
theorem Znt(b:x<U):Qp prog 284 #[.int .u64 (x:Int)] [] (.int .i64 ((64-bl x:Nat):Int)):=by refine Zf func284 ntmps284 λf e d a=>?_;have c:bl x<=64:=(Qg 64 x).2 b;refine go 8 ?_;refine cl 0 [] (Zq4 b) λ_ _=>?_;refine go 5 ⟨O,?_⟩;exact Xc a () results284 (by congr 1;omega) aA Za
theorem Zil(g:bl x<=1099511627776:=by omega):Qp prog 222 #[v] [Gs v x] (.int .i64 (bl x:Int)):=by
 refine Zf func222 ntmps222 λj i f b=>?_;have e:=Oi x;refine go 13<|Zc J (λa=>?_) (λa=>?_)
 .refine go 7 ?_;have c:x=0:=(Og Xd x).1 O;exact Xc b () results222 (by rw [c];rfl) aA Za
 .have d:0<x:=by rcases aZ x with rfl|h;(simp [Gi]at a);exact h
  obtain⟨k,l,m,n⟩:=Zts d;refine go 11 ⟨O,O,?_⟩;refine dt (Yh 1 ((dg U x).length-1) J J J J Zh Qx Mw)<|go 1 ⟨O2,?_⟩;refine cl 1 [] (Znt (Qw Xf (Iq Xd _) _)) λ_ _=>?_;refine go 5 ⟨O,?_⟩;exact Xc b () results222 (by congr 1;omega) aA Za
theorem Zyb(g:xs.length*8<=140737488355328):Yju prog 378 #[v] [Yg 1 Ot v xs] (G:=Value) (λr=>True) (λr=>r) (λr=>Pt 1 222 Ot r xs):=by
 refine Zv8 func378 J ntmps378 J K1 ?_;intro j h d e;have d:=Hw.mk d;simp only [Qd,Yr];refine Qf (f_nil (i:=1) J Zh) λc=>go 9 ?_;refine dt (Zvu J J J (i:=1) J Zh Qx)<|go 2 ?_;refine Pr J (λb=>?_) (λb=>?_)
 .refine go 7 ?_;obtain rfl:xs=[]:=c (by simpa using b);exact Zr (Nn 9 1 222 Ot)<|Zlk (.inl J) (.slice none 0 0) (λa w hs=>Zcd hs results378 J) J aA J 9 J J J
 .refine go 4 ?_;refine tt (Zy6 2 (enc:=Ot) J J J Qx pU J d.h) λv _=>go 1 ?_;refine tt (Lc 2 1 8 J J J J J J O3 J Zh Qx ti222 J pU J J J O8 O3 J d.h) λf _=>go 4 ?_;exact Zlk (.inl J) _ (λa w hs=>Zcd hs results378 J) J aA J 2 J (by rfl) J
theorem Zq5{h l:Nat}(hl:l<U)(hy:y<U)(hh:h<y):Qp prog 343 #[.int .u64 (h:Int),.int .u64 (l:Int),.int .u64 (y:Int)] [] (.tuple #[.int .u64 (((h*U+l)/y:Nat):Int),.int .u64 (((h*U+l)%y:Nat):Int)]):=by
 refine Zf func343 ntmps343 λw0 sc hw a8=>?_;have c0:U=18446744073709551616:=rfl;have hp:0<y:=O;have c1:bl y<=64:=(Qg 64 y).2 hy;obtain⟨s,hs⟩:∃s,s=64-bl y:=⟨_,rfl⟩;obtain⟨Y,g⟩:∃Y,Y=y*2^s:=⟨_,rfl⟩;obtain⟨b6,S⟩:=Yba hp hy hs;rw [<-g]at b6 S;have V:=S;obtain⟨D,hD⟩:∃D,D=(h*U+l)*2^s:=⟨_,rfl⟩;obtain⟨u,Z⟩:∃u,u=D/U:=⟨_,rfl⟩;obtain⟨v,a0⟩:∃v,v=D%U:=⟨_,rfl⟩;obtain⟨v1,Q⟩:∃x,x=v/4294967296:=⟨_,rfl⟩;obtain⟨v0,P⟩:∃x,x=v%4294967296:=⟨_,rfl⟩;obtain⟨d,b1⟩:∃x,x=Y/4294967296:=⟨_,rfl⟩;obtain⟨N,a9⟩:∃x,x=Y%4294967296:=⟨_,rfl⟩;have e:Y=d*4294967296+N:=O;have b7:=shl_lt hh (show y*2^s<U by rw [<-g];exact S);have c3:u<Y:=by rw [Z,hD,g];exact top_lt hl hh
 have hu:u<d*4294967296+N:=O;have hvU:v<U:=by rw [a0];exact bR _ Xf
 have b0:2147483648<=d:=O;have i:d<4294967296:=O;have f:N<4294967296:=O;have M:v1<4294967296:=O;have I:v0<4294967296:=O;obtain⟨Q1,m⟩:∃x,x=(u*4294967296+v1)/Y:=⟨_,rfl⟩;obtain⟨t,H⟩:∃x,x=(u*4294967296+v1)%Y:=⟨_,rfl⟩;have c2:t<Y:=by rw [H];exact bR _ O
 have ht:t<d*4294967296+N:=O;obtain⟨Q0,k⟩:∃x,x=(t*4294967296+v0)/Y:=⟨_,rfl⟩;have R:0<Y:=O;obtain⟨a6,a7⟩:=dv_two (D:=D) R Z a0 Q P;rw [<-m,<-H,<-k]at a6;rw [<-H]at a7;have b8:Q0<4294967296:=by rw [k,e];exact dv_Q I ht
 have b9:Q1<4294967296:=by rw [m,e];exact dv_Q M hu
 refine go 13<|Zc J (λa1=>?_) (λa1=>?_)
 .exfalso;omega
 .refine go 10<|Zc J (λa2=>?_) (λa2=>?_)
  .exfalso;omega
  .refine go 9<|Zc J (λa3=>?_) (λa3=>?_)
   .refine go 1<|Qj (λ_=>False) [(0,0),(1,0),(2,0),(3,0),(4,0),(5,0),(6,0),(7,3)]<|go 2 ?_;refine Xp J J (Qv (Zyz J J J))<|go 2 ?_;refine Xp J J (Qv (u_rem J J J O))<|go 6 ?_;exact Na a8 () results343 (by have h0:h=0:=O;rw [h0];simp) aA Za
   .refine go 5 ?_;refine cl 0 [] (Znt hy) λ_ _=>?_;refine dt (Zsr J J uT3 underlying306 (by simp only [U];omega))<|go 4 ?_;refine Zl (Mx 8 (v':= .int .u64 (s:Int)) J (by rw [hs]))<|go 3 ?_;refine dt (Zj8 J J J J)<|go 4 ?_;refine Zl (Mx 2 (v':= .int .u64 (Y:Int)) J (by rw [g,aW (by rw [<-g];exact V)]))<|go 2 ?_;refine dt (Hl 4294967296 (n:=32) J J J J J)<|go 6 ?_;refine dt (Zn9 J J J)<|go 7 ?_;refine dt (Zj8 J J J J)<|go 2 ?_;refine dt (Zcf J J J (by first|exact bR _ Xf|omega))<|dt (Zj7 J J (n:=64-s) J (by simp only [U];omega))<|dt (Yfs J J J (bR _ Xf) (bA (fQ _ _) hl))<|go 4 ?_;refine Zl (Mx 11 (v':= .int .u64 (u:Int)) J (by rw [Z,hD,Ya6 O b7 hl]))<|go 3 ?_;refine dt (Zj8 J J J J)<|go 4 ?_;refine Zl (Mx 12 (v':= .int .u64 (v:Int)) J (by rw [a0,hD,Zxk h l s]))<|go 2 ?_;refine dt (Hl 4294967296 (n:=32) J J J J J)<|go 4 ?_;refine Zl (Mx 13 (v':= .int .u64 (v1:Int)) J (by rw [Q]))<|go 2 ?_;refine dt (Zn9 J J J)<|go 4 ?_;refine Zl (Mx 14 (v':= .int .u64 (v0:Int)) J (by rw [Zra,P]))<|Zl (Mx 9 (v':= .int .u64 (d:Int)) J (by rw [b1]))<|Zl (Mx 10 (v':= .int .u64 (N:Int)) J (by rw [Zra,a9]))<|go 3 ?_;refine dt (Zyz J J J)<|go 8 ?_;refine dt (Eg J J J)<|dt (Zcf J J J (by first|exact bR _ Xf|omega))<|go 3 ?_;refine jn (G:=Unit) [2,8,9,10,11,13,14] [0] (λ_=>[(15,.int .u64 ((Q1:Nat):Int))]) (λ_=>[]) (λ_=>True) ?_ ?_
    .refine go 1<|Zl (Mx 16 (v':= .int .u64 ((u%d:Nat):Int)) J (by rw [rsub O O])) ?_;refine lp (G:=Nat×Nat) [2,8,9,10,11,13,14] [0] (λq=>[(15,.int .u64 (q.1:Int)),(16,.int .u64 (q.2:Int))]) (λq=>[]) (λq=>(dvI u v1 d N q.1 q.2)/\(q.2<4294967296)) (λq=>q.1) (u/d,u%d) ⟨dv0 b0 i f M hu,jF (bR _ O) i⟩ K2 aA ?_;rintro⟨a,r⟩ ⟨j,hr⟩;dsimp only at j hr;dsimp only;have b4:=j.1;have b5:=j.2.1;refine go 6<|Yn 69 J (λb2=>?_) (λb2=>?_)
     .refine go 16 ?_;have b:=Zhc O j M hu O;have c:=b.1;refine go 2 ?_;refine dt (Zcf (n:=1) J J J)<|go 4 ?_;refine Zl (Mx 15 (v':= .int .u64 ((a-1:Nat):Int)) J (Ah (Zqo c O)))<|go 3 ?_;refine dt (Dl J J J)<|go 4 ?_;refine Zl (Mx 16 (v':= .int .u64 ((r+d:Nat):Int)) J (Ah (aW O)))<|go 5<|Zc J (λa4=>?_) (λa4=>?_)
      .refine go 4 ?_;have z:Q1=a-1:=by rw [m,e];exact(Zet O f b.2 O O).symm
       exact Hd () aA ⟨by rw [z];rfl,aA⟩ aA
      .refine go 2 ?_;exact Yv (a-1,r+d) ⟨b.2,by dsimp only;omega⟩ O1 K2 aA
     .have W:=Zpl (show a<4294967296 by omega) f;have e1:=aW (show a*N<U from W);have e2:=aW (show 4294967296*r<U by omega);have e3:=aW (show 4294967296*r+v1<U by omega);refine go 2 ?_;refine Bb (Eg J J J) J J<|go 1 ?_;refine Bb (Eg J J J) J J<|go 1 ?_;refine Bb (Dl J J J) J J<|go 4 ?_;refine Zc J (λo=>?_) (λo=>?_)
      .rw [e1,e2,e3]at o;refine go 4 ?_;have b:=Zhc O j M hu O;have c:=b.1;refine go 2 ?_;refine dt (Zcf (n:=1) J J J)<|go 4 ?_;refine Zl (Mx 15 (v':= .int .u64 ((a-1:Nat):Int)) J (Ah (Zqo c O)))<|go 3 ?_;refine dt (Dl J J J)<|go 4 ?_;refine Zl (Mx 16 (v':= .int .u64 ((r+d:Nat):Int)) J (Ah (aW O)))<|go 5<|Zc J (λB=>?_) (λB=>?_)
       .refine go 4 ?_;have z:Q1=a-1:=by rw [m,e];exact(Zet O f b.2 O O).symm
        exact Hd () aA ⟨by rw [z];rfl,aA⟩ aA
       .refine go 2 ?_;exact Yv (a-1,r+d) ⟨b.2,by dsimp only;omega⟩ O1 K2 aA
      .rw [e1,e2,e3]at o;refine go 4 ?_;have z:Q1=a:=by rw [m,e];exact(Znd O j O).symm
       exact Hd () aA ⟨by rw [z];rfl,aA⟩ aA
    .rintro _ -;refine go 3 ?_;refine dt (Eg J J J)<|go 1 ?_;refine dt (Dl J J J)<|go 2 ?_;refine dt (Eg J J J)<|dt (Zcf J J J (by first|exact bR _ Xf|omega))<|go 4 ?_;refine Zl (Mx 17 (v':= .int .u64 (t:Int)) J (by rw [H,m,Zvj R V]))<|go 3 ?_;refine dt (Zyz J J J)<|go 8 ?_;refine dt (Eg J J J)<|dt (Zcf J J J (by first|exact bR _ Xf|omega))<|go 3 ?_;refine jn (G:=Unit) [2,8,14,15,17] [0] (λ_=>[(18,.int .u64 ((Q0:Nat):Int))]) (λ_=>[]) (λ_=>True) ?_ ?_
     .refine go 1<|Zl (Mx 16 (v':= .int .u64 ((t%d:Nat):Int)) J (by rw [rsub O O])) ?_;refine lp (G:=Nat×Nat) [2,8,9,10,14,15,17] [0] (λq=>[(18,.int .u64 (q.1:Int)),(16,.int .u64 (q.2:Int))]) (λq=>[]) (λq=>(dvI t v0 d N q.1 q.2)/\(q.2<4294967296)) (λq=>q.1) (t/d,t%d) ⟨dv0 b0 i f I ht,jF (bR _ O) i⟩ K2 aA ?_;rintro⟨a,r⟩ ⟨j,hr⟩;dsimp only at j hr;dsimp only;have b4:=j.1;have b5:=j.2.1;refine go 6<|Yn 104 J (λb3=>?_) (λb3=>?_)
      .refine go 16 ?_;have b:=Zhc O j I ht O;have c:=b.1;refine go 2 ?_;refine dt (Zcf (n:=1) J J J)<|go 4 ?_;refine Zl (Mx 18 (v':= .int .u64 ((a-1:Nat):Int)) J (Ah (Zqo c O)))<|go 3 ?_;refine dt (Dl J J J)<|go 4 ?_;refine Zl (Mx 16 (v':= .int .u64 ((r+d:Nat):Int)) J (Ah (aW O)))<|go 5<|Zc J (λa5=>?_) (λa5=>?_)
       .refine go 4 ?_;have z:Q0=a-1:=by rw [k,e];exact(Zet O f b.2 O O).symm
        exact Hd () aA ⟨by rw [z];rfl,aA⟩ aA
       .refine go 2 ?_;exact Yv (a-1,r+d) ⟨b.2,by dsimp only;omega⟩ O1 K2 aA
      .have W:=Zpl (show a<4294967296 by omega) f;have e1:=aW (show a*N<U from W);have e2:=aW (show 4294967296*r<U by omega);have e3:=aW (show 4294967296*r+v0<U by omega);refine go 2 ?_;refine Bb (Eg J J J) J J<|go 1 ?_;refine Bb (Eg J J J) J J<|go 1 ?_;refine Bb (Dl J J J) J J<|go 4 ?_;refine Zc J (λp=>?_) (λp=>?_)
       .rw [e1,e2,e3]at p;refine go 4 ?_;have b:=Zhc O j I ht O;have c:=b.1;refine go 2 ?_;refine dt (Zcf (n:=1) J J J)<|go 4 ?_;refine Zl (Mx 18 (v':= .int .u64 ((a-1:Nat):Int)) J (Ah (Zqo c O)))<|go 3 ?_;refine dt (Dl J J J)<|go 4 ?_;refine Zl (Mx 16 (v':= .int .u64 ((r+d:Nat):Int)) J (Ah (aW O)))<|go 5<|Zc J (λF=>?_) (λF=>?_)
        .refine go 4 ?_;have z:Q0=a-1:=by rw [k,e];exact(Zet O f b.2 O O).symm
         exact Hd () aA ⟨by rw [z];rfl,aA⟩ aA
        .refine go 2 ?_;exact Yv (a-1,r+d) ⟨b.2,by dsimp only;omega⟩ O1 K2 aA
       .rw [e1,e2,e3]at p;refine go 4 ?_;have z:Q0=a:=by rw [k,e];exact(Znd O j O).symm
        exact Hd () aA ⟨by rw [z];rfl,aA⟩ aA
     .rintro _ -;refine go 3 ?_;refine dt (Eg J J J)<|go 1 ?_;refine dt (Dl J J J)<|go 1 ?_;refine dt (Eg J J J)<|go 1 ?_;refine dt (Dl J J J)<|go 2 ?_;refine dt (Eg J J J)<|dt (Zcf J J J (by first|exact bR _ Xf|omega))<|go 1 ?_;refine dt (Zj7 J J J J)<|go 5 ?_;have hA:(Q1*4294967296%U+Q0)%U=(h*U+l)/y:=by rw [<-Zkm _ y s,<-hD,<-g,a6];simp only [U];omega
      have hB:((t*4294967296%U+v0)%U+(U-(Q0*Y)%U))%U/2^s=(h*U+l)%y:=by rw [<-Zkl _ y s,<-hD,<-g,a7,k,Zvj R V]
      exact Na a8 () results343 (by rw [hA,hB]) aA Za
theorem Zxh{d:Nat}(u:bl x<=8589934592)(f:0<d)(g:d<U):Cal prog 341 #[v,.int .u64 (d:Int)] [Gs v x] false (G:=Value) (λr=>True) (λr=> .tuple #[r,.int .u64 ((x%d:Nat):Int)]) (λr=>[Gs r (x/d)]):=by
 refine Zf func341 ntmps341 λB z j i=>?_;have p:=Oi x;refine go 10 ?_;refine tt (Gt 2 ((dg U x).length) 8 (enc:=Ot) 0 J J J J Qx ti222 J pU.cells pU.pos J J J j.h) (λv _=>?_);refine go 18 ⟨O,?_⟩;refine lp (G:=Nat×List Nat×Nat) [0,1,6] [0,1] (λq=>[(8,.int .i64 ((q.1:Int)-1)),(7,.int .u64 (q.2.2:Int))]) (λq=>[(2,Pt 1 222 Ot v q.2.1)]) (λq=>(q.1<=(dg U x).length)/\(q.2.1.length=(dg U x).length)/\(q.2.2<d)/\(∀d∈q.2.1,d<U)/\(val U (q.2.1.drop q.1)*d+q.2.2=val U ((dg U x).drop q.1))) (λq=>q.1) ((dg U x).length,List.replicate (dg U x).length 0,0) ⟨aK _,O7,O1,Nq Xf,by simp [val]⟩ K2 K1 ?_;rintro⟨k,o,r⟩ ⟨l,h,c,a,e⟩;dsimp only at l h c a e;dsimp only;refine go 7<|Zc J (λb=>?_) (λb=>?_)
 .refine go 10 ?_;refine dt (Yh 1 (k-1) J J J J Zh Qx Mw)<|go 2 ⟨O2,?_⟩;refine cl 2 [] (Zq5 (Qw Xf (Iq Xd _) _) g c) λ_ _=>go 3 ?_;refine dt (Yh 2 (k-1) J J J J (Yc pU) Qx Mw)<|tt (Lk 2 (enc:=Ot) J J J J J J pU J j.h O3 O2) (λ_ _=>?_);refine go 9 ⟨O,?_⟩;exact Yv (k-1,_,_) ⟨O1,O8,bR _ f,Lu a _ _ (Zqg (Qw Xf (Iq Xd x) _) c),Zrm f O O (by rw [show k-1+1=k by omega];exact e)⟩ O1 ⟨by rw [show(((k-1:Nat):Int)-1)=(k:Int)-1-1 by omega];rfl,rfl,aA⟩ K1
 .refine go 8 ?_;refine cl 2 [2] Pa λ_ _=>?_;refine Zo (Zh4 2 J J pU)<|go 6 ?_;obtain rfl:k=0:=O;rw [lI,lI,Kk Xd]at e;have n:tz o=dg U (x/d):=by rw [<-Ec Xd _ a,<-e,aR,gQ f,dB c,fK]
  have m:r=x%d:=by rw [<-e,aR,iM,aW c]
  exact Na i _ results341 (by rw [m]) aA (gow 2 Za n)
theorem Zml{s:Nat}(Y:bl x<=4294967296:=by omega)(hs:s<=4294967296:=by omega):Cal prog 342 #[v,.int .i64 (s:Int)] [Gs v x] false (G:=Value) (λr=>True) (λr=>r) (λr=>[Gs r (x*2^s)]):=by
 refine Zf func342 ntmps342 λw0 Z M D=>?_;obtain⟨w,V⟩:∃w,w=s/64:=⟨_,rfl⟩;obtain⟨b,R⟩:∃b,b=s%64:=⟨_,rfl⟩;have W:=Oi x;refine go 13<|Zc J (λm=>?_) (λm=>?_)
 .refine go 7<|Zr (Nn 9 1 222 Ot) ?_;have N:x=0:=(Og Xd x).1 O;exact Xc D (.slice none 0 0) results342 J aA (gow 9 Za (by rw [N,gV];rfl))
 .refine go 5 ?_;refine dt (Zjc J J J)<|go 1 ?_;refine dt (Zlc J J J)<|go 5 ?_;refine Zl (Mx 5 (v':= .int .i64 (w:Int)) J (by congr 1;omega))<|Zl (Mx 6 (v':= .int .i64 (b:Int)) J (by congr 1;omega))<|go 6 ⟨O,O,?_⟩;refine tt (Gt 2 ((dg U x).length+w+1) 8 (enc:=Ot) 0 J J J J Qx ti222 J pU.cells pU.pos J J J M.h) λv _=>go 12 ?_;refine lp (G:=Nat×List Nat) [5,6,7,23,24] [0,1] (λq=>[(25,.int .i64 (q.1:Int))]) (λq=>[(2,Pt 1 222 Ot v q.2)]) (λq=>(q.1<=(dg U x).length)/\(q.2.length=(dg U x).length+w+1)/\(q.2.getD (w+q.1) 0<2^b)/\(∀j,w+q.1<j->q.2.getD j 0=0)/\(∀d∈q.2,d<U)/\(val U (q.2.take ((dg U x).length+w+1))=val U ((dg U x).take q.1)*2^b*U^w)) (λq=>(dg U x).length-q.1) (0,List.replicate ((dg U x).length+w+1) 0) ⟨O1,O7,by rw [Ge];exact dO b,λj _=>Ge _ j,Nq Xf,by rw [nC,Fi];simp [val]⟩ K1 K1 ?_;rintro⟨i,o⟩ ⟨hi,B,Q,l,a,H⟩;dsimp only at hi B Q l a H;dsimp only;have F:i<(dg U x).length->_:=λS=>Zzx (xs:=dg U x) (show b<=63 by omega) B.symm (show w+i+1<_ by omega) Q (l (w+i+1) O) (Qw Xf (Iq Xd x) i) H;refine go 6<|Zc J (λp=>?_) (λp=>?_)
  .refine go 14 ⟨O2,O2,?_⟩;have f:=Qw Xf (Iq Xd x) i;refine Qj (λ_=>False) [(0,0),(1,0),(2,0),(3,0),(4,0),(5,0),(6,0),(7,0),(8,0),(9,0),(10,0),(11,3)]<|go 4 ⟨O,?_⟩;refine Xp J J (Qv (Yh 2 (w+i) J J J J (Yc pU) Qx Mw))<|go 3 ⟨O2,?_⟩;refine Xp J J (Qv (Zj8 J J (n:=b) J J))<|Xp J J (Qv (Yfs J J J (Qw Xf a _) (bR _ Xf)))<|Xp J J (Qv (Yh 2 (w+i) J J J J (Yc pU) Qx Mw))<|r3' J (Lk 2 (enc:=Ot) J J J J J J pU J M.h O3 O2) λ_ _=>go 8 ?_;refine Zc J (λu=>?_) (λu=>?_)
   .have c:=Lu (Lu a (w+i) (o.getD (w+i) 0 ||| (dg U x).getD i 0*2^b%U) (jT (n:=64) (Qw Xf a _) (bR _ Xf))) (w+i+1) ((dg U x).getD i 0/2^(64-b)) (bA (fQ _ _) f);have g:((o.set (w+i) (o.getD (w+i) 0 ||| (dg U x).getD i 0*2^b%U)).set (w+i+1) ((dg U x).getD i 0/2^(64-b))).getD (w+i+1) 0<2^b:=by rw [Oq O8,aF rfl];exact Zde O f
    have k:∀j,w+i+1<j->((o.set (w+i) (o.getD (w+i) 0 ||| (dg U x).getD i 0*2^b%U)).set (w+i+1) ((dg U x).getD i 0/2^(64-b))).getD j 0=0:=λj z=>by rw [Oq O8,aD O,Oq O,aD O];exact l j O
    have e:=F O;refine go 9 ⟨O,O,O,?_⟩;refine dt (Zj7 J J (n:=64-b) J O)<|dt (Yh 2 (w+i+1) J J J J (Yc pU) Qx Mw O (by simp only [cI];omega))<|tt (Lk 2 (enc:=Ot) J J J J J J pU J M.h O3 (by simp only [cI];omega)) (λ_ _=>?_);refine go 7 ⟨O,?_⟩;exact Yv (i+1,_) ⟨O1,O8,by dsimp only;rw [show w+(i+1)=w+i+1 by omega];exact g,λj z=>by have I:w+(i+1)<j:=z;dsimp only;exact k j O,c,e⟩ O1 K1 K1
   .obtain rfl:b=0:=O;have c:=Lu a (w+i) (o.getD (w+i) 0 ||| (dg U x).getD i 0*2^0%U) (jT (n:=64) (Qw Xf a _) (bR _ Xf));have g:(o.set (w+i) (o.getD (w+i) 0 ||| (dg U x).getD i 0*2^0%U)).getD (w+i+1) 0<2^0:=by rw [Oq O,aD O,l _ O];exact dO 0
    have k:∀j,w+i+1<j->(o.set (w+i) (o.getD (w+i) 0 ||| (dg U x).getD i 0*2^0%U)).getD j 0=0:=λj z=>by rw [Oq O,aD O];exact l j O
    have e:=F O;rw [show(dg U x).getD i 0/2^(64-0)=0 from dB f]at e;have h:=Zjy (o.set (w+i) (o.getD (w+i) 0 ||| (dg U x).getD i 0*2^0%U)) (w+i+1) (by rw [Oq O,aD O,l _ O]);rw [h]at e;refine go 7 ⟨O,?_⟩;exact Yv (i+1,_) ⟨O1,O8,by dsimp only;rw [show w+(i+1)=w+i+1 by omega];exact g,λj z=>by have I:w+(i+1)<j:=z;dsimp only;exact k j O,c,e⟩ O1 K1 K1
  .refine go 8 ?_;refine cl 2 [2] Pa λ_ _=>?_;refine Zo (Zh4 2 J J pU)<|go 4 ?_;obtain rfl:i=(dg U x).length:=O;have P:tz o=dg U (x*2^s):=by rw [<-Ec Xd _ a];congr 1;rw [Lo U o O,cK (aK _),Kk Xd,Zbo,cT,<-bK,show b+64*w=s by omega]at H;exact H
   exact Xc D _ results342 J aA (gow 2 Za P)
theorem Yhb{s:Nat}(S:bl x<=8589934592)(hs:s<=8589934592):Cal prog 345 #[v,.int .i64 (s:Int)] [Gs v x] false (G:=Value) (λr=>True) (λr=>r) (λr=>[Gs r (x/2^s)]):=by
 refine Zf func345 ntmps345 λW V H F=>?_;obtain⟨w,m⟩:∃w,w=s/64:=⟨_,rfl⟩;obtain⟨b,k⟩:∃b,b=s%64:=⟨_,rfl⟩;have R:=Oi x;have P:((dg U x).drop w).length=(dg U x).length-w:=eJ;refine go 8 ?_;refine dt (Zjc J J J)<|go 1 ?_;refine dt (Zlc J J J)<|go 6 ?_;refine Zl (Mx 5 (v':= .int .i64 (w:Int)) J (by congr 1;omega))<|Zl (Mx 6 (v':= .int .i64 (b:Int)) J (by congr 1;omega))<|go 7<|Zc J (λz=>?_) (λz=>?_)
 .refine go 7<|Zr (Nn 9 1 222 Ot) ?_;have I:x/2^s=0:=by rw [Bh m k,dB ((Xh Xd w x).1 O),Nat.zero_div]
  exact Xc F (.slice none 0 0) results345 J aA (gow 9 Za (by rw [I];rfl))
 .refine go 6 ?_;refine dt (d_suf (ii:=1) (i:=w) J J J J Zh Qx Mw O O)<|Zo (s_suf 1 2 w J J O)<|tt (Zlv 3 (Zyb (by simp only [eJ];omega)) J J J K1 call378 (Zx 2 J J J Zu) J H.h) λv _=>go 3 ?_;refine jn (G:=List Nat) [7] [0,1,2] (λo=>[]) (λo=>[(3,Pt 1 222 Ot v o)]) (λo=>(o.length=(dg U x).length-w)/\(∀j,j<o.length->o.getD j 0=x/2^s/U^j%U)) ?_ ?_
  .refine go 6<|Zc J (λB=>?_) (λB=>?_)
   .refine go 8 ?_;refine lp (G:=Nat×List Nat) [0,5,6,7,24] [0,1,2] (λq=>[(25,.int .i64 (q.1:Int))]) (λq=>[(3,Pt 1 222 Ot v q.2)]) (λq=>(q.1<=(dg U x).length-w)/\(q.2.length=(dg U x).length-w)/\(∀j,j<q.1->q.2.getD j 0=x/2^s/U^j%U)/\(∀j,q.1<=j->q.2.getD j 0=x/U^w/U^j%U)/\(∀d∈q.2,d<U)) (λq=>(dg U x).length-w-q.1) (0,(dg U x).drop w) ⟨bB _,O7,λj f=>absurd f (cN j),λj _=>Zvm x w j,λd N=>Iq Xd x d (kI N)⟩ K1 K1 ?_;rintro⟨i,o⟩ ⟨hi,u,p,l,a⟩;dsimp only at hi u p l a;dsimp only;refine go 6<|Zc J (λD=>?_) (λD=>?_)
    .refine go 17 ⟨O2,O2,?_⟩;refine dt (Zj7 J J (n:=b) J J)<|go 1 ⟨O2,?_⟩;refine tt (Lk 3 (enc:=Ot) J J J J J J pU J H.h O3 O2) (λ_ _=>?_);refine go 11 ⟨O,?_⟩;refine Zc J (λg=>?_) (λg=>?_)
     .simp only [cI]at g;have c:∀j,((o.set i (o.getD i 0/2^b)).set i ((o.set i (o.getD i 0/2^b)).getD i 0 ||| ((dg U x).getD (w+i+1) 0*2^(64-b))%U)).getD j 0=if i=j then x/2^s/U^i%U else o.getD j 0:=λj=>by
       rw [Oq O8,Oq O,Oq O];split
       .rw [aF rfl,l i (aK _),Ix Xd,Bh m k,Zqi,show x/U^(w+i+1)=x/U^w/U^i/U by rw [aX,aX,<-cC,<-bK];rfl,Zon _ _ O]
       .rfl
      have h:=Lu (Lu a i (o.getD i 0/2^b) (bA (fQ _ _) (Qw Xf a _))) i ((o.set i (o.getD i 0/2^b)).getD i 0 ||| ((dg U x).getD (w+i+1) 0*2^(64-b))%U) (jT (n:=64) (Qw Xf (Lu a _ _ (bA (fQ _ _) (Qw Xf a _))) _) (bR _ Xf));refine Qj (λ_=>False) [(0,0),(1,0),(2,0),(3,0),(4,0),(5,0),(6,0),(7,0),(8,0),(9,0),(10,0),(11,0),(12,0),(13,0),(14,0),(15,0),(16,3)]<|go 9 ⟨O2,O2,O,O,?_⟩;refine Xp J J (Qv (Yh 1 (w+i+1) J J J J Zh Qx Mw O O2))<|go 3 ⟨O2,O,?_⟩;refine Xp J J (Qv (Zj8 J J (n:=64-b) J O))<|Xp J J (Qv (Yfs J J J (Qw Xf (Lu a _ _ (bA (fQ _ _) (Qw Xf a _))) _) (bR _ Xf)))<|go 1 ⟨O2,?_⟩;refine r3' J (Lk 3 (enc:=Ot) J J J J J J pU J H.h O3 O2) (λ_ _=>?_);refine go 7 ⟨O,?_⟩;exact Yv (i+1,_) ⟨O1,O8,λj f=>by dsimp only;rw [c j];split;(· rename_i e;rw [<-e]);exact p j (by have:j<i+1:=f;omega),λj f=>by dsimp only;rw [c j,aD (by have:i+1<=j:=f;omega)];exact l j (by have:i+1<=j:=f;omega),h⟩ O1 K1 K1
     .have c:∀j,(o.set i (o.getD i 0/2^b)).getD j 0=if i=j then x/2^s/U^i%U else o.getD j 0:=λj=>by
       rw [Oq O];split
       .rw [l i (aK _),Bh m k,Zqi,Zw2 O];rw [aX,<-cC];exact dB (Zux (by simp only [cI]at g;omega))
       .rfl
      have h:=Lu a i (o.getD i 0/2^b) (bA (fQ _ _) (Qw Xf a _));refine go 7 ⟨O,?_⟩;exact Yv (i+1,_) ⟨O1,O8,λj f=>by dsimp only;rw [c j];split;(· rename_i e;rw [<-e]);exact p j (by have:j<i+1:=f;omega),λj f=>by dsimp only;rw [c j,aD (by have:i+1<=j:=f;omega)];exact l j (by have:i+1<=j:=f;omega),h⟩ O1 K1 K1
    .refine go 4 ?_;exact Hd _ ⟨O,by intro j f;rw [p j O]⟩ aA K1
   .refine go 1 ?_;exact Hd _ ⟨O7,by intro j f;rw [Zvm,Bh m k,show b=0 by omega,gT,Nat.div_one]⟩ aA K1
  .rintro o ⟨u,Q⟩;refine go 3 ?_;refine cl 3 [3] Pa λ_ _=>?_;refine Zo (Zh4 3 J J pU)<|go 4 ?_;have M:tz o=dg U (x/2^s):=Zrh Xd Q (by rw [u,Bh m k];exact bA (fQ _ _) (Zux O));exact Xc F _ results345 J aA (gow 3 Za M)
theorem Zk3(z:bl x<=4294967296:=by omega):Qp prog 223 #[v] [Gs v x] (.string (Xn x)):=by
 refine Zf func223 ntmps223 λD B h g=>?_;have u:=Oi x;have p:=Zsb x;have r:=lenU x;have m:(List.replicate (dg 256 x).length (0:Nat)).length=(dg 256 x).length:=aV;refine go 8 ?_;refine cl 1 [1] Zil λ_ _=>?_;refine go 1 ⟨O,?_⟩;refine dt (Zjc J J J)<|tt (Gt 2 ((dg 256 x).length) 1 (enc:=Zx1) 0 J J J J uT380 ti5 J pB.cells pB.pos J J J h.h) λv _=>go 12 ?_;refine lp (G:=Nat×List Nat) [0,3,12] [0,1] (λq=>[(13,.int .i64 (q.1:Int))]) (λq=>[(2,Pt 1 5 Zx1 v q.2)]) (λq=>(q.1<=(dg 256 x).length)/\(q.2.length=(dg 256 x).length)/\(∀j,j<q.1->q.2.getD j 0=x/256^((dg 256 x).length-1-j)%256)) (λq=>(dg 256 x).length-q.1) (0,List.replicate (dg 256 x).length 0) ⟨O1,O7,λj d=>absurd d (cN j)⟩ K1 K1 ?_;rintro⟨i,o⟩ ⟨hi,f,b⟩;dsimp only at hi f b;dsimp only;refine go 6<|Zc J (λc=>?_) (λc=>?_)
 .refine go 20 ⟨O,O,?_⟩;refine Zl (Mx 5 (v':= .int .i64 (((dg 256 x).length-1-i:Nat):Int)) J (by congr 1;omega)) ?_;have a:=Znp x ((dg 256 x).length-1-i);rw [<-Ix Xd]at a;refine go 5 ?_;refine dt (Zjc J J J)<|dt (Yh 1 (((dg 256 x).length-1-i)/8) J J J J Zh Qx Mw)<|go 2 ⟨O,?_⟩;refine dt (Zlc J J J)<|go 1 ⟨O,?_⟩;refine dt (Zj7 J J (n:=((dg 256 x).length-1-i)%8*8) J O)<|dt (Zex J J Bf uT5)<|go 1 ⟨O2,?_⟩;refine tt (Lk 2 (enc:=Zx1) J J J J J J pB J h.h O3 O2) (λ_ _=>?_);refine go 7 ⟨O,?_⟩;exact Yv (i+1,_) ⟨O1,O8,λj d=>by dsimp only;rw [Oq O];split;(· rename_i e;rw [<-e];exact a);exact b j O⟩ O1 K1 K1
 .refine go 8 ?_;refine dt (d_b2s J J (i:=2) J (Yc pB) uT380 uT9 uT5)<|go 4 ?_;have k:Xn x=⟨(o.map UInt8.ofNat).toArray⟩:=by
   have l:o=(dg 256 x).reverse:=by refine Zdc O8 (λj d=>?_);rw [b j O,Zmw O,Ix O]
   rw [l];rfl
  exact Xc g () results223 (by rw [k]) aA Za
theorem Zbr(H:bl x<=4294967296:=by omega):Cal prog 224 #[.string (Xn x)] [] false (G:=Value) (λr=>True) (λr=>r) (λr=>[Gs r x]):=by
 refine Zf func224 ntmps224 λM I b m=>?_;have F:=Oi x;have B:=Zsb x;have D:=lenU x;have p:=Fg x;refine go 10 ⟨O,?_⟩;refine dt (Zjc J J J)<|tt (Gt 1 ((dg U x).length) 8 (enc:=Ot) 0 J J J J Qx ti222 J pU.cells pU.pos J J J b.h) λv _=>go 12 ?_;refine lp (G:=Nat×List Nat) [0,3,12] [0] (λq=>[(13,.int .i64 (q.1:Int))]) (λq=>[(1,Pt 1 222 Ot v q.2)]) (λq=>(q.1<=(dg 256 x).length)/\(q.2.length=(dg U x).length)/\(∀w,w<q.2.length->q.2.getD w 0=hi x ((dg 256 x).length-q.1) w)) (λq=>(dg 256 x).length-q.1) (0,List.replicate (dg U x).length 0) ⟨O1,O7,λw b=>by dsimp only at *;rw [aV]at b;rw [Ge,hi_top O]⟩ K1 K1 ?_;rintro⟨i,o⟩ ⟨l,f,a⟩;dsimp only at l f a;dsimp only;refine go 6<|Zc J (λk=>?_) (λk=>?_)
 .refine go 20 ⟨O,O,?_⟩;refine Zl (Mx 5 (v':= .int .i64 (((dg 256 x).length-1-i:Nat):Int)) J (by congr 1;omega)) ?_;have c:=Zq3 x i O;have h:=a (((dg 256 x).length-1-i)/8) O;have d:o.getD (((dg 256 x).length-1-i)/8) 0<U:=by rw [h];exact bR _ Xf
  have g:∀w,w<o.length->(o.set (((dg 256 x).length-1-i)/8) (o.getD (((dg 256 x).length-1-i)/8) 0 ||| (((Xn x).data.toList.getD i 0).toNat*2^(((dg 256 x).length-1-i)%8*8))%U)).getD w 0=hi x ((dg 256 x).length-(i+1)) w:=λw b=>by
   rw [c,h,show(dg 256 x).length-i=(dg 256 x).length-1-i+1 by omega,Yh1,Oq O,show(dg 256 x).length-(i+1)=(dg 256 x).length-1-i by omega];split
   .rename_i e;rw [e]
   .rename_i e;rw [a w b,show(dg 256 x).length-i=(dg 256 x).length-1-i+1 by omega];exact Yce e
  refine Qj (λ_=>False) [(0,0),(1,0),(2,0),(3,0),(4,0),(5,0),(6,0),(7,0),(8,0),(9,0),(10,0),(11,0),(12,0),(13,0),(14,0),(15,3)]<|go 2 ?_;refine Xp J J (Qv (Zjc J J J))<|Xp J J (Qv (Yh 1 (((dg 256 x).length-1-i)/8) J J J J (Yc pU) Qx Mw))<|go 3 ⟨O2,?_⟩;refine Xp J J (Qv (Yds J J J uT9 J))<|Xp J J (Qv (Zsr J J uT5 Bf (by have:=(((Xn x).data.toList.getD i 0).toNat_lt);simp only [U];omega)))<|go 1 ?_;refine Xp J J (Qv (Zlc J J J))<|go 1 ⟨O,?_⟩;refine Xp J J (Qv (Zj8 J J (n:=((dg 256 x).length-1-i)%8*8) J O))<|Xp J J (Qv (Yfs J J J d (bR _ Xf)))<|Xp J J (Qv (Yh 1 (((dg 256 x).length-1-i)/8) J J J J (Yc pU) Qx Mw))<|r3' J (Lk 1 (enc:=Ot) J J J J J J pU J b.h O3 O2) (λ_ _=>?_);refine go 7 ⟨O,?_⟩;exact Yv (i+1,_) ⟨O1,O8,λw b=>g w (by simpa using b)⟩ O1 K1 K1
 .refine go 12 ?_;have z:o=dg U x:=Zdc f (λj u=>by rw [a j u,Ix Xd,Ycg O]);exact Xc m _ results224 J aA (gow 1 Za z)
theorem Zun(hx:bl x<=4000000000)(e2:bl y<=4000000000)(hy:0<y):Cal prog 285 #[v,w] [Gs v x,Gs w y] true (G:=Value×Value) (λr=>True) (λr=> .tuple #[r.1,r.2]) (λr=>[Gs r.1 (x/y),Gs r.2 (x%y)]):=by
 refine Zf func285 ntmps285 λw0 sc p S=>?_;have hX:=Oi x;have hY:=Oi y;refine go 11 ?_;refine cl 2 [1,2] (Za4 O O) λr hr=>go 3<|Zc J (λW=>?_) (λW=>?_)
 .have o:x<y:=hr.1.1 O;refine go 9<|Zr (Nn 9 1 222 Ot) ?_;exact Na S (.slice none 0 0,v) results285 J aA (gow 9 (Oz 1 Za (by rw [aW o])) (by rw [dB o];rfl))
 .have c6:y<=x:=by have:=hr.1;omega
  have e1:=Mj c6;refine go 10<|Zc J (λY=>?_) (λY=>?_)
  .have V:y<U:=by have:=(Xh Xd 1 y).1 O;simpa using this
   have m:(dg U y).getD 0 0=y:=by rw [Ix Xd];simp [aW V]
   refine go 6 ⟨O,O2,?_⟩;refine cl 3 [1] (Zxh O (by rw [m];exact hy) (by rw [m];exact V)) λv _=>go 11 ?_;refine tt (Xm [(0,_)] 4 (enc:=Ot) [x%(dg U y).getD 0 0] J J K2 Qx ti222 J J J J J pU.cells J J p.h) λe4 _=>cl 4 [4] Pa λ_ _=>?_;refine Zo (Zh4 4 J J pU)<|go 6 ?_;exact Na S (_,_) results285 J aA (Oz 3 (gow 4 Za (by rw [Ze8 (jF (bR _ (by rw [m];exact hy)) (by rw [m];exact V)),m])) (by rw [m]<;>rfl))
  .refine go 3 ?_;obtain⟨k,hk⟩:∃k,k=(dg U y).length:=⟨_,rfl⟩;have e0:k<=(dg U x).length:=O;obtain⟨b,hb⟩:∃b,b=64-bl ((dg U y).getD (k-1) 0):=⟨_,rfl⟩;obtain⟨b4,_,b3,a4,b1,H⟩:=Yg8 hy hk hb;obtain⟨D,c⟩:∃D,D=y*2^b:=⟨_,rfl⟩;have c7:(dg U D).length=k:=by rw [c];exact b4
   have a3:D<U^k:=by rw [c];exact a4
   have a2:U^(k-1)*9223372036854775808<=D:=by rw [c];exact H
   have l:0<D:=by rw [c];exact fU hy (dO b)
   have d9:bl D<=4000000064:=by rw [c,Zs7 hy];omega
   refine go 5 ⟨O,?_⟩;refine dt (Yh 2 ((dg U y).length-1) J J J J Zh Qx Mw)<|go 1 ⟨O2,?_⟩;refine cl 4 [] (Znt (Qw Xf (Iq Xd y) _)) λ_ _=>?_;refine Zo (Mx 44 (v':= .int .i64 (b:Int)) J (by rw [hb,hk]))<|go 3 ?_;refine jn (G:=Value×Value) [0,8] [0,1,2] (λq=>[(9,q.1),(10,q.2)]) (λq=>[(81,Gs q.1 D),(82,Pt 1 222 Ot q.2 (List.replicate ((dg U x).length+1) 0))]) (λq=>True) ?_ ?_
   .refine Da (λ_=>False) [8]<|Ya 4 [(0,0),(1,0),(3,0),(4,0),(5,0)]<|go 6 ⟨O,?_⟩;refine Ml 3 2 6 ?_ ?_
    .refine Hh (Zs 81 [2] Zml) λe5 _=>?_;refine Ya 0 [(7,0),(6,1),(8,3)]<|go 1 ?_;refine Eh J (Gt 82 ((dg U x).length+1) 8 (enc:=Ot) 0 J J J J Qx ti222 J pU.cells pU.pos J J J p.h) λe6 _=>go 2 ?_;exact Yu<|Hd (_,_) aA K2 ⟨by rw [c];rfl,rfl,aA⟩
    .refine Zaf J J (Gt 82 ((dg U x).length+1) 8 (enc:=Ot) 0 J J J J Qx ti222 J pU.cells pU.pos J J J p.h) (λe7 _=>?_);refine Ya 0 [(2,1),(7,0),(8,3)]<|Xq (Zs 81 [2] Zml) λe8 _=>go 3 ?_;exact Yu<|Hd (_,_) aA K2 ⟨by rw [c];rfl,rfl,aA⟩
   .rintro⟨vd,vr⟩ -;dsimp only;refine go 1 ?_;have c9:(dg U (x*2^b)).length<=(dg U x).length+1:=(Xh Xd _ _).2 (by rw [cC];exact iW ((Xh Xd _ x).1 (aK _)) (by rw [Ye8];exact dE O O) Xf);refine go 4 ?_;refine cl 5 [1] Zml λe9 _=>?_;refine tt (t_cpy 82 5 0 J J J J J J O3 J Zh Ydh (by rw [aV];exact c9) (by rw [aV];omega) (by rw [aV];omega) Qx pU J p.h) λ_ _=>go 3 ?_;have a6:(spl (List.replicate ((dg U x).length+1) 0) 0 (dg U (x*2^b))).length=(dg U x).length+1:=by rw [Lp (by rw [aV];omega),aV]
    refine go 7 ?_;have d4:(List.replicate ((dg U x).length+1-k) (0:Nat)).length=(dg U x).length+1-k:=aV;refine Zl (Mx 11 (v':= .int .i64 (k:Int)) J (by rw [c7]))<|go 5 ⟨O,?_⟩;refine tt (Gt 6 ((dg U x).length+1-k) 8 (enc:=Ot) 0 J J J J Qx ti222 J pU.cells pU.pos J J J p.h) (λd3 _=>?_);refine go 13 ⟨O,?_⟩;refine lp (G:=Nat×List Nat×List Nat) [8,9,10,11,12] [0,81,1,2,5] (λq=>[(13,.int .i64 ((q.1:Int)-1))]) (λq=>[(82,Pt 1 222 Ot vr q.2.1),(6,Pt 1 222 Ot d3 q.2.2)]) (λq=>(q.1<=(dg U x).length+1-k)/\(q.2.1.length=(dg U x).length+1)/\(∀d∈q.2.1,d<U)/\(q.2.2.length=(dg U x).length+1-k)/\(∀d∈q.2.2,d<U)/\(val U q.2.1<D*U^q.1)/\(val U (q.2.2.drop q.1)*U^q.1*D+val U q.2.1=x*2^b)) (λq=>q.1) ((dg U x).length+1-k,spl (List.replicate ((dg U x).length+1) 0) 0 (dg U (x*2^b)),List.replicate ((dg U x).length+1-k) 0) ⟨aK _,a6,Znx (Nq Xf) (Iq Xd _) 0,O7,Nq Xf,by rw [Zn8,Kk Xd];exact Ydk ((Xh Xd _ x).1 (aK _)) b1 b3 O a2,by rw [Zn8,Kk Xd];simp [val]⟩ ⟨by rw [aV];rfl,aA⟩ K2 ?_;rintro⟨a,R,q⟩ ⟨hj,a7,e,d0,Q,M,hN⟩;dsimp only at hj a7 e d0 Q M hN;dsimp only;refine go 7<|Zc J (λZ=>?_) (λZ=>?_)
    .refine go 5 ?_;have P:val U R<U^(a-1+k+1):=by refine cZ M ?_;rw [show a-1+k+1=k+a by omega,bK];exact aM _ (eP a3)
     have u:tz ((R.drop (a-1)).take (a-1+k+1-(a-1)))=dg U (val U R/U^(a-1)):=Yfj e O (by rw [show a-1+(a-1+k+1-(a-1))=a-1+k+1 by omega];exact P);have a9:val U R/U^(a-1)<D*U:=by rw [cF (bQ Xf),cT,<-nD,show(a-1).succ=a by omega];exact M
     have b0:bl (val U R/U^(a-1))<=4294967296:=by have h1:=Mj (eP a9);have h2:=Zs8 D U;have h3:bl U<=65:=(Qg 65 U).2 (by simp [U]);omega
     have b7:=Yfv e (j:=a-1) b3 P O;have b9:(dg U D).getD (k-1) 0*U^(k-1)<=D:=by rw [Ix Xd];exact aB (aM _ (Nat.mod_le _ _)) (Nat.div_mul_le_self _ _)
     have c2:val U R/U^(a-1)/D<=18446744073709551615:=by have:=(cF l).2 (show _<U*D by rw [aR];exact a9);simp only [U]at this ⊢;omega
     refine go 4 ?_;refine jn (G:=Nat) [8,9,10,11,12,13] [0,82,6,81,1,2,5] (λg=>[(14,.int .u64 (g:Int))]) (λg=>[]) (λg=>(val U R/U^(a-1)/D<=g)/\(g<U)) ?_ ?_
     .refine go 1<|Qj (λ_=>False) [(0,0),(1,0),(2,0),(3,0),(4,0),(5,0),(6,0),(7,0),(8,0),(9,0),(10,0),(11,0)]<|go 4 ⟨O,?_⟩;refine Xp J J (Qv (Yh 82 (a-1+k) J J J J (Yc pU) Qx Mw))<|go 4 ⟨O2,O,?_⟩;refine Xp J J (Qv (Yh 81 (k-1) J J J J Zh Qx Mw))<|go 4 ⟨O2,?_⟩;refine Zc J (λa0=>?_) (λa0=>?_)
      .refine Qj (λ_=>False) [(0,0),(1,0),(2,0),(3,0),(4,0),(5,0),(6,0),(7,0),(8,0),(9,0),(10,0),(11,0),(12,0),(13,0),(14,0),(15,0),(16,0),(17,0),(18,1),(19,0),(20,0),(21,0),(22,0)]<|go 4 ⟨O,?_⟩;refine Xp J J (Qv (Yh 82 (a-1+k) J J J J (Yc pU) Qx Mw))<|go 6 ⟨O2,O,O,?_⟩;refine Xp J J (Qv (Yh 82 (a-1+k-1) J J J J (Yc pU) Qx Mw))<|go 4 ⟨O2,O,?_⟩;refine Xp J J (Qv (Yh 81 (k-1) J J J J Zh Qx Mw))<|go 1 ⟨O2,?_⟩;refine Xq (Zs 6 [] (Zq5 (Qw Xf e _) (Qw Xf (Iq Xd _) _) O)) λ_ _=>go 5 ?_;exact Hd _ ⟨Ych b9 O b7,Zqg (Qw Xf e _) O⟩ K1 aA
      .refine go 1 ?_;exact Hd 18446744073709551615 ⟨c2,O3⟩ K1 aA
     .rintro g ⟨hg,f⟩;refine go 8 ⟨O,O,?_⟩;refine dt (d_mid (ii:=82) (i:=a-1) (j:=a-1+k+1) J J J J J (Yc pU) Qx Mw O O O O)<|go 7 ?_;refine tt (Xm [(0,_)] 7 (enc:=Ot) [g] J J K2 Qx ti222 J J J J J pU.cells J J p.h) λf0 _=>cl 7 [7] Pa λ_ _=>?_;refine Zo (Zh4 7 J J pU)<|Zo (Zz8 7 (Ze8 f) J J)<|cl 83 [81,7] (Zum O (aB ((Qg 64 g).2 f) O)) λd5 _=>go 5 ?_;refine lp (G:=Nat×Value) [8,9,10,11,12,13,15] [0,82,6,81,1,2,5,7] (λq=>[(14,.int .u64 (q.1:Int)),(16,q.2)]) (λq=>[(83,Gs q.2 (D*q.1))]) (λq=>(val U R/U^(a-1)/D<=q.1)/\(q.1<U)) (λq=>q.1) (g,_) ⟨O1,O1⟩ ⟨J,J,aA⟩ ⟨J,aA⟩ ?_;rintro⟨g,vp⟩ ⟨hg,f⟩;dsimp only at hg f;dsimp only;have a5:bl (D*g)<=4294967296:=by have h1:=Zs8 D g;have h2:=(Qg 64 g).2 f;omega
      refine go 4 ?_;refine tt (Ea 7 Pa J J J K1 call147 (Zbv 82 J J pU (Zg0 (a-1) (a-1+k+1)) Zhe Zu) J p.h) λ_ _=>go 1 ?_;refine tt (Ea 7 (Za4 b0 a5) J J J K2 call279 (Zbv 82 J J pU (Yaf u (by rw [u]) (Zg0 (a-1) (a-1+k+1))) (by rw [Ik];exact(Zhe)) (Zx 83 J J J Zu)) J p.h) λe3 B=>go 3 ?_;refine Zc J (λa1=>?_) (λa1=>?_)
      .have o:val U R/U^(a-1)<D*g:=B.1.1 O;have b2:1<=g:=by rcases aZ g with h|h;(rw [h,nS]at o;exact absurd o (cN _));exact h
       have b8:D<=D*g:=eK _ b2;have c3:val U R/U^(a-1)/D<=g-1:=by have:=(cF l).2 (show _<g*D by rw [aR];exact o);omega
       refine go 6 ?_;refine dt (Zcf (n:=1) J J J)<|go 3 ?_;refine Zl (Mx 14 (v':= .int .u64 ((g-1:Nat):Int)) J (Ah (Zqo b2 f)))<|go 3 ?_;refine cl 8 [83,81] (Zeg a5 b8) λd6 _=>go 3<|Zr (Nt 8 83 J J J) ?_;exact Yv (g-1,_) ⟨c3,by dsimp only;omega⟩ O1 K2 ⟨by rw [Nat.mul_sub_one];rfl,aA⟩
      .refine go 6 ?_;have hQ:g=val U R/U^(a-1)/D:=by have h1:=B.1;have h2:D*g<=val U R/U^(a-1):=O;exact jL ((kA l).2 (by rw [aR];exact h2)) hg
       refine go 2 ?_;refine tt (Ea 8 Pa J J J K1 call147 (Zbv 82 J J pU (Zg0 (a-1) (a-1+k+1)) Zhe Zu) J p.h) λ_ _=>go 1 ?_;refine tt (Ea 9 (Zeg b0) J J J K2 call280 (Zbv 82 J J pU (Yaf u (by rw [u]) (Zg0 (a-1) (a-1+k+1))) (by rw [Ik];exact(Zhe)) (Zx 83 J J J Zu)) J p.h) λd7 _=>go 4 ?_;have b5:(dg U (val U R/U^(a-1)-D*g)).length<=a-1+k+1-(a-1):=by
        have:val U R/U^(a-1)-D*g<D:=by rw [hQ];have h3:=cM (val U R/U^(a-1)) D;have h4:=bR (val U R/U^(a-1)) l;omega
        have:=(Xh Xd k _).2 (jF this a3);omega
       refine go 2 ?_;refine tt (t_clr (zv:= .bool false) (i:=82) (z:=0) (a-1) J J J J O3 (Zvk O) O O Qx pU (λw=>zeroValue222 w) J J p.h) λ_ _=>go 6 ?_;refine tt (t_cpy 82 9 (a-1) J J J J J J O3 J Zh (Zvk (by rw [Lp (by rw [aV];omega)];omega)) b5 (by rw [Lp (by rw [aV];omega)];omega) (by rw [Lp (by rw [aV];omega)];omega) Qx pU J p.h) λ_ _=>go 2 ?_;have c0:a-1+(List.replicate (a-1+k+1-(a-1)) 0).length<=R.length:=by rw [aV];omega
       have c8:=Lp (xs:=R) (lo:=a-1) c0;have c1:a-1+(dg U (val U R/U^(a-1)-D*g)).length<=(spl R (a-1) (List.replicate (a-1+k+1-(a-1)) 0)).length:=O;have F:=Yfr e (j:=a-1) (n:=a-1+k+1-(a-1)) O (by rw [show a-1+(a-1+k+1-(a-1))=a-1+k+1 by omega];exact P) b5;rw [Kk Xd]at F;have b6:=Ydj (j:=a-1) (N:=x*2^b) (Vq:=val U (q.drop a)) l hQ (by rw [show a-1+1=a by omega];exact hN);have a8:=b6.1;have I:=b6.2;rw [<-F]at a8 I;have c5:val U ((q.set (a-1) g).drop (a-1))=g+U*val U (q.drop a):=by rw [drop_set O,show a-1+1=a by omega];rfl
       rw [<-c5]at I;refine go 4 ?_;refine dt (Yh 6 (a-1) J J J J (Yc pU) Qx Mw)<|tt (Lk 6 (enc:=Ot) J J J J J J pU J p.h O3 O2) (λ_ _=>?_);refine go 8 ⟨O,?_⟩;exact Yv (a-1,_,_) ⟨O1,(Lp c1).trans (c8.trans a7),Znx (Znx e (Nq Xf) _) (Iq Xd _) _,O8,Lu Q _ _ f,a8,I⟩ O1 ⟨by rw [show(((a-1:Nat):Int)-1)=(a:Int)-1-1 by omega];rfl,aA⟩ K2
    .refine go 6 ?_;obtain rfl:a=0:=O;rw [gT,jQ]at M;have c4:bl (val U R)<=8589934592:=by have:=Mj (eP M);omega
     refine go 2 ?_;refine cl 9 [6] Pa λ_ _=>?_;refine Zo (Zh4 6 J J pU)<|go 1 ?_;refine cl 9 [82] Pa λ_ _=>?_;refine Zo (Zh4 82 J J pU)<|Zo (Zz8 82 (Ec Xd R e).symm J J)<|go 1 ?_;refine cl 10 [82] (Yhb c4 O) λd8 _=>go 5 ?_;rw [lI,gT,jQ]at hN;have d1:tz q=dg U (x/y):=by rw [<-Ec Xd _ Q,<-Zkm x y b,<-c,<-hN,aR,gQ l,dB M,fK]
     have d2:val U R/2^b=x%y:=by rw [<-Zkl x y b,<-c,<-hN,aR,iM,aW M]
     exact Na S (_,_) results285 J aA (gow 6 (Oz 10 Za (by rw [d2])) d1)
theorem Zmm(l:bl x<=4000000000:=by omega)(m:bl y<=4000000000:=by omega):Cal prog 277 #[v,w] [Gs v x,Gs w y] true (G:=Value) (λr=>True) (λr=>r) (λr=>[Gs r (Nat.gcd x y)]):=by
 refine Zf func277 ntmps277 λD u p j=>?_;have n:=Oi x;have o:=Oi y;refine go 7<|Zl (Nt 1 91 J J J)<|Zl (Nt 2 92 J J J) ?_;refine lp (G:=Value×Value×Nat×Nat) [] [0,1,2] (λq=>[(0,q.1),(1,q.2.1)]) (λq=>[(91,Gs q.1 q.2.2.1),(92,Gs q.2.1 q.2.2.2)]) (λq=>(Nat.gcd q.2.2.1 q.2.2.2=Nat.gcd x y)/\(bl q.2.2.1<=4000000000)/\(bl q.2.2.2<=4000000000)) (λq=>q.2.2.2) (v,w,x,y) ⟨J,l,m⟩ K2 K2 ?_;rintro⟨z,B,a,b⟩ ⟨i,k,f⟩;dsimp only at i k f;dsimp only;refine go 8<|Zc J (λd=>?_) (λd=>?_)
 .have c:0<b:=by rcases aZ b with h|h;(subst h;simp [Gi]at d);exact h
  refine go 7 ?_;refine cl 3 [91,92] (Zun k f c) λg _=>go 14 ?_;have e:a%b<b:=bR _ c;exact Zr (Nt 92 91 J J J)<|Zr (Nt 4 92 J J J)<|Yv (_,_,b,a%b) ⟨by dsimp only;rw [<-i,Nat.gcd_comm b,<-Nat.gcd_rec,Nat.gcd_comm],f,aB (Mj (eP e)) f⟩ e K2 K2
 .have c:b=0:=(Og Xd b).1 O;refine go 12 ?_;exact Xc j _ results277 J aA (Oz 91 Za (by rw [<-i,c,Nat.gcd_zero_right]))
theorem Zmj{x:Int}(hs:sg s x):Cal prog 212 #[.agg #[.bool s,v]] [Gs v x.natAbs] true (G:=Bool×Value) (λr=>sg r.1 (-x)) (λr=> .agg #[.bool r.1,r.2]) (λr=>[Gs r.2 (-x).natAbs]):=by refine Zf func212 ntmps212 λg f e c=>go 2 ?_;refine Ym (Yj 2) λb _=>Ym (Yd 3) λd _=>go 9 ?_;refine dt (Xv [(0,_),(1,_)] J K4 (λa w hs=>Lb ((Ze J) a w hs) ((Qm 1 J Zh) a w hs)))<|go 4 ?_;exact Xc c (!s,v) results212 J (sg_neg hs) (Oz 1 Za (by rw [iF]))
theorem Zb1{x y:Int}(hs:sg s x)(f:sg t y)(g:bl x.natAbs<=4294967296:=by omega)(h:bl y.natAbs<=4294967296:=by omega):Cal prog 340 #[.agg #[.bool s,v],.agg #[.bool t,w]] [Gs v x.natAbs,Gs w y.natAbs] true (G:=Bool×Value) (λr=>sg r.1 (x*y)) (λr=> .agg #[.bool r.1,r.2]) (λr=>[Gs r.2 (x*y).natAbs]):=by refine Zf func340 ntmps340 λk j i c=>go 2 ?_;refine Ym (Yj 3) λb _=>Ym (Yj 4) λd _=>Ym (Yd 5) λe _=>go 3<|Qj (λ_=>False) [(0,0),(1,0),(2,0),(3,0),(4,0),(5,0),(6,0),(7,0),(8,0),(9,1),(10,0),(11,3)]<|go 9<|Xq (Zs 6 [1,2] (Zum g h)) λv _=>?_;refine Xp J J (Qv (Xv [(0,_),(1,_)] J K4 (λa w hs=>Lb ((Ze J) a w hs) ((Qm 6 J Zh) a w hs))))<|go 4 ?_;exact Xc c (_,_) results340 J (sg_mul hs f) (Oz 6 Za (by rw [cJ]))
theorem Zii{x:Int}(hs:sg s x)(g:bl x.natAbs<=4294967296:=by omega):Cal prog 213 #[.agg #[.bool s,v]] [Gs v x.natAbs] true (G:=Unit) (λ_=>True) (λ_=> .int .i64 x.sign) (λ_=>[]):=by
 refine Zf func213 ntmps213 λi h f d=>?_;have e:=Oi x.natAbs;refine go 2<|Ym (Yj 2) λb _=>go 14<|Zc J (λa=>?_) (λa=>?_)
 .refine go 8 ?_;exact Xc d () results213 (Zw1 a) aA Za
 .refine go 7<|Pr J (λc=>?_) (λc=>?_)
  .refine go 8 ?_;exact Xc d () results213 (Zzw hs c a) aA Za
  .refine go 9 ?_;exact Xc d () results213 (Zzv hs c a) aA Za
theorem Zef{x y:Int}(hs:sg s x)(g:sg t y)(i:bl x.natAbs<=4294967296:=by omega)(j:bl y.natAbs<=4294967296:=by omega):Cal prog 211 #[.agg #[.bool s,v],.agg #[.bool t,w]] [Gs v x.natAbs,Gs w y.natAbs] true (G:=Bool×Value) (λr=>sg r.1 (x+y)) (λr=> .agg #[.bool r.1,r.2]) (λr=>[Gs r.2 (x+y).natAbs]):=by
 refine Zf func211 ntmps211 λu q p f=>go 2 ?_;refine Ym (Yj 3) λb _=>Ym (Yj 4) λl _=>Ym (Yd 5) λm _=>go 14<|Pr J (λd=>?_) (λd=>?_)
 .have c:s=t:=by simpa using d
  refine go 1<|Qj (λ_=>False) [(0,0),(1,0),(2,0),(3,0),(4,0),(5,0),(6,1),(7,0),(8,3)]<|go 6<|Xq (Zs 6 [1,2] (Zuo i j)) λv _=>?_;refine Xp J J (Qv (Xv [(0,_),(1,_)] J K4 (λa w hs=>Lb ((Ze J) a w hs) ((Qm 6 J Zh) a w hs))))<|go 6 ?_;exact Xc f (_,_) results211 J (Ygc hs (c▸g)) (Oz 6 Za (by rw [Ye4 hs (c▸g)]))
 .have c:s≠t:=by simpa using d
  refine go 6 ?_;refine cl 6 [1,2] (Za4 i j) λr k=>go 4<|Zc J (λh=>?_) (λh=>?_)
  .have e:y.natAbs<=x.natAbs:=by have:=k.1;omega
   refine go 1<|Qj (λ_=>False) [(0,0),(1,0),(2,0),(3,0),(4,0),(5,0),(6,1),(7,0),(8,3)]<|go 6<|Xq (Zs 7 [1,2] (Zeg i)) λn _=>?_;refine Xp J J (Qv (Xv [(0,_),(1,_)] J K4 (λa w hs=>Lb ((Ze J) a w hs) ((Qm 7 J Zh) a w hs))))<|go 6 ?_;exact Xc f (_,_) results211 J (Zty hs g c e) (Oz 7 Za (by rw [Zrd hs g c e]))
  .have e:x.natAbs<=y.natAbs:=by have:=k.1;omega
   refine go 4<|Qj (λ_=>False) [(0,0),(1,0),(2,0),(3,0),(4,0),(5,0),(6,1),(7,0),(8,3)]<|go 6<|Xq (Zs 8 [2,1] (Zeg j)) λo _=>?_;refine Xp J J (Qv (Xv [(0,_),(1,_)] J K4 (λa w hs=>Lb ((Ze J) a w hs) ((Qm 8 J Zh) a w hs))))<|go 4 ?_;exact Xc f (_,_) results211 J (by rw [mC];exact Zty g hs (gR c) e) (Oz 8 Za (by rw [mC,Zrd g hs (gR c) e]))
theorem Pm{x:Int}(hs:sg s x)(e:bl x.natAbs<=4294967296:=by omega):Cal prog 153 #[.agg #[.bool s,.string (Xn x.natAbs)]] [] true (G:=Bool×Value) (λr=>sg r.1 x) (λr=> .agg #[.bool r.1,r.2]) (λr=>[Gs r.2 x.natAbs]):=by refine Zf func153 ntmps153 λh g f c=>go 2 ?_;refine Ym (Yj 1) λb _=>Ym (Yd 2) λd _=>go 3<|Qj (λ_=>False) [(0,0),(1,0),(2,0),(3,0),(4,1),(5,0),(6,3)]<|go 4<|Xq (Zs 3 [] (Zbr e)) λv _=>?_;refine Xp J J (Qv (Xv [(0,_),(1,_)] J K4 (λa w hs=>Lb ((Ze J) a w hs) ((Qm 3 J Zh) a w hs))))<|go 4 ?_;exact Xc c (_,_) results153 J hs (Oz 3 Za J)
theorem Ks{x:Int}(hs:sg s x)(g:bl x.natAbs<=4294967296:=by omega):Qp prog 148 #[.agg #[.bool s,v]] [Gs v x.natAbs] (Zam x):=by
 refine Zf func148 ntmps148 λi h f d=>go 2 ?_;refine Ym (Yj 2) λb _=>Ym (Yd 3) λe _=>go 8 ?_;refine cl 3 [1] Zil λ_ _=>go 3<|Zc J (λc=>?_) (λc=>?_)
 .refine go 2 ?_;refine dt (Xv [] J aA (λa w hs=>Yev))<|go 6 ?_;exact Na d () results148 (Zwp c) aA Za
 .refine go 3 ?_;cases s
  .refine Qj (λ_=>False) [(0,0),(1,0),(2,0),(3,2),(4,2),(5,2),(6,2),(7,0),(8,0),(9,0),(10,1),(11,0),(12,3),(13,3)]<|go 10<|Xq (Zs 3 [1] Zk3) λ_ _=>?_;refine Xp J J (Qv (Xv [(0,_),(1,_)] J K4 (λa w hs=>Zwj ((Ze J) a w hs) ((Ze J) a w hs))))<|go 5 ?_;exact Na d () results148 (by first|exact Zn2 hs c|exact Zn1 hs c) aA Za
  .refine Qj (λ_=>False) [(0,0),(1,0),(2,0),(3,0),(4,0),(5,0),(6,0),(7,0),(8,0),(9,0),(10,1),(11,0),(12,3),(13,3)]<|go 10<|Xq (Zs 3 [1] Zk3) λ_ _=>?_;refine Xp J J (Qv (Xv [(0,_),(1,_)] J K4 (λa w hs=>Zwj ((Ze J) a w hs) ((Ze J) a w hs))))<|go 5 ?_;exact Na d () results148 (by first|exact Zn2 hs c|exact Zn1 hs c) aA Za
theorem Zee(x y:Int)(hs:sg s x)(m:sg t y)(M:bl y.natAbs<=3000000000)(i:y≠0)(I:bl x.natAbs<=3000000000:=by omega):Cal prog 225 #[.agg #[.bool s,v],.agg #[.bool t,w]] [Gs v x.natAbs,Gs w y.natAbs] true (G:=Bool×Value×Value) (λr=>sg r.1 (x/y)) (λr=> .tuple #[.agg #[.bool r.1,r.2.1],.agg #[.bool false,r.2.2]]) (λr=>[Gs r.2.1 (x/y).natAbs,Gs r.2.2 (x%y).natAbs]):=by
 refine Zf func225 ntmps225 λP N z f=>?_;have F:=Oi x.natAbs;have H:=Oi y.natAbs;have j:0<y.natAbs:=O;have l:x.natAbs%y.natAbs<y.natAbs:=bR _ j;have u:=Mj (eP l);have q:=Mj (fQ x.natAbs y.natAbs);refine go 2<|Ym (Yj 3) λb _=>Ym (Yj 4) λn _=>Ym (Yd 5) λo _=>Ym (Yd 6) λp _=>go 8 ?_;refine cl 7 [1,2] (Zun O O j) λg _=>go 13<|Nv 18 J (λe=>?_) (λe=>?_)
 .refine go 6<|Zc J (λc=>?_) (λc=>?_)
  .subst e;have k:0<x.natAbs%y.natAbs:=by rcases aZ (x.natAbs%y.natAbs)with h|h;(rw [h]at c;simp [Gi]at c);exact h
   have d:=divA hs m i k;refine Qj (λ_=>False) [(0,0),(3,0),(4,0),(5,0),(1,1),(2,1),(6,1),(7,0),(8,3)]<|go 4 ?_;refine Eh J (Xm [(0,_)] 9 (enc:=Ot) (dg U 1) J J K2 Qx ti222 J J J J J pU.cells J J z.h) λv _=>Xq (Zs 10 [7,9] (Zuo O (show bl 1<=4294967296 by decide))) λB _=>Xq (Zs 11 [2,8] (Zeg O)) λD _=>go 12 ?_;refine dt (Xv [(0,_),(1,_)] J K4 (λa w hs=>Lb ((Ze J) a w hs) ((Qm 10 J Zh) a w hs)))<|go 1 ?_;refine dt (Xv [(0,_),(1,_)] J K4 (λa w hs=>Lb ((Ze J) a w hs) ((Qm 11 J Zh) a w hs)))<|go 5 ?_;exact Na f (_,_,_) results225 J d.1 (Oz 10 (Oz 11 Za (by rw [d.2.2]<;>rfl)) (by rw [d.2.1]<;>rfl))
  .have d:=divB hs m i (.inr ((Og Xd _).1 O));refine go 10 ?_;refine dt (Xv [(0,_),(1,_)] J K4 (λa w hs=>Lb ((Ze J) a w hs) ((Qm 7 J Zh) a w hs)))<|go 1 ?_;refine dt (Xv [(0,_),(1,_)] J K4 (λa w hs=>Lb ((Ze J) a w hs) ((Qm 8 J Zh) a w hs)))<|go 5 ?_;exact Na f (_,_,_) results225 J d.1 (Oz 7 (Oz 8 Za (by rw [d.2.2]<;>rfl)) (by rw [d.2.1]<;>rfl))
 .have d:=divB hs m i (.inl e);refine go 17 ?_;refine dt (Xv [(0,_),(1,_)] J K4 (λa w hs=>Lb ((Ze J) a w hs) ((Qm 7 J Zh) a w hs)))<|go 1 ?_;refine dt (Xv [(0,_),(1,_)] J K4 (λa w hs=>Lb ((Ze J) a w hs) ((Qm 8 J Zh) a w hs)))<|go 5 ?_;exact Na f (_,_,_) results225 J d.1 (Oz 7 (Oz 8 Za (by rw [d.2.2]<;>rfl)) (by rw [d.2.1]<;>rfl))
variable {P:Program} {N:Nat} {sc:Nat->Prop} {M:Nat->Prop} {env:Xz} {H:Hp} {Q:Exit->Act->World->Prop}
structure BAct (i:Nat) (A:Prop):Prop where h:A
def bq(i:Nat){A:Prop}(h:A):BAct i A:=⟨h⟩
theorem Zwn {l:List Oper}  {n:Nat}  (i k:Nat) (a:(Region.noSelect l.toArray && Hz l.toArray ts [(i,k)] listed)=true)
  (h:LD P N sc M l.toArray (A P N sc M l.toArray ts Q n (Fv [(i,k)] listed)) [(i,k)] env H):A P N sc M l.toArray ts Q (n+1) listed env H:=
 Ya _ [(i,k)] h (by rw [a,lW];show Nat.beq (1+n) (n+1)=true;rw [iL];exact Nat.beq_refl _)
theorem Zyn    {n:Nat} (i:Nat) (c:((Region.ready .any ops listed == [i]) && !(Iy ops ts listed) && !([i]:List Nat).isEmpty)=true)
  (a:BAct i (Zdj P N sc M ops ts Q n listed env H i)):A P N sc M ops ts Q (n+1) listed env H:=Ye7 [i] c λq b=>by
 rw [bZ.1 b];exact a.h
theorem Ztf    {n:Nat} (i j:Nat) (d:((Region.ready .any ops listed == [i,j]) && !(Iy ops ts listed) && !([i,j]:List Nat).isEmpty)=true)
  (b:BAct i (Zdj P N sc M ops ts Q n listed env H i)) (c:BAct j (Zdj P N sc M ops ts Q n listed env H j)):A P N sc M ops ts Q (n+1) listed env H:=Ye7 [i,j] d λq a=>by
 simp only [bG,dU,iD]at a;rcases a with rfl|rfl
 .exact b.h
 .exact c.h
theorem a_b3    {n:Nat} (i j k:Nat) (e:((Region.ready .any ops listed == [i,j,k]) && !(Iy ops ts listed) && !([i,j,k]:List Nat).isEmpty)=true)
  (b:BAct i (Zdj P N sc M ops ts Q n listed env H i)) (c:BAct j (Zdj P N sc M ops ts Q n listed env H j)) (d:BAct k (Zdj P N sc M ops ts Q n listed env H k)):A P N sc M ops ts Q (n+1) listed env H:=Ye7 [i,j,k] e λq a=>by
 simp only [bG,dU,iD]at a;rcases a with rfl|rfl|rfl
 .exact b.h
 .exact c.h
 .exact d.h
end Go.Sky

