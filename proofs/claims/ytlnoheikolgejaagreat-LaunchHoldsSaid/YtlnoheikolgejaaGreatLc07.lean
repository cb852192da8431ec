/- Rules, arithmetic and contracts: part 8. No conditions but those that each theorem names. -/
import Derived.Test.YtlnoheikolgejaaGreatLc06
set_option linter.all false
set_option maxHeartbeats 4000000
namespace Go.Sky
variable {P:Program} {N:Nat} {sc:Nat->Prop} {env env':Px} {H H' H0:Hp} {Q Q':Exit->Act->World->Prop} {M:Nat->Prop}
@[reducible] def drp2:Nat->Hp->Hp
 | _,[]=>[]
 | k,(i,p)::r=>match Nat.beq i k with
  | true=>drp2 k r
  | false=>(i,p)::drp2 k r
theorem Ycx:∀(k:Nat) (H:Hp),drp2 k H=drp k H
 | _,[]=>rfl
 | k,(i,p)::r=>by unfold drp2 drp;cases Nat.beq i k<;>simp [Ycx k r]
@[reducible] def anyb:List Nat->Nat->Bool
 | [],_=>false
 | k::r,i=>match Nat.beq i k with
  | true=>true
  | false=>anyb r i
theorem Zth:∀(a:List Nat) (i:Nat),anyb a i=a.any (Nat.beq i)
 | [],_=>rfl
 | k::r,i=>by unfold anyb;rw [List.any_cons,<-Zth r i];cases Nat.beq i k<;>rfl
@[reducible] def rst2 (a:List Nat):Hp->Hp
 | []=>[]
 | (i,p)::r=>match anyb a i with
  | true=>(i,p)::rst2 a r
  | false=>rst2 a r
theorem Yav(a:List Nat):∀H:Hp,rst2 a H=rst a H
 | []=>rfl
 | (i,p)::r=>by unfold rst2 rst;rw [<-Zth];cases anyb a i<;>simp [Yav a r]
class AgI (H0 H:Hp) (ks:List Nat):Prop where h:Agr H0 H ks
instance:AgI H0 H []:=⟨aA⟩
instance {k:Nat} {ks:List Nat} {p:Pc} [h1:Som (lk2 H k) p] [h2:Som (lk2 H0 k) p] [h:AgI H0 H ks]:AgI H0 H (k::ks):=⟨⟨h1.l.trans h2.l.symm,h.h⟩⟩
class StI (P:Program) (N:Nat) (sc:Nat->Prop) (M:Nat->Prop) (op:Go.Op) (env:Px) (H:Hp) (v:outParam Value) (s:outParam Prop):Prop where
 h:s->∀{d:Option Tmp} {ty:TypeId} {pos:String} {af:Array Edge} {g:Option (Nat×Bool)},Stb P N sc M ⟨d,op,ty,pos,af,g⟩ env H v
section
variable {op:Go.Op} {v:Value} {s:Prop} {k b:Nat} {t:TypeId} {l:List Value} {ks:List Nat}
instance [h:DI P N sc op env H v s]:StI P N sc (λ_=>False) op env H v s:=⟨λhs=>Xn (h.h hs)⟩
instance [hb:BxI H b k t l] [h:DI P N sc op env (drp2 k H) v s]:StI P N sc (λx=>x=b) op env H v s:=⟨λhs=>st1 k hb.h (by rw [<-Ycx];exact h.h hs)⟩
instance [ha:AgI H0 H ks] [h:DI P N sc op env (rst2 ks H) v s]:StI P N sc (Off H0 ks) op env H v s:=⟨λhs=>Ko (by rw [<-Yav];exact h.h hs) ha.h⟩
end
class MI (M:Nat->Prop) (b:Nat):Prop where h:M b
class MS (N:Nat) (sc:Nat->Prop) (M:Nat->Prop) (env:Px) (H:Hp) (b:Nat):Prop where h:∀a w,Sat N sc env H a w->M b
instance {b:Nat} : MS N sc (λ_=>True) env H b:=⟨λ_ _ _=>trivial⟩
instance {b:Nat} : MS N sc (λx=>x=b) env H b:=⟨λ_ _ _=>rfl⟩
instance {b:Nat} [h:MI M b]:MS N sc M env H b:=⟨λ_ _ _=>h.h⟩
@[reducible] def nin (ks:List Nat) (i:Nat):Bool:=match anyb ks i with
 | true=>false
 | false=>true
instance (priority:=low) {b i:Nat} {t:TypeId} {l:List Value} {ks:List Nat} [hb:BxI H b i t l] [hn:TB (nin ks i)] [ha:AgI H0 H ks]:MS N sc (Off H0 ks) env H b:=⟨λa w hs=>λk hk p hp hf=>by
 rw [<-ha.h.mem k hk]at hp;have hne:i≠k:=λe=>by
  subst e;have h1:=hn.h;unfold nin at h1;rw [Zth]at h1;cases h2:ks.any (Nat.beq i)with
  | true=>rw [h2]at h1;cases h1
  | false=>
   have:=iU.1 h2 i hk;simp at this
 exact hs.sep i k _ p hne hb.h hp rfl b rfl hf⟩
section
variable {d i j k b e n:Nat} {vs ws l l':List Value} {w0:World} {M0:Nat->Prop} {ty t tb:TypeId} {pos:String} {af:Array Edge} {g:Option (Nat×Bool)} {x y:Operand} {v z:Value} {bb:Bool}
variable {ll:List Oper} {F:Px->Hp->Prop} {rest:List (Nat×Nat)} {op:Go.Op} {G:Type} {φ:G->Prop} {genv:G->Px} {gH:G->Hp} {dd:Option Tmp} {q r s:Prop}
def t_stm [hx:Som (ev2 env x) (.pointer (some ⟨b,j,none⟩))] [hy:Som (ev2 env y) v] [hB:BxI H b i tb l] [hi:TB (neb i 0)] [hv:CeI P N sc env H v vs] [hk:Siz P t k] [hl:TB (lenq vs k)] [hf:TB (fits l j vs)] [hr:LEv (lay2 l j vs) l']
  [h0:Som (lk2 H 0) (Xu w0 M0)] [hw:Hw w0 sc] [hM:MS N sc M env H b]:T P N sc M ⟨none,.store t x y,ty,pos,af,g⟩ env H (G:=Unit) (λ_=>True) (λ_=>env) (λ_=>(i,box b tb l'.toArray)::H):=λa w hs=>Yhc (hM.h a w hs) a w hs
def Qf(n:Nat){ks:List Nat}[hz:Zer P t z][hc:ClI z l][h0:Som (lk2 H 0) (Xu w0 M0)][hN:TB (ltb d N)][hw:Hw w0 sc][ha:AgI H0 H ks] :
  T P N sc (Off H0 ks) ⟨some d,.alloc t,ty,pos,af,g⟩ env H (G:=Nat) (λb=>MI (Off H0 ks) b) (λb=>(d,.pointer (some ⟨b,0,none⟩))::env) (λb=>(n,box b t l.toArray)::H):=λa w hs K Q f=>
 Yhf rfl rfl (Nt hN.h) hz.h hc.h h0.l hw.h ha.h a w hs K Q λg c m h=>f g c m ⟨h⟩
def Yq(a:T P N sc M ⟨dd,op,ty,pos,af,none⟩ env H φ genv gH)[ho:Som (nth ll i) ⟨dd,op,ty,pos,af,none⟩](h:∀g,φ g->LD P N sc M ll.toArray F rest (genv g) (gH g)):LD P N sc M ll.toArray F ((i,1)::rest) env H:=Kd ho.n a h
def r3x(a:T P N sc (λ_=>True) ⟨dd,op,ty,pos,af,none⟩ env H φ genv gH)[ho:Som (nth ll i) ⟨dd,op,ty,pos,af,none⟩](h:∀g,φ g->LD P N sc M ll.toArray F rest (genv g) (gH g)):LD P N sc M ll.toArray F ((i,3)::rest) env H:=r3' ho.n a h
def Na{ts:List Nat}{a:Array Bool}(c:T P N sc M ⟨dd,op,ty,pos,af,none⟩ env H φ genv gH)[ho:Som (nth ll i) ⟨dd,op,ty,pos,af,none⟩](h:∀g,φ g->A P N sc M ll.toArray ts Q n (a.setIfInBounds i true) (genv g) (gH g)):Zf6 P N sc M ll.toArray ts Q n a env H i:=Kh ho.n rfl c h
instance [ho:Som (nth ll i) ⟨some d,op,ty,pos,af,none⟩] [h1:StI P N sc M op env H v s] [h2:TB (ltb d N)] [h:Adv n (LD P N sc M ll.toArray F rest ((d,v)::env) H) q] [h3:AndO s q r]:Adv (n+1) (LD P N sc M ll.toArray F ((i,0)::rest) env H) r:=
 ⟨λk=>Yz ho.n rfl (h1.h (h3.h k).1) (h.h (h3.h k).2) rfl (Nt h2.h)⟩
instance [ho:Som (nth ll i) ⟨some d,op,ty,pos,af,some (j,bb)⟩] [hj:Som (dsto ll j) e] [he:Som (lk2 env e) (.bool bb)] [hN:TB (ltb e N)] [h1:StI P N sc M op env H v s] [h2:TB (ltb d N)] [h:Adv n (LD P N sc M ll.toArray F rest ((d,v)::env) H) q] [h3:AndO s q r]:Adv (n+1) (LD P N sc M ll.toArray F ((i,0)::rest) env H) r:=
 ⟨λk=>r0g (h1.h (h3.h k).1) ho.n rfl (Cj hj) he.l rfl (h.h (h3.h k).2) (Nt hN.h) (Nt h2.h)⟩
instance [ho:Som (nth ll i) ⟨some d,op,ty,pos,af,some (j,true)⟩] [hj:Som (dsto ll j) e] [he:Som (lk2 env e) (.bool false)] [hN:TB (ltb e N)] [h2:TB (ltb d N)] [h:Adv n (LD P N sc M ll.toArray F rest ((d,undef)::env) H) q]:Adv (n+1) (LD P N sc M ll.toArray F ((i,2)::rest) env H) q:=
 ⟨λk=>r2 ho.n rfl (Cj hj) he.l rfl (Nt hN.h) rfl (Nt h2.h) (h.h k)⟩
instance [ho:Som (nth ll i) ⟨some d,op,ty,pos,af,some (j,false)⟩] [hj:Som (dsto ll j) e] [he:Som (lk2 env e) (.bool true)] [hN:TB (ltb e N)] [h2:TB (ltb d N)] [h:Adv n (LD P N sc M ll.toArray F rest ((d,undef)::env) H) q]:Adv (n+1) (LD P N sc M ll.toArray F ((i,2)::rest) env H) q:=
 ⟨λk=>r2 ho.n rfl (Cj hj) he.l rfl (Nt hN.h) rfl (Nt h2.h) (h.h k)⟩
instance [ho:Som (nth ll i) ⟨none,.store t x y,ty,pos,af,none⟩] [hx:Som (ev2 env x) (.pointer (some ⟨b,j,none⟩))] [hy:Som (ev2 env y) v] [hB:BxI H b k tb l] [hi:TB (neb k 0)] [hv:CeI P N sc env H v vs] [hk:Siz P t e] [hl:TB (lenq vs e)] [hf:TB (fits l j vs)] [hr:LEv (lay2 l j vs) l']
  [h0:Som (lk2 H 0) (Xu w0 M0)] [hw:Hw w0 sc] [h:Adv n (LD P N sc M ll.toArray F rest env ((k,box b tb l'.toArray)::H)) q]:Adv (n+1) (LD P N sc M ll.toArray F ((i,3)::rest) env H) q:=
 ⟨λq=>r3' ho.n (Yhc aA) λ_ _=>h.h q⟩
instance [ho:Som (nth ll i) ⟨none,.store t x y,ty,pos,af,none⟩] [hx:Som (ev2 env x) (.pointer (some ⟨b,j,none⟩))] [hy:Som (ev2 env y) v] [hB:BxI H b k tb l] [hi:TB (neb k 0)] [hM:MS N sc M env H b] [hv:CeI P N sc env H v vs] [hk:Siz P t e] [hl:TB (lenq vs e)] [hf:TB (fits l j vs)] [hr:LEv (lay2 l j vs) l']
  [h0:Som (lk2 H 0) (Xu w0 M0)] [hw:Hw w0 sc] [h:Adv n (LD P N sc M ll.toArray F rest env ((k,box b tb l'.toArray)::H)) q]:Adv (n+1) (LD P N sc M ll.toArray F ((i,1)::rest) env H) q:=
 ⟨λq=>Kd ho.n t_stm λ_ _=>h.h q⟩
instance [ho:Som (nth ll i) ⟨some d,op,ty,pos,af,none⟩] [h1:DI P N sc op env H v s] [h2:TB (ltb d N)] [h:Adv n (LD P N sc M ll.toArray F rest ((d,v)::env) H) q] [h3:AndO s q r]:Adv (n+1) (LD P N sc M ll.toArray F ((i,1)::rest) env H) r:=
 ⟨λk=>Kd ho.n (Ze0 (h1.h (h3.h k).1) rfl (Nt h2.h)) λ_ _=>h.h (h3.h k).2⟩
instance [ho:Som (nth ll i) ⟨some d,op,ty,pos,af,none⟩] [h1:DI P N sc op env H v s] [h2:TB (ltb d N)] [h:Adv n (LD P N sc M ll.toArray F rest ((d,v)::env) H) q] [h3:AndO s q r]:Adv (n+1) (LD P N sc M ll.toArray F ((i,3)::rest) env H) r:=
 ⟨λk=>r3' ho.n (Ze0 (h1.h (h3.h k).1) rfl (Nt h2.h)) λ_ _=>h.h (h3.h k).2⟩
instance [h:Adv n (F env H) q] {ops:Array Oper} : Adv (n+1) (LD P N sc M ops F [] env H) q:=⟨λk=>r_fin (h.h k)⟩
theorem Qa {id:Nat} {l:List Oper} (M:Nat->Prop) (a:List (Nat×Nat)) (h:LD P N sc M l.toArray (X N sc .normal Q) a env H) (c:P.follows .mixedOrders=true:=by kernel_rfl)
  (f:(Region.noSelect l.toArray && Nat.beq a.length l.length && Ew l.toArray (Zdb a) a (Array.replicate l.length false) && (Region.ready .any l.toArray (Cu a (Array.replicate l.length false))).isEmpty)=true:=by kernel_rfl) :
  E P N sc (.region id l.toArray true) Q env H:=e_dreg M c f h
end
end Go.Sky
namespace Go.Sky
open Go.RowKit Below
variable {P:Program} {N:Nat} {sc:Nat->Prop} {env env':Px} {H H':Hp} {Q Q':Exit->Act->World->Prop} {M:Nat->Prop}
class EnI (vs:List Value) (env:outParam Px):Prop where h:Pv 0 vs=env
class PnI (vs:List Pc) (H:outParam Hp):Prop where h:Xk 1 vs=H
section
variable {a b c d e f g i j:Value} {p q r s t u v w x y:Pc}
instance:EnI [] []:=⟨rfl⟩
instance:EnI [a] [(0,a)]:=⟨rfl⟩
instance:EnI [a,b] [(0,a),(1,b)]:=⟨rfl⟩
instance:EnI [a,b,c] [(0,a),(1,b),(2,c)]:=⟨rfl⟩
instance:EnI [a,b,c,d] [(0,a),(1,b),(2,c),(3,d)]:=⟨rfl⟩
instance:EnI [a,b,c,d,e] [(0,a),(1,b),(2,c),(3,d),(4,e)]:=⟨rfl⟩
instance:EnI [a,b,c,d,e,f] [(0,a),(1,b),(2,c),(3,d),(4,e),(5,f)]:=⟨rfl⟩
instance:EnI [a,b,c,d,e,f,g] [(0,a),(1,b),(2,c),(3,d),(4,e),(5,f),(6,g)]:=⟨rfl⟩
instance:PnI [] []:=⟨rfl⟩
instance:PnI [p] [(1,p)]:=⟨rfl⟩
instance:PnI [p,q] [(1,p),(2,q)]:=⟨rfl⟩
instance:PnI [p,q,r] [(1,p),(2,q),(3,r)]:=⟨rfl⟩
instance:PnI [p,q,r,s] [(1,p),(2,q),(3,r),(4,s)]:=⟨rfl⟩
instance:PnI [p,q,r,s,t] [(1,p),(2,q),(3,r),(4,s),(5,t)]:=⟨rfl⟩
instance:PnI [p,q,r,s,t,u] [(1,p),(2,q),(3,r),(4,s),(5,t),(6,u)]:=⟨rfl⟩
instance:PnI [p,q,r,s,t,u,v] [(1,p),(2,q),(3,r),(4,s),(5,t),(6,u),(7,v)]:=⟨rfl⟩
instance:PnI [p,q,r,s,t,u,v,w] [(1,p),(2,q),(3,r),(4,s),(5,t),(6,u),(7,v),(8,w)]:=⟨rfl⟩
instance:PnI [p,q,r,s,t,u,v,w,x] [(1,p),(2,q),(3,r),(4,s),(5,t),(6,u),(7,v),(8,w),(9,x)]:=⟨rfl⟩
instance:PnI [p,q,r,s,t,u,v,w,x,y] [(1,p),(2,q),(3,r),(4,s),(5,t),(6,u),(7,v),(8,w),(9,x),(10,y)]:=⟨rfl⟩
end
class RoL (l:List Pc):Prop where h:AllRo l
instance:RoL []:=⟨aA⟩
instance {p:Pc} {r:List Pc} [h:RoI p] [h2:RoL r]:RoL (p::r):=⟨⟨h.h,h2.h⟩⟩
theorem Zg {f:FuncId} {fn:Func} {c:Code} {vs:List Value} {k:List Pc} {al:Bool} {G:Type} {φ:G->Prop} {val:G->Value} {m:G->List Pc} {N:Nat} (D:P.funcs[f]? = some fn) (z:fn.ntmps=N)
  [he:EnI vs env] [hp:PnI k H] [hro:RoL k] (h:∀l (sc:Nat->Prop),Hw l sc->(∀b,sc b->l.heap.size<=b\/∃q∈k,q.fp b)->E P N sc c (Zcu P fn l k al φ val m) env ((0,Xu l (λ_=>False))::H))
  (B:fn.body=some c:=by rfl) (n:Nat.ble vs.length N=true:=by rfl):Cal P f vs.toArray k al φ val m:=
 cal_in D B z n hro.h λl sc F o=>by rw [he.h,hp.h];exact h l sc ⟨F⟩ o
class RvI (P:Program) (N:Nat) (sc:Nat->Prop) (env:Px) (H:Hp) (r:ResultVar) (v:outParam Value):Prop where h:RV P N sc env H r v
instance {t:Nat} {v:Value} [h:Som (lk2 env t) v]:RvI P N sc env H (.tmp t) v:=⟨h.l⟩
instance {c b i k:Nat} {t tb:TypeId} {l:List Value} [h:Som (lk2 env c) (.pointer (some ⟨b,0,none⟩))] [h1:Agg P t true] [h2:BxI H b i tb l] [h3:Siz P t k] [h4:TB (lenq l k)]:RvI P N sc env H (.cell c t) (.agg l.toArray):=⟨Er _ h.l h2.h h1.h h3.h (Zhc h4.h)⟩
instance {c b i:Nat} {t tb:TypeId} {v:Value} [h:Som (lk2 env c) (.pointer (some ⟨b,0,none⟩))] [h1:Agg P t false] [h2:BxI H b i tb [v]]:RvI P N sc env H (.cell c t) v:=⟨Yir h.l h2.h h1.h⟩
section
variable {fn:Func} {pre:List Pc} {al:Bool} {G:Type} {φ:G->Prop} {val:G->Value} {its:G->List Pc} {w0:World} {r1 r2 r3:ResultVar} {v1 v2 v3:Value}
def Yp(k:∀b,sc b->w0.heap.size<=b\/∃q∈pre,q.fp b)(g:G)(l:fn.results=#[r1])[h1:RvI P N sc env H r1 v1][h0:Som (lk2 H 0) (Xu w0 (λ_=>False))](n:val g=v1)(m:φ g)(h:Give H al (its g)) :
  X N sc .ret (Zcu P fn w0 pre al φ val its) env H:=Ztn (.inl rfl) k g (v:=v1) (λa w hs=>Zeu hs l h1.h) n m h0.l h
def Nd(k:∀b,sc b->w0.heap.size<=b\/∃q∈pre,q.fp b)(g:G)(l:fn.results=#[r1,r2])[h1:RvI P N sc env H r1 v1][h2:RvI P N sc env H r2 v2][h0:Som (lk2 H 0) (Xu w0 (λ_=>False))](n:val g= .tuple #[v1,v2])(m:φ g)(h:Give H al (its g)) :
  X N sc .ret (Zcu P fn w0 pre al φ val its) env H:=Ztn (.inl rfl) k g (λa w hs=>Zl9 hs l h1.h h2.h) n m h0.l h
def xe3(k:∀b,sc b->w0.heap.size<=b\/∃q∈pre,q.fp b)(g:G)(l:fn.results=#[r1,r2,r3])[h1:RvI P N sc env H r1 v1][h2:RvI P N sc env H r2 v2][h3:RvI P N sc env H r3 v3][h0:Som (lk2 H 0) (Xu w0 (λ_=>False))](n:val g= .tuple #[v1,v2,v3])(m:φ g)(h:Give H al (its g)) :
  X N sc .ret (Zcu P fn w0 pre al φ val its) env H:=Ztn (.inl rfl) k g (λa w hs=>Yja hs l h1.h h2.h h3.h) n m h0.l h
end
class EncE {α:Type} (k:Nat) (enc:α->Value):Prop where h:∃(P:Program) (t:TypeId),Enc P t k enc
theorem Pb{p k:Pc}{r:List Pc}(i:Nat)[hi:Som (lk2 H i) k][h0:TB (neb i 0)][ho:RoI k](h:Give H true r)(e:k=p:=by rfl):Give H true (p::r):=e▸Gt i hi.l (Zxg (Zcd h0.h)) ho.h h
section
variable {α:Type} {k i:Nat} {e:TypeId} {enc:α->Value} {v v':Value} {xs ys:List α} {al:Bool} {r:List Pc}
theorem gow(i:Nat)[hi:Som (lk2 H i) (Oe k e enc v xs)][h0:TB (neb i 0)][he:EncE k enc](h:Give H al r)(l:xs=ys:=by rfl):Give H al (Yl k enc v ys::r):=by obtain⟨_,_,m⟩:=he.h;exact Yf4 i hi.l (Zxg (Zcd h0.h)) m l h
end
section
variable {n:Nat} {x b:Bool} {d e j:Nat} {op:Go.Op} {ty:TypeId} {pos:String} {af:Array Edge} {rest:List Oper} {ops:Array Oper} {ll:List Oper}
def kf [h1:DI P N sc op env H (.bool x) True][h2:TB (ltb d N)](e:x=false)(h:L P N sc ops rest Q ((d,.bool false)::env) H):L P N sc ops (⟨some d,op,ty,pos,af,none⟩::rest) Q env H:=dt (Xf _ (h1.h aA) (aD _ e)) h (Nt h2.h)
def kt [h1:DI P N sc op env H (.bool x) True][h2:TB (ltb d N)](e:x=true)(h:L P N sc ops rest Q ((d,.bool true)::env) H):L P N sc ops (⟨some d,op,ty,pos,af,none⟩::rest) Q env H:=dt (Xf _ (h1.h aA) (aD _ e)) h (Nt h2.h)
def kfg [h1:DI P N sc op env H (.bool x) True][hj:Som (dsto ll j) e][hg:Som (lk2 env e) (.bool b)][h4:TB (ltb e N)][h2:TB (ltb d N)](e:x=false)(h:L P N sc ll.toArray rest Q ((d,.bool false)::env) H):L P N sc ll.toArray (⟨some d,op,ty,pos,af,some (j,b)⟩::rest) Q env H:=Di (Xf _ (h1.h aA) (aD _ e)) (Cj hj) hg.l h (Nt h4.h) (Nt h2.h)
def ktg [h1:DI P N sc op env H (.bool x) True][hj:Som (dsto ll j) e][hg:Som (lk2 env e) (.bool b)][h4:TB (ltb e N)][h2:TB (ltb d N)](e:x=true)(h:L P N sc ll.toArray rest Q ((d,.bool true)::env) H):L P N sc ll.toArray (⟨some d,op,ty,pos,af,some (j,b)⟩::rest) Q env H:=Di (Xf _ (h1.h aA) (aD _ e)) (Cj hj) hg.l h (Nt h4.h) (Nt h2.h)
end
section
variable {f:FuncId} {xs:List Operand} {ats:Array TypeId} {d i j e n:Nat} {vs:List Value} {pre:List Pc} {al b:Bool} {G:Type} {φ:G->Prop} {val:G->Value} {its:G->List Pc} {w0:World} {M0:Nat->Prop} {ty:TypeId} {pos:String} {af:Array Edge} {G':G->Hp} {ops:Array Oper} {rest ll:List Oper}
def cl (n:Nat) (l:List Nat) (m:Cal P f vs.toArray pre al φ val its) [hx:EvI env xs vs] [hf:CalF P f] [hp:PreL P H al l pre] [h0:Som (lk2 H 0) (Xu w0 M0)] [hN:TB (ltb d N)] [hw:Hw w0 sc] [ha:∀g,AddI n (its g) H (G' g)]
  (h:∀g,φ g->L P N sc ops rest Q ((d,val g)::env) (G' g)):L P N sc ops (⟨some d,.call { callee:= .value (.func f),args:=xs.toArray,argTypes:=ats },ty,pos,af,none⟩::rest) Q env H:=Yj (Zo n l m) h
def Gi (n:Nat) (l:List Nat) (m:Cal P f vs.toArray pre al φ val its) [hx:EvI env xs vs] [hf:CalF P f] [hp:PreL P H al l pre] [h0:Som (lk2 H 0) (Xu w0 M0)] [hN:TB (ltb d N)] [hw:Hw w0 sc] [ha:∀g,AddI n (its g) H (G' g)] [hj:Som (dsto ll j) e] [he:Som (lk2 env e) (.bool b)] [hN2:TB (ltb e N)]
  (h:∀g,φ g->L P N sc ll.toArray rest Q ((d,val g)::env) (G' g)):L P N sc ll.toArray (⟨some d,.call { callee:= .value (.func f),args:=xs.toArray,argTypes:=ats },ty,pos,af,some (j,b)⟩::rest) Q env H:=gt' (Zo n l m) h
end
class SeI (l:List Nat) (env:Px) (cs:outParam Px):Prop where h:Sub cs env
instance:SeI [] env []:=⟨aA⟩
instance {t:Nat} {l:List Nat} {v:Value} {cs:Px} [h:Som (lk2 env t) v] [h2:SeI l env cs]:SeI (t::l) env ((t,v)::cs):=⟨⟨h.l,h2.h⟩⟩
class SeH (l:List Nat) (H:Hp) (ch:outParam Hp):Prop where h:HSub ch H
instance:SeH [] H []:=⟨aA⟩
instance {t:Nat} {l:List Nat} {v:Pc} {cs:Hp} [h:Som (lk2 H t) v] [h2:SeH l H cs]:SeH (t::l) H ((t,v)::cs):=⟨⟨h.l,h2.h⟩⟩
class ApI {α:Type _} (a b:List α) (c:outParam (List α)):Prop where h:a ++ b=c
instance {α:Type _} {b:List α} : ApI [] b b:=⟨rfl⟩
instance {α:Type _} {x:α} {a b c:List α} [h:ApI a b c]:ApI (x::a) b (x::c):=⟨by rw [<-h.h];rfl⟩
class SbI (cs env:Px):Prop where h:Sub cs env
instance:SbI [] env:=⟨aA⟩
instance {t:Nat} {v:Value} {cs:Px} [h:Som (lk2 env t) v] [h2:SbI cs env]:SbI ((t,v)::cs) env:=⟨⟨h.l,h2.h⟩⟩
class HbI (ch H:Hp):Prop where h:HSub ch H
instance:HbI [] H:=⟨aA⟩
instance {t:Nat} {v:Pc} {cs:Hp} [h:Som (lk2 H t) v] [h2:HbI cs H]:HbI ((t,v)::cs) H:=⟨⟨h.l,h2.h⟩⟩
def Sub.app:∀{a b e:Px},Sub a e->Sub b e->Sub (a ++ b) e
 | [],_,_,_,h=>h
 | (_,_)::_,_,_,h1,h=>⟨h1.1,Sub.app h1.2 h⟩
def HSub.app:∀{a b e:Hp},HSub a e->HSub b e->HSub (a ++ b) e
 | [],_,_,_,h=>h
 | (_,_)::_,_,_,h1,h=>⟨h1.1,HSub.app h1.2 h⟩
section
variable {c x y:Code} {G:Type} {cs:Px} {ch:Hp} {e1:G->Px} {H1:G->Hp} {ov:G->Px} {oh:G->Hp} {inv:G->Prop} {μ:G->Nat} {g:G}
theorem lp (l B:List Nat) (ov:G->Px) (oh:G->Hp) (inv:G->Prop) (μ:G->Nat) (h:G) (z:inv h) (hs:Sub (ov h) env) (o:HSub (oh h) H) [h1:SeI l env cs] [h2:SeH B H ch] [h3:∀g,ApI (ov g) cs (e1 g)] [h4:∀g,ApI (oh g) ch (H1 g)]
  (m:∀g,inv g->E P N sc c (Exit.then (Yua N sc cs ch ov oh inv μ g) Q) (e1 g) (H1 g)):E P N sc (.loop c) Q env H:=
 e_lp cs ch ov oh inv μ z (hs.app h1.h) (o.app h2.h) λg D=>by rw [(h3 g).h,(h4 g).h];grind
def Ye(h:G)(l:inv h)(m:μ h<μ g)(hs:Sub (ov h) env)(o:HSub (oh h) H)[k1:SbI cs env][k2:HbI ch H]:X N sc .normal (Exit.then (Yua N sc cs ch ov oh inv μ g) Q) env H:=x_rnd h l m (hs.app k1.h) (o.app k2.h)
theorem jn (l m:List Nat) (ov:G->Px) (oh:G->Hp) (inv:G->Prop) [h1:SeI l env cs] [h2:SeH m H ch] [h3:∀g,ApI (ov g) cs (e1 g)] [h4:∀g,ApI (oh g) ch (H1 g)]
  (h:E P N sc x (Exit.then (JnK N sc cs ch ov oh inv) Q) env H) (z:∀g,inv g->E P N sc y Q (e1 g) (H1 g)):E P N sc (.seq x y) Q env H:=
 e_jn cs ch ov oh inv h1.h h2.h h λg o=>by rw [(h3 g).h,(h4 g).h];grind
def Od(h:G)(l:inv h)(hs:Sub (ov h) env)(m:HSub (oh h) H)[k1:SbI cs env][k2:HbI ch H]:X N sc .normal (Exit.then (JnK N sc cs ch ov oh inv) Q) env H:=x_jn h l (hs.app k1.h) (m.app k2.h)
end
end Go.Sky
namespace Go.Sky
open Go.Proofs
set_option linter.all false
set_option synthInstance.maxHeartbeats 0
variable{v w:Value}{xs:List Nat}{x y:Nat}
@[reducible,instance]def iUnd3:=Und.mk Tryz.underlying3
@[reducible,instance]def iUnd4:=Und.mk Tryz.underlying4
@[reducible,instance]def iUnd5:=Und.mk Tryz.underlying5
@[reducible,instance]def iUnd9:=Und.mk Tryz.underlying9
@[reducible,instance]def iUnd25:=Und.mk Tryz.underlying25
@[reducible,instance]def iUnd139:=Und.mk Tryz.underlying139
@[reducible,instance]def iUnd140:=Und.mk Tryz.underlying140
@[reducible,instance]def iUnd144:=Und.mk Tryz.underlying144
@[reducible,instance]def iUnd167:=Und.mk Tryz.underlying167
@[reducible,instance]def iUnd222:=Und.mk Tryz.underlying222
@[reducible,instance]def iUnd225:=Und.mk Tryz.underlying225
@[reducible,instance]def iUnd228:=Und.mk Tryz.underlying228
@[reducible,instance]def iUnd240:=Und.mk Tryz.underlying240
@[reducible,instance]def iUnd259:=Und.mk Tryz.underlying259
@[reducible,instance]def iUnd301:=Und.mk Tryz.underlying301
@[reducible,instance]def iUnd303:=Und.mk Tryz.underlying303
@[reducible,instance]def iUnd306:=Und.mk Tryz.underlying306
@[reducible,instance]def iUnd313:=Und.mk Tryz.underlying313
@[reducible,instance]def iUnd320:=Und.mk Tryz.underlying320
@[reducible,instance]def iUnd334:=Und.mk Tryz.underlying334
@[reducible,instance]def iUnd336:=Und.mk Tryz.underlying336
@[reducible,instance]def iUnd340:=Und.mk Tryz.underlying340
@[reducible,instance]def iUnd342:=Und.mk Tryz.underlying342
@[reducible,instance]def iUnd346:=Und.mk Tryz.underlying346
@[reducible,instance]def iUnd380:=Und.mk Tryz.underlying380
@[reducible,instance]def iUnd395:=Und.mk Tryz.underlying395
@[reducible,instance]def iSiz3:=Siz.mk Tryz.sizeOf3
@[reducible,instance]def iSiz4:=Siz.mk Tryz.sizeOf4
@[reducible,instance]def iSiz5:=Siz.mk Tryz.sizeOf5
@[reducible,instance]def iSiz9:=Siz.mk Tryz.sizeOf9
@[reducible,instance]def iSiz25:=Siz.mk Tryz.sizeOf25
@[reducible,instance]def iSiz28:=Siz.mk Tryz.sizeOf28
@[reducible,instance]def iSiz140:=Siz.mk Tryz.sizeOf140
@[reducible,instance]def iSiz144:=Siz.mk Tryz.sizeOf144
@[reducible,instance]def iSiz167:=Siz.mk Tryz.sizeOf167
@[reducible,instance]def iSiz222:=Siz.mk Tryz.sizeOf222
@[reducible,instance]def iSiz225:=Siz.mk Tryz.sizeOf225
@[reducible,instance]def iSiz228:=Siz.mk Tryz.sizeOf228
@[reducible,instance]def iSiz240:=Siz.mk Tryz.sizeOf240
@[reducible,instance]def iSiz259:=Siz.mk Tryz.sizeOf259
@[reducible,instance]def iSiz301:=Siz.mk Tryz.sizeOf301
@[reducible,instance]def iSiz320:=Siz.mk Tryz.sizeOf320
@[reducible,instance]def iSiz334:=Siz.mk Tryz.sizeOf334
@[reducible,instance]def iSiz336:=Siz.mk Tryz.sizeOf336
@[reducible,instance]def iSiz342:=Siz.mk Tryz.sizeOf342
@[reducible,instance]def iAgg4:=Agg.mk Tryz.isAgg4
@[reducible,instance]def iAgg9:=Agg.mk Tryz.isAgg9
@[reducible,instance]def iAgg25:=Agg.mk Tryz.isAgg25
@[reducible,instance]def iAgg28:=Agg.mk Tryz.isAgg28
@[reducible,instance]def iAgg144:=Agg.mk Tryz.isAgg144
@[reducible,instance]def iAgg167:=Agg.mk Tryz.isAgg167
@[reducible,instance]def iAgg225:=Agg.mk Tryz.isAgg225
@[reducible,instance]def iAgg228:=Agg.mk Tryz.isAgg228
@[reducible,instance]def iAgg259:=Agg.mk Tryz.isAgg259
@[reducible,instance]def iAgg320:=Agg.mk Tryz.isAgg320
@[reducible,instance]def iAgg334:=Agg.mk Tryz.isAgg334
@[reducible,instance]def iAgg336:=Agg.mk Tryz.isAgg336
@[reducible,instance]def iAgg342:=Agg.mk Tryz.isAgg342
@[reducible,instance]def iZer144:=Zer.mk Tryz.zeroValue144
@[reducible,instance]def iZer167:=Zer.mk Tryz.zeroValue167
@[reducible,instance]def iZer222:=Zer.mk Tryz.zeroValue222
@[reducible,instance]def iZer228:=Zer.mk Tryz.zeroValue228
@[reducible,instance]def iZer259:=Zer.mk Tryz.zeroValue259
@[reducible,instance]def iZer303:=Zer.mk Tryz.zeroValue303
@[reducible,instance]def iZer336:=Zer.mk Tryz.zeroValue336
@[reducible,instance]def iZer340:=Zer.mk Tryz.zeroValue340
@[reducible,instance]def iZer342:=Zer.mk Tryz.zeroValue342
abbrev cGa(f:Nat):=CalF Go.Proofs.Tryz.prog f
open Go.Proofs.Tryz
instance:cGa 80:=.mk call80
instance:cGa 143:=.mk call143
instance:cGa 145:=.mk call145
instance:cGa 147:=.mk call147
instance:cGa 148:=.mk call148
instance:cGa 152:=.mk call152
instance:cGa 153:=.mk call153
instance:cGa 154:=.mk call154
instance:cGa 155:=.mk call155
instance:cGa 169:=.mk call169
instance:cGa 170:=.mk call170
instance:cGa 196:=.mk call196
instance:cGa 197:=.mk call197
instance:cGa 200:=.mk call200
instance:cGa 201:=.mk call201
instance:cGa 202:=.mk call202
instance:cGa 209:=.mk call209
instance:cGa 210:=.mk call210
instance:cGa 211:=.mk call211
instance:cGa 212:=.mk call212
instance:cGa 213:=.mk call213
instance:cGa 214:=.mk call214
instance:cGa 215:=.mk call215
instance:cGa 216:=.mk call216
instance:cGa 217:=.mk call217
instance:cGa 218:=.mk call218
instance:cGa 219:=.mk call219
instance:cGa 220:=.mk call220
instance:cGa 222:=.mk call222
instance:cGa 223:=.mk call223
instance:cGa 224:=.mk call224
instance:cGa 225:=.mk call225
instance:cGa 227:=.mk call227
instance:cGa 229:=.mk call229
instance:cGa 231:=.mk call231
instance:cGa 232:=.mk call232
instance:cGa 236:=.mk call236
instance:cGa 240:=.mk call240
instance:cGa 241:=.mk call241
instance:cGa 242:=.mk call242
instance:cGa 243:=.mk call243
instance:cGa 244:=.mk call244
instance:cGa 245:=.mk call245
instance:cGa 246:=.mk call246
instance:cGa 249:=.mk call249
instance:cGa 250:=.mk call250
instance:cGa 251:=.mk call251
instance:cGa 252:=.mk call252
instance:cGa 253:=.mk call253
instance:cGa 254:=.mk call254
instance:cGa 255:=.mk call255
instance:cGa 272:=.mk call272
instance:cGa 273:=.mk call273
instance:cGa 277:=.mk call277
instance:cGa 278:=.mk call278
instance:cGa 279:=.mk call279
instance:cGa 280:=.mk call280
instance:cGa 281:=.mk call281
instance:cGa 282:=.mk call282
instance:cGa 283:=.mk call283
instance:cGa 284:=.mk call284
instance:cGa 285:=.mk call285
instance:cGa 287:=.mk call287
instance:cGa 289:=.mk call289
instance:cGa 290:=.mk call290
instance:cGa 291:=.mk call291
instance:cGa 292:=.mk call292
instance:cGa 293:=.mk call293
instance:cGa 294:=.mk call294
instance:cGa 295:=.mk call295
instance:cGa 296:=.mk call296
instance:cGa 297:=.mk call297
instance:cGa 302:=.mk call302
instance:cGa 304:=.mk call304
instance:cGa 305:=.mk call305
instance:cGa 306:=.mk call306
instance:cGa 307:=.mk call307
instance:cGa 308:=.mk call308
instance:cGa 309:=.mk call309
instance:cGa 310:=.mk call310
instance:cGa 311:=.mk call311
instance:cGa 312:=.mk call312
instance:cGa 313:=.mk call313
instance:cGa 314:=.mk call314
instance:cGa 315:=.mk call315
instance:cGa 316:=.mk call316
instance:cGa 327:=.mk call327
instance:cGa 340:=.mk call340
instance:cGa 341:=.mk call341
instance:cGa 342:=.mk call342
instance:cGa 343:=.mk call343
instance:cGa 344:=.mk call344
instance:cGa 345:=.mk call345
instance:cGa 348:=.mk call348
instance:cGa 349:=.mk call349
instance:cGa 350:=.mk call350
instance:cGa 351:=.mk call351
instance:cGa 352:=.mk call352
instance:cGa 355:=.mk call355
instance:cGa 356:=.mk call356
instance:cGa 357:=.mk call357
instance:cGa 358:=.mk call358
instance:cGa 359:=.mk call359
instance:cGa 360:=.mk call360
instance:cGa 361:=.mk call361
instance:cGa 362:=.mk call362
instance:cGa 363:=.mk call363
instance:cGa 364:=.mk call364
instance:cGa 365:=.mk call365
instance:cGa 366:=.mk call366
instance:cGa 367:=.mk call367
instance:cGa 368:=.mk call368
instance:cGa 369:=.mk call369
instance:cGa 370:=.mk call370
instance:cGa 377:=.mk call377
instance:cGa 378:=.mk call378
instance:cGa 379:=.mk call379
instance:cGa 380:=.mk call380
instance:cGa 381:=.mk call381
instance:cGa 382:=.mk call382
instance:cGa 383:=.mk call383
instance:cGa 384:=.mk call384
instance:cGa 386:=.mk call386
instance:cGa 387:=.mk call387
instance:cGa 388:=.mk call388
instance:cGa 389:=.mk call389
instance:cGa 390:=.mk call390
instance:cGa 391:=.mk call391
instance:cGa 392:=.mk call392
instance:cGa 393:=.mk call393
instance:cGa 394:=.mk call394
instance:cGa 395:=.mk call395
instance:cGa 396:=.mk call396
instance:cGa 398:=.mk call398
instance:cGa 399:=.mk call399
instance:cGa 400:=.mk call400
instance:cGa 401:=.mk call401
instance:cGa 402:=.mk call402
instance:cGa 403:=.mk call403
instance:EncT Tryz.prog 222 1 My:=⟨pU⟩
instance:EncE 1 My:=⟨_,_,pU⟩
instance:EncT Tryz.prog 5 1 Zj7:=⟨pB⟩
instance:EncE 1 Zj7:=⟨_,_,pB⟩
instance:EncT Tryz.prog 3 1 Ig:=⟨pN⟩
instance:EncE 1 Ig:=⟨_,_,pN⟩
instance:EncT Tryz.prog 3 1 Zz:=⟨pZ⟩
instance:EncE 1 Zz:=⟨_,_,pZ⟩
instance:EncT Tryz.prog 144 2 Ysh:=⟨pW⟩
instance:EncE 2 Ysh:=⟨_,_,pW⟩
instance:EncT Tryz.prog 144 2 wv:=⟨pV⟩
instance:EncE 2 wv:=⟨_,_,pV⟩
instance:EncT Tryz.prog 167 2 Mm:=⟨pI⟩
instance:EncE 2 Mm:=⟨_,_,pI⟩
instance {α:Type} : EncT Tryz.prog 140 1 (Nm (α:=α)):=⟨pS⟩
instance {α:Type} : EncE 1 (Nm (α:=α)):=⟨_,_,pS⟩
instance:EncT Tryz.prog 342 8 iq:=⟨pY⟩
instance:EncE 8 iq:=⟨_,_,pY⟩
instance:EncT Tryz.prog 259 4 rq:=⟨pQ⟩
instance:EncE 4 rq:=⟨_,_,pQ⟩
instance:EncT Tryz.prog 259 4 encQ:=⟨pR⟩
instance:EncE 4 encQ:=⟨_,_,pR⟩
@[reducible,instance]def iUnd22:=Und.mk Tryz.underlying22
@[reducible,instance]def iUnd24:=Und.mk Tryz.underlying24
@[reducible,instance]def iUnd27:=Und.mk Tryz.underlying27
@[reducible,instance]def iUnd36:=Und.mk Tryz.underlying36
@[reducible,instance]def iUnd38:=Und.mk Tryz.underlying38
@[reducible,instance]def iUnd40:=Und.mk Tryz.underlying40
@[reducible,instance]def iUnd61:=Und.mk Tryz.underlying61
@[reducible,instance]def iUnd106:=Und.mk Tryz.underlying106
@[reducible,instance]def iUnd116:=Und.mk Tryz.underlying116
@[reducible,instance]def iUnd128:=Und.mk Tryz.underlying128
@[reducible,instance]def iUnd130:=Und.mk Tryz.underlying130
@[reducible,instance]def iUnd141:=Und.mk Tryz.underlying141
@[reducible,instance]def iUnd147:=Und.mk Tryz.underlying147
@[reducible,instance]def iUnd150:=Und.mk Tryz.underlying150
@[reducible,instance]def iUnd151:=Und.mk Tryz.underlying151
@[reducible,instance]def iUnd155:=Und.mk Tryz.underlying155
@[reducible,instance]def iUnd165:=Und.mk Tryz.underlying165
@[reducible,instance]def iUnd169:=Und.mk Tryz.underlying169
@[reducible,instance]def iUnd178:=Und.mk Tryz.underlying178
@[reducible,instance]def iUnd196:=Und.mk Tryz.underlying196
@[reducible,instance]def iUnd197:=Und.mk Tryz.underlying197
@[reducible,instance]def iUnd206:=Und.mk Tryz.underlying206
@[reducible,instance]def iUnd208:=Und.mk Tryz.underlying208
@[reducible,instance]def iUnd214:=Und.mk Tryz.underlying214
@[reducible,instance]def iUnd215:=Und.mk Tryz.underlying215
@[reducible,instance]def iUnd281:=Und.mk Tryz.underlying281
@[reducible,instance]def iUnd291:=Und.mk Tryz.underlying291
@[reducible,instance]def iUnd368:=Und.mk Tryz.underlying368
@[reducible,instance]def iUnd369:=Und.mk Tryz.underlying369
@[reducible,instance]def iUnd372:=Und.mk Tryz.underlying372
@[reducible,instance]def iUnd406:=Und.mk Tryz.underlying406
@[reducible,instance]def iUnd408:=Und.mk Tryz.underlying408
@[reducible,instance]def iUnd409:=Und.mk Tryz.underlying409
@[reducible,instance]def iUnd422:=Und.mk Tryz.underlying422
@[reducible,instance]def iSiz24:=Siz.mk Tryz.sizeOf24
@[reducible,instance]def iSiz27:=Siz.mk Tryz.sizeOf27
@[reducible,instance]def iSiz36:=Siz.mk Tryz.sizeOf36
@[reducible,instance]def iSiz38:=Siz.mk Tryz.sizeOf38
@[reducible,instance]def iSiz40:=Siz.mk Tryz.sizeOf40
@[reducible,instance]def iSiz61:=Siz.mk Tryz.sizeOf61
@[reducible,instance]def iSiz116:=Siz.mk Tryz.sizeOf116
@[reducible,instance]def iSiz128:=Siz.mk Tryz.sizeOf128
@[reducible,instance]def iSiz141:=Siz.mk Tryz.sizeOf141
@[reducible,instance]def iSiz147:=Siz.mk Tryz.sizeOf147
@[reducible,instance]def iSiz165:=Siz.mk Tryz.sizeOf165
@[reducible,instance]def iSiz169:=Siz.mk Tryz.sizeOf169
@[reducible,instance]def iSiz178:=Siz.mk Tryz.sizeOf178
@[reducible,instance]def iSiz195:=Siz.mk Tryz.sizeOf195
@[reducible,instance]def iSiz196:=Siz.mk Tryz.sizeOf196
@[reducible,instance]def iSiz208:=Siz.mk Tryz.sizeOf208
@[reducible,instance]def iSiz213:=Siz.mk Tryz.sizeOf213
@[reducible,instance]def iSiz215:=Siz.mk Tryz.sizeOf215
@[reducible,instance]def iSiz291:=Siz.mk Tryz.sizeOf291
@[reducible,instance]def iSiz368:=Siz.mk Tryz.sizeOf368
@[reducible,instance]def iSiz369:=Siz.mk Tryz.sizeOf369
@[reducible,instance]def iSiz372:=Siz.mk Tryz.sizeOf372
@[reducible,instance]def iSiz408:=Siz.mk Tryz.sizeOf408
@[reducible,instance]def iAgg3:=Agg.mk Tryz.isAgg3
@[reducible,instance]def iAgg24:=Agg.mk Tryz.isAgg24
@[reducible,instance]def iAgg36:=Agg.mk Tryz.isAgg36
@[reducible,instance]def iAgg38:=Agg.mk Tryz.isAgg38
@[reducible,instance]def iAgg40:=Agg.mk Tryz.isAgg40
@[reducible,instance]def iAgg61:=Agg.mk Tryz.isAgg61
@[reducible,instance]def iAgg116:=Agg.mk Tryz.isAgg116
@[reducible,instance]def iAgg128:=Agg.mk Tryz.isAgg128
@[reducible,instance]def iAgg140:=Agg.mk Tryz.isAgg140
@[reducible,instance]def iAgg141:=Agg.mk Tryz.isAgg141
@[reducible,instance]def iAgg147:=Agg.mk Tryz.isAgg147
@[reducible,instance]def iAgg155:=Agg.mk Tryz.isAgg155
@[reducible,instance]def iAgg165:=Agg.mk Tryz.isAgg165
@[reducible,instance]def iAgg169:=Agg.mk Tryz.isAgg169
@[reducible,instance]def iAgg178:=Agg.mk Tryz.isAgg178
@[reducible,instance]def iAgg195:=Agg.mk Tryz.isAgg195
@[reducible,instance]def iAgg196:=Agg.mk Tryz.isAgg196
@[reducible,instance]def iAgg208:=Agg.mk Tryz.isAgg208
@[reducible,instance]def iAgg213:=Agg.mk Tryz.isAgg213
@[reducible,instance]def iAgg215:=Agg.mk Tryz.isAgg215
@[reducible,instance]def iAgg291:=Agg.mk Tryz.isAgg291
@[reducible,instance]def iAgg369:=Agg.mk Tryz.isAgg369
@[reducible,instance]def iAgg408:=Agg.mk Tryz.isAgg408
@[reducible,instance]def iZer3:=Zer.mk Tryz.zeroValue3
@[reducible,instance]def iZer4:=Zer.mk Tryz.zeroValue4
@[reducible,instance]def iZer28:=Zer.mk Tryz.zeroValue28
@[reducible,instance]def iZer36:=Zer.mk Tryz.zeroValue36
@[reducible,instance]def iZer61:=Zer.mk Tryz.zeroValue61
@[reducible,instance]def iZer116:=Zer.mk Tryz.zeroValue116
@[reducible,instance]def iZer141:=Zer.mk Tryz.zeroValue141
@[reducible,instance]def iZer147:=Zer.mk Tryz.zeroValue147
@[reducible,instance]def iZer150:=Zer.mk Tryz.zeroValue150
@[reducible,instance]def iZer151:=Zer.mk Tryz.zeroValue151
@[reducible,instance]def iZer169:=Zer.mk Tryz.zeroValue169
@[reducible,instance]def iZer178:=Zer.mk Tryz.zeroValue178
@[reducible,instance]def iZer196:=Zer.mk Tryz.zeroValue196
@[reducible,instance]def iZer208:=Zer.mk Tryz.zeroValue208
@[reducible,instance]def iZer215:=Zer.mk Tryz.zeroValue215
@[reducible,instance]def iZer320:=Zer.mk Tryz.zeroValue320
@[reducible,instance]def iZer369:=Zer.mk Tryz.zeroValue369
@[reducible,instance]def iZer372:=Zer.mk Tryz.zeroValue372
@[reducible,instance]def iZer408:=Zer.mk Tryz.zeroValue408
open Go.Proofs.Tryz
instance:cGa 11:=.mk call11
instance:cGa 12:=.mk call12
instance:cGa 14:=.mk call14
instance:cGa 16:=.mk call16
instance:cGa 17:=.mk call17
instance:cGa 18:=.mk call18
instance:cGa 19:=.mk call19
instance:cGa 20:=.mk call20
instance:cGa 21:=.mk call21
instance:cGa 22:=.mk call22
instance:cGa 25:=.mk call25
instance:cGa 29:=.mk call29
instance:cGa 41:=.mk call41
instance:cGa 42:=.mk call42
instance:cGa 44:=.mk call44
instance:cGa 45:=.mk call45
instance:cGa 56:=.mk call56
instance:cGa 57:=.mk call57
instance:cGa 58:=.mk call58
instance:cGa 59:=.mk call59
instance:cGa 60:=.mk call60
instance:cGa 61:=.mk call61
instance:cGa 62:=.mk call62
instance:cGa 66:=.mk call66
instance:cGa 67:=.mk call67
instance:cGa 68:=.mk call68
instance:cGa 69:=.mk call69
instance:cGa 70:=.mk call70
instance:cGa 71:=.mk call71
instance:cGa 72:=.mk call72
instance:cGa 73:=.mk call73
instance:cGa 74:=.mk call74
instance:cGa 75:=.mk call75
instance:cGa 78:=.mk call78
instance:cGa 79:=.mk call79
instance:cGa 82:=.mk call82
instance:cGa 83:=.mk call83
instance:cGa 84:=.mk call84
instance:cGa 85:=.mk call85
instance:cGa 86:=.mk call86
instance:cGa 87:=.mk call87
instance:cGa 103:=.mk call103
instance:cGa 104:=.mk call104
instance:cGa 107:=.mk call107
instance:cGa 108:=.mk call108
instance:cGa 109:=.mk call109
instance:cGa 121:=.mk call121
instance:cGa 122:=.mk call122
instance:cGa 123:=.mk call123
instance:cGa 124:=.mk call124
instance:cGa 125:=.mk call125
instance:cGa 126:=.mk call126
instance:cGa 128:=.mk call128
instance:cGa 129:=.mk call129
instance:cGa 130:=.mk call130
instance:cGa 131:=.mk call131
instance:cGa 132:=.mk call132
instance:cGa 133:=.mk call133
instance:cGa 134:=.mk call134
instance:cGa 135:=.mk call135
instance:cGa 136:=.mk call136
instance:cGa 137:=.mk call137
instance:cGa 140:=.mk call140
instance:cGa 141:=.mk call141
instance:cGa 142:=.mk call142
instance:cGa 144:=.mk call144
instance:cGa 146:=.mk call146
instance:cGa 151:=.mk call151
instance:cGa 156:=.mk call156
instance:cGa 157:=.mk call157
instance:cGa 158:=.mk call158
instance:cGa 159:=.mk call159
instance:cGa 160:=.mk call160
instance:cGa 161:=.mk call161
instance:cGa 168:=.mk call168
instance:cGa 171:=.mk call171
instance:cGa 172:=.mk call172
instance:cGa 173:=.mk call173
instance:cGa 174:=.mk call174
instance:cGa 175:=.mk call175
instance:cGa 176:=.mk call176
instance:cGa 177:=.mk call177
instance:cGa 178:=.mk call178
instance:cGa 181:=.mk call181
instance:cGa 195:=.mk call195
instance:cGa 198:=.mk call198
instance:cGa 199:=.mk call199
instance:cGa 203:=.mk call203
instance:cGa 204:=.mk call204
instance:cGa 205:=.mk call205
instance:cGa 206:=.mk call206
instance:cGa 207:=.mk call207
instance:cGa 208:=.mk call208
instance:cGa 221:=.mk call221
instance:cGa 226:=.mk call226
instance:cGa 228:=.mk call228
instance:cGa 230:=.mk call230
instance:cGa 233:=.mk call233
instance:cGa 234:=.mk call234
instance:cGa 235:=.mk call235
instance:cGa 237:=.mk call237
instance:cGa 247:=.mk call247
instance:cGa 248:=.mk call248
instance:cGa 256:=.mk call256
instance:cGa 257:=.mk call257
instance:cGa 259:=.mk call259
instance:cGa 260:=.mk call260
instance:cGa 269:=.mk call269
instance:cGa 271:=.mk call271
instance:cGa 274:=.mk call274
instance:cGa 275:=.mk call275
instance:cGa 276:=.mk call276
instance:cGa 286:=.mk call286
instance:cGa 288:=.mk call288
instance:cGa 299:=.mk call299
instance:cGa 300:=.mk call300
instance:cGa 301:=.mk call301
instance:cGa 303:=.mk call303
instance:cGa 317:=.mk call317
instance:cGa 318:=.mk call318
instance:cGa 334:=.mk call334
instance:cGa 335:=.mk call335
instance:cGa 336:=.mk call336
instance:cGa 337:=.mk call337
instance:cGa 346:=.mk call346
instance:cGa 347:=.mk call347
instance:cGa 354:=.mk call354
instance:cGa 385:=.mk call385
open Go.Proofs.Tryz
set_option synthInstance.maxSize 100000
set_option maxRecDepth 20000
set_option linter.unusedSimpArgs false
theorem Ykz(v:Value)(xs:List Nat):Cal prog 147 #[v] [Yl 1 My v xs] true (G:=Unit) (λ_=>True) (λ_=>Kp v (tz xs).length) (λ_=>[Yl 1 My (Kp v (tz xs).length) (tz xs)]):=by
 refine Zg func147 ntmps147 λo n m c=>?_;refine Xz (Zy6 (i:=1) J Zl) (λa=>?_);refine Xz (Oa (i:=1) J Zl) λl=>go 7 ?_;refine lp (G:=Nat) [] [0] (λk=>[(0,Kp v k)]) (λk=>[(1,Yl 1 My (Kp v k) (xs.take k))]) (λk=>(k<=xs.length)/\(tz (xs.take k)=tz xs)) (λk=>k) xs.length ⟨aF _,by rw [bS]⟩ ⟨by rw [a];rfl,aA⟩ ⟨by rw [a,bS];rfl,aA⟩ ?_;rintro k ⟨g,h⟩;have e:(xs.take k).length=k:=by rw [cQ];omega
 refine go 7<|Zy 6 J (λj=>?_) (λj=>?_)
 .refine go 4 ⟨O,?_⟩;refine Di (Zs 1 (k-1) J J J J Zl Oi Kt) J J<|go 5 ⟨O,?_⟩;refine Ze J (λf=>?_) (λf=>?_)
  .have b:=Yac g O (by omega:(xs.take k).getD (k-1) 0=0);refine go 8 ⟨O,?_⟩;refine dt (Zwy 1 (k-1) J J J J Zl Oi Kt)<|go 3 ?_;exact Zn (Yio 1 1 (k-1) J J)<|Ye (k-1) ⟨O1,by rw [<-h,<-b]⟩ O1 ⟨by rw [<-Ea v k (k-1)];rfl,aA⟩ ⟨by rw [Ea,gX,dK O];rfl,aA⟩
  .refine go 12 ?_;have d:tz xs=xs.take k:=by rw [<-h];exact Zgf g O
   exact Yp c () results147 (by rw [d,e]) aA (Pb 1 Za (by rw [d,e]))
 .refine go 23 ?_;have d:tz xs=xs.take k:=by rw [<-h];exact Zgf g O
  exact Yp c () results147 (by rw [d,e]) aA (Pb 1 Za (by rw [d,e]))
def Oo:Cal prog 147 #[v] [Yl 1 My v xs] false (G:=Unit) (λ_=>True) (λ_=>Kp v (tz xs).length) (λ_=>[]):=(Ykz v xs).bare
theorem Ybv(t:bl x<=4294967296)(I:bl y<=4294967296):Cal prog 278 #[v,w] [Dj v x,Dj w y] false (G:=Value) (λr=>True) (λr=>r) (λr=>[Dj r (x+y)]):=by
 refine Zg func278 ntmps278 λQ M n m=>?_;have F:=Mo x;have H:=Mo y;refine go 5 ?_;refine jn (G:=Value×Value×Nat×Nat) [] [0,1,2] (λq=>[(0,q.1),(1,q.2.1)]) (λq=>[(91,Dj q.1 q.2.2.1),(92,Dj q.2.1 q.2.2.2)]) (λq=>(q.2.2.1+q.2.2.2=x+y)/\((dg U q.2.2.2).length<=(dg U q.2.2.1).length)/\((dg U q.2.2.1).length<=1099511627776)) ?_ ?_
 .refine go 9<|Ze J (λg=>?_) (λg=>?_)
  .refine go 6<|Zn (Xm 2 91 J J J)<|Zn (Xm 1 92 J J J) ?_;exact Od (w,v,y,x) ⟨O1,O1,O1⟩ K2 K2
  .refine go 1<|Zn (Xm 1 91 J J J)<|Zn (Xm 2 92 J J J) ?_;exact Od (v,w,x,y) ⟨O1,O1,O1⟩ K2 K2
 .rintro⟨N,P,a,b⟩ ⟨hs,s,j⟩;dsimp only at hs s j;dsimp only;refine go 5 ⟨O,?_⟩;refine tt (Il 3 ((dg U a).length+1) 8 (enc:=My) 0 J J J J Oi ti222 J pU.cells pU.pos J J J n.h) J λv _=>go 17 ?_;refine lp (G:=Nat×List Nat×Nat) [0,1,5,21] [0,91,92,1,2] (λq=>[(22,.int .i64 (q.1:Int)),(6,.int .u64 (q.2.2:Int))]) (λq=>[(3,Oe 1 222 My v q.2.1)]) (λq=>(q.1<=(dg U a).length)/\(q.2.1.length=(dg U a).length+1)/\(∀d∈q.2.1,d<U)/\(q.2.2<=1)/\(val U (q.2.1.take q.1)+q.2.2*U^q.1=val U ((dg U a).take q.1)+val U ((dg U b).take q.1))) (λq=>(dg U a).length-q.1) (0,List.replicate ((dg U a).length+1) 0,0) ⟨O1,O5,Nn Qj,O1,by simp [val]⟩ K2 K1 ?_;rintro⟨k,o,c⟩ ⟨z,l,e,u,f⟩;dsimp only at z l e u f;dsimp only;refine go 6<|Ze J (λh=>?_) (λh=>?_)
  .refine go 15 ?_;refine jn (G:=Unit) [0,1,5,6,7,21,22] [0,3,91,92,1,2] (λ_=>[(8,.int .u64 ((dg U b).getD k 0:Int))]) (λ_=>[]) (λ_=>True) ?_ ?_
   .refine go 8<|Ze J (λi=>?_) (λi=>?_)
    .refine go 7 ⟨O2,O2,?_⟩
     try (have p:(dg U b).getD k 0=0:=by simp [List.getD,bJ (by omega:(dg U b).length<=k)])
     exact Od () aA ⟨by first|rfl|(rw [p];rfl),aA⟩ aA
    .refine go 1 ?_
     try (have p:(dg U b).getD k 0=0:=by simp [List.getD,bJ (by omega:(dg U b).length<=k)])
     exact Od () aA ⟨by first|rfl|(rw [p];rfl),aA⟩ aA
   .rintro _ -;refine go 9 ⟨O2,O2,?_⟩;refine dt (Zsu _ J J J J O Zjd)<|go 4 ⟨O2,?_⟩;refine tt (Ln 3 (enc:=My) J J J J J J pU J n.h O3 O2) J (λ_ _=>?_);refine go 8 ⟨O,?_⟩;exact Ye (k+1,_,_) ⟨O1,O8,Ke e _ (bG _ Qj),by have B:=Qb Qj (Nx Qc a) k;have D:=Qb Qj (Nx Qc b) k;simp only [U]at *;omega,Yon f O⟩ O1 K2 K1
  .refine go 6 ?_;obtain rfl:k=(dg U a).length:=O;refine go 6 ⟨O2,?_⟩;refine tt (Ln 3 (enc:=My) J J J J J J pU J n.h O3 O2) J λ_ _=>go 5 ?_;refine cl 3 [3] Oo λ_ _=>?_;refine Yk (Zbc 3 J J pU)<|go 4 ?_;have t:tz (o.set (dg U a).length c)=dg U (x+y):=by
    rw [<-Kr Qc _ (Ke e _ (by simp only [U];omega)),<-hs];congr 1
    conv=>rhs;rw [<-Ld Qc a,<-Ld Qc b]
    rw [bR (aF (dg U a).length),Mn U (dg U b) _ s]at f;rw [<-f,<-Bp U o c O,Mn _ _ _ O8]
   exact Yp m _ results278 J aA (gow 3 Za t)
theorem Zg6(p:bl x<=4294967296)(j:y<=x:=by omega):Cal prog 280 #[v,w] [Dj v x,Dj w y] false (G:=Value) (λr=>True) (λr=>r) (λr=>[Dj r (x-y)]):=by
 refine Zg func280 ntmps280 λH F n h=>?_;have z:=Mo x;have B:=Mo y;have D:=Oh j;refine go 9 ?_;refine tt (Il 3 ((dg U x).length) 8 (enc:=My) 0 J J J J Oi ti222 J pU.cells pU.pos J J J n.h) J λv _=>go 17 ?_;refine lp (G:=Nat×List Nat×Nat) [0,1,5,13] [0,1,2] (λq=>[(14,.int .i64 (q.1:Int)),(6,.int .u64 (q.2.2:Int))]) (λq=>[(3,Oe 1 222 My v q.2.1)]) (λq=>(q.1<=(dg U x).length)/\(q.2.1.length=(dg U x).length)/\(∀d∈q.2.1,d<U)/\(q.2.2<=1)/\(val U (q.2.1.take q.1)+val U ((dg U y).take q.1)=val U ((dg U x).take q.1)+q.2.2*U^q.1)) (λq=>(dg U x).length-q.1) (0,List.replicate ((dg U x).length) 0,0) ⟨O1,O5,Nn Qj,O1,by simp [val]⟩ K2 K1 ?_;rintro⟨k,o,c⟩ ⟨u,b,a,m,i⟩;dsimp only at u b a m i;dsimp only;refine go 6<|Ze J (λe=>?_) (λe=>?_)
 .refine go 15 ?_;refine jn (G:=Unit) [0,1,5,6,7,13,14] [0,3,1,2] (λ_=>[(8,.int .u64 ((dg U y).getD k 0:Int))]) (λ_=>[]) (λ_=>True) ?_ ?_
  .refine go 8<|Ze J (λf=>?_) (λf=>?_)
   .refine go 7 ⟨O2,O2,?_⟩
    try (have l:(dg U y).getD k 0=0:=by simp [List.getD,bJ (by omega:(dg U y).length<=k)])
    exact Od () aA ⟨by first|rfl|(rw [l];rfl),aA⟩ aA
   .refine go 1 ?_
    try (have l:(dg U y).getD k 0=0:=by simp [List.getD,bJ (by omega:(dg U y).length<=k)])
    exact Od () aA ⟨by first|rfl|(rw [l];rfl),aA⟩ aA
  .rintro _ -;refine go 9 ⟨O2,O2,?_⟩;refine dt (Ysx J J J J O Yeo)<|go 4 ⟨O2,?_⟩;refine tt (Ln 3 (enc:=My) J J J J J J pU J n.h O3 O2) J (λ_ _=>?_);refine go 8 ⟨O,?_⟩;exact Ye (k+1,_,_) ⟨O1,O8,Ke a _ (bG _ Qj),Yn3,Yhm m (Qb Qj (Nx Qc x) k) (Qb Qj (Nx Qc y) k) i O⟩ O1 K2 K1
 .refine go 8 ?_;refine cl 3 [3] Oo λ_ _=>?_;refine Yk (Zbc 3 J J pU)<|go 4 ?_;obtain rfl:k=(dg U x).length:=O;have p:tz o=dg U (x-y):=by rw [<-Kr Qc _ a];congr 1;have g:(dg U y).length<=(dg U x).length:=O;rw [Mn U o _ O,Mn U (dg U y) _ g,Mn U (dg U x) _ (aF _),Ld Qc,Ld Qc]at i;have t:=Zib Qj o a;rw [b]at t;have s:c=0\/c=1:=O;rcases s with rfl|rfl<;>omega
  exact Yp h _ results280 J aA (gow 3 Za p)
theorem Zde(p:bl x<=4294967296)(q:bl y<=4294967296):Cal prog 279 #[v,w] [Dj v x,Dj w y] false (G:=Int) (λr=>(r<0↔x<y)/\(0<r↔y<x)) (λr=> .int .i64 r) (λr=>[]):=by
 refine Zg func279 ntmps279 λt s o a=>?_;have l:=Mo x;have m:=Mo y;refine go 15<|Ze J (λe=>?_) (λe=>?_)
 .refine go 12 ⟨O,?_⟩;exact Yp a _ results279 J ⟨⟨λh=>Zbo Qc O,λh=>by have:=Oh (dC h);omega⟩,⟨λh=>Zbo Qc O,λh=>by have:=Oh (dC h);omega⟩⟩ Za
 .have c:(dg U x).length=(dg U y).length:=O;refine go 12 ⟨O,?_⟩;refine lp (G:=Nat) [0,1] [0,1,2] (λk=>[(5,.int .i64 ((k:Int)-1))]) (λk=>[]) (λk=>(k<=(dg U x).length)/\((dg U x).drop k=(dg U y).drop k)) (λk=>k) (dg U x).length ⟨O1,by rw [fO,c,fO]⟩ K1 aA ?_;rintro k ⟨n,d⟩;refine go 7<|Ze J (λf=>?_) (λf=>?_)
  .refine go 6<|Qa (λ_=>False) [(0,0),(1,0),(2,0),(3,0),(4,0),(5,0),(6,0),(7,0),(8,0),(9,0)]<|go 2 ?_;refine Yz J J (Xn (Zs 1 (k-1) J J J J Zl Oi Kt))<|go 3 ⟨O2,?_⟩;refine Yz J J (Xn (Zs 2 (k-1) J J J J Zl Oi Kt))<|go 5 ⟨O2,?_⟩;refine Ze J (λg=>?_) (λg=>?_)
   .refine go 12 ?_;have b:=Zsz Qj (xs:=dg U x) (ys:=dg U y) (Nx Qc x) (k:=k-1) O O (by rw [show k-1+1=k by omega];exact d) O;rw [Ld Qc,Ld Qc]at b;exact Yp a (-1) results279 J O Za
   .refine go 1<|Qa (λ_=>False) [(0,0),(1,0),(2,0),(3,0),(4,0),(5,0),(6,0),(7,0),(8,0),(9,0)]<|go 2 ?_;refine Yz J J (Xn (Zs 1 (k-1) J J J J Zl Oi Kt))<|go 3 ⟨O2,?_⟩;refine Yz J J (Xn (Zs 2 (k-1) J J J J Zl Oi Kt))<|go 5 ⟨O2,?_⟩;refine Ze J (λi=>?_) (λi=>?_)
    .refine go 12 ?_;have b:=Zsz Qj (xs:=dg U y) (ys:=dg U x) (Nx Qc y) (k:=k-1) O O (by rw [show k-1+1=k by omega];exact d.symm) O;rw [Ld Qc,Ld Qc]at b;exact Yp a 1 results279 J O Za
    .refine go 9 ⟨O,?_⟩;exact Ye (k-1) ⟨O1,by have:=Zhp (dg U x) (dg U y) (k:=k-1) O O (by rw [show k-1+1=k by omega];exact d) O;exact this⟩ O1 ⟨by rw [show(((k-1:Nat):Int)-1)=(k:Int)-1-1 by omega];rfl,aA⟩ aA
  .refine go 11 ?_;obtain rfl:k=0:=O;have j:x=y:=(Zi7 Qc).1 (by simpa using d);exact Yp a 0 results279 J O Za
theorem Yn7(b:x<U)(c:y<U):Xp prog 377 #[.int .u64 (x:Int),.int .u64 (y:Int)] [] (.tuple #[.int .u64 ((x*y/U:Nat):Int),.int .u64 ((x*y%U:Nat):Int)]):=by refine Zg func377 ntmps377 λf e d a=>?_;simp only [U]at b c;refine go 9 ?_;refine dt (Ztx J J J b)<|go 6 ?_;refine dt (El 4294967296 (n:=32) J J J J J)<|go 6 ?_;refine dt (Ztx J J J c)<|go 6 ?_;refine dt (El 4294967296 (n:=32) J J J J J)<|go 7 ?_;refine dt (Bl J J J)<|go 7 ?_;refine dt (Bl J J J)<|go 1 ?_;refine dt (El 4294967296 (n:=32) J J J J J)<|dt (Am J J J)<|go 6 ?_;refine dt (Ztx J J J (bG _ Qj))<|go 6 ?_;refine dt (El 4294967296 (n:=32) J J J J J)<|go 8 ?_;refine dt (Bl J J J)<|dt (Am J J J)<|go 7 ?_;refine dt (Bl J J J)<|go 1 ?_;refine dt (Am J J J)<|go 1 ?_;refine dt (El 4294967296 (n:=32) J J J J J)<|dt (Am J J J)<|go 7 ?_;refine dt (Bl J J J)<|go 4 ?_;exact Nd a () results377 (by rw [Yk3 b c rfl rfl]) aA Za
theorem Ybt(F:bl x<=4294967296)(P:bl y<=4294967296):Cal prog 344 #[v,w] [Dj v x,Dj w y] false (G:=Value) (λr=>True) (λr=>r) (λr=>[Dj r (x*y)]):=by
 refine Zg func344 ntmps344 λR Q B z=>?_;have M:=Mo x;have N:=Mo y;refine go 12 ⟨O,?_⟩;refine tt (Il 3 ((dg U x).length+(dg U y).length) 8 (enc:=My) 0 J J J J Oi ti222 J pU.cells pU.pos J J J B.h) J λv _=>go 12 ?_;refine lp (G:=Nat×List Nat) [1,5,20,21] [0,1,2] (λq=>[(22,.int .i64 (q.1:Int))]) (λq=>[(3,Oe 1 222 My v q.2)]) (λq=>(q.1<=(dg U x).length)/\(q.2.length=(dg U x).length+(dg U y).length)/\(∀d∈q.2,d<U)/\(∀j,q.1+(dg U y).length<=j->q.2.getD j 0=0)/\(val U (q.2.take (q.1+(dg U y).length))=val U ((dg U x).take q.1)*y)) (λq=>(dg U x).length-q.1) (0,List.replicate ((dg U x).length+(dg U y).length) 0) ⟨O1,O5,Nn Qj,λj _=>Ic _ j,by simp [val,lP,Fd]⟩ K1 K1 ?_;rintro⟨i,o⟩ ⟨hi,s,g,H,t⟩;dsimp only at hi s g H t;dsimp only;refine go 6<|Ze J (λm=>?_) (λm=>?_)
 .refine go 27 ⟨O2,O2,?_⟩;refine lp (G:=Nat×List Nat×Nat) [1,5,6,7,20,21,22,27,28] [0,1,2] (λq=>[(29,.int .i64 (q.1:Int)),(8,.int .u64 (q.2.2:Int))]) (λq=>[(3,Oe 1 222 My v q.2.1)]) (λq=>(q.1<=(dg U y).length)/\(q.2.1.length=(dg U x).length+(dg U y).length)/\(∀d∈q.2.1,d<U)/\(∀j,i+(dg U y).length<=j->q.2.1.getD j 0=0)/\(q.2.2<U)/\(val U (q.2.1.take (i+(dg U y).length))+q.2.2*U^(i+q.1)=val U ((dg U x).take i)*y+(dg U x).getD i 0*U^i*val U ((dg U y).take q.1))) (λq=>(dg U y).length-q.1) (0,o,0) ⟨O1,s,g,H,Qj,by rw [t];simp [val]⟩ K2 K1 ?_;rintro⟨k,p,c⟩ ⟨I,u,a,l,f,h⟩;dsimp only at I u a l f h;dsimp only;have b:=Yfm (Qb Qj (Nx Qc x) i) (Qb Qj (Nx Qc y) k) (Qb Qj a (i+k)) f;refine go 6<|Ze J (λn=>?_) (λn=>?_)
  .refine go 17 ⟨O2,O2,?_⟩;refine cl 3 [] (Yn7 (Qb Qj (Nx Qc _) _) (Qb Qj (Nx Qc _) _)) λ_ _=>?_;refine go 14 ⟨O,?_⟩;refine dt (Zs 3 (i+k) J J J J (Yb pU) Oi Kt)<|go 1 ⟨O2,?_⟩;refine dt (Zsu 0 J J J J O Zjd)<|go 11 ?_;refine dt (Am J J J)<|go 7 ?_;refine dt (Zsu 0 J J J J O Zjd)<|go 15 ⟨O,?_⟩;refine dt (Am J J J)<|dt (Zs 3 (i+k) J J J J (Yb pU) Oi Kt)<|tt (Ln 3 (enc:=My) J J J J J J pU J B.h O3 O2) J (λ_ _=>?_);refine go 8 ⟨O,?_⟩;exact Ye (k+1,_,_) ⟨O1,O8,Ke a _ (bG _ Qj),λj D=>by rw [Nj O,aJ O];exact l j D,b.2,Yk2 h O O b.1⟩ O1 K2 K1
  .refine go 5 ?_;obtain rfl:k=(dg U y).length:=O;have e:=h;rw [bR (aF (dg U y).length),Ld Qc]at e;refine go 7 ⟨O,?_⟩;refine dt (Zs 3 (i+(dg U y).length) J J J J (Yb pU) Oi Kt)<|tt (Ln 3 (enc:=My) J J J J J J pU J B.h O3 O2) J (λ_ _=>?_);refine go 7 ⟨O,?_⟩;exact Ye (i+1,_) ⟨O1,O8,Ke a _ f,λj D=>by rw [Nj O,aJ O];exact l j O,by dsimp only;rw [show i+1+(dg U y).length=i+(dg U y).length+1 by omega,Bp _ _ _ O,Qt,cL,<-e]⟩ O1 K1 K1
 .refine go 8 ?_;refine cl 3 [3] Oo λ_ _=>?_;refine Yk (Zbc 3 J J pU)<|go 4 ?_;obtain rfl:i=(dg U x).length:=O;have F:tz o=dg U (x*y):=by rw [<-Kr Qc _ g];congr 1;rw [Mn U o _ O,bR (aF _),Ld Qc]at t;exact t
  exact Yp z _ results344 J aA (gow 3 Za F)
theorem Zxe(q:x<U):Xp prog 327 #[.int .u64 (x:Int)] [] (.int .i64 (bl x:Int)):=by
 refine Zg func327 ntmps327 λF D B g=>?_;simp only [U]at q;have c:=Gk x 32;have a:=Gk x 16;have l:=Gk x 8;have b:=Gk x 24;have d:=Gk x 40;have e:=Gk x 48;have f:=Gk x 56;have f32:=Zct 32 x;have f16:=Zct 16 x;have f8:=Zct 8 x;have f24:=Zct 24 x;have f40:=Zct 40 x;have f48:=Zct 48 x;have f56:=Zct 56 x;have r:=aS x (2^32) (2^16);have s:=aS x (2^32) (2^8);have t:=aS x (2^16) (2^8);have u:=aS (x/2^32) (2^16) (2^8);have z:=aS x (2^32) (2^16*2^8);simp only [Nat.reducePow,Nat.reduceMul]at *;refine go 12<|Ze J (λm=>?_) (λm=>?_)
 .refine go 3 ?_;refine dt (El 4294967296 (n:=32) J J J J J)<|go 14 ?_;refine Ze J (λo=>?_) (λo=>?_)
  .refine go 3 ?_;refine dt (El 65536 (n:=16) J J J J J)<|go 16 ⟨O,?_⟩;refine Ze J (λp=>?_) (λp=>?_)
   .refine go 3 ?_;refine dt (El 256 (n:=8) J J J J J)<|go 13 ⟨O,?_⟩;refine dt (Zfc J J Za8 uT5)<|dt (Zjz J J J uT9 J O O3 O7)<|dt (Zcl J J uT5 uT3 Zar)<|go 5 ⟨Cz O O,?_⟩;exact Yp g () results327 (Zaq x O (by first|omega|(simp only [aS,Nat.reduceMul,c,a,l,b,d,e,f];omega))).symm aA Za
   .refine go 6 ?_;refine dt (Zfc J J Za8 uT5)<|dt (Zjz J J J uT9 J O O3 O7)<|dt (Zcl J J uT5 uT3 Zar)<|go 5 ⟨Cz O O,?_⟩;exact Yp g () results327 (Zaq x O (by first|omega|(simp only [aS,Nat.reduceMul,c,a,l,b,d,e,f];omega))).symm aA Za
  .refine go 9<|Ze J (λi=>?_) (λi=>?_)
   .refine go 3 ?_;refine dt (El 256 (n:=8) J J J J J)<|go 13 ⟨O,?_⟩;refine dt (Zfc J J Za8 uT5)<|dt (Zjz J J J uT9 J O O3 O7)<|dt (Zcl J J uT5 uT3 Zar)<|go 5 ⟨Cz O O,?_⟩;exact Yp g () results327 (Zaq x O (by first|omega|(simp only [aS,Nat.reduceMul,c,a,l,b,d,e,f];omega))).symm aA Za
   .refine go 6 ?_;refine dt (Zfc J J Za8 uT5)<|dt (Zjz J J J uT9 J O O3 O7)<|dt (Zcl J J uT5 uT3 Zar)<|go 5 ⟨Cz O O,?_⟩;exact Yp g () results327 (Zaq x O (by first|omega|(simp only [aS,Nat.reduceMul,c,a,l,b,d,e,f];omega))).symm aA Za
 .refine go 9<|Ze J (λh=>?_) (λh=>?_)
  .refine go 3 ?_;refine dt (El 65536 (n:=16) J J J J J)<|go 16 ⟨O,?_⟩;refine Ze J (λj=>?_) (λj=>?_)
   .refine go 3 ?_;refine dt (El 256 (n:=8) J J J J J)<|go 13 ⟨O,?_⟩;refine dt (Zfc J J Za8 uT5)<|dt (Zjz J J J uT9 J O O3 O7)<|dt (Zcl J J uT5 uT3 Zar)<|go 5 ⟨Cz O O,?_⟩;exact Yp g () results327 (Zaq x O (by first|omega|(simp only [aS,Nat.reduceMul,c,a,l,b,d,e,f];omega))).symm aA Za
   .refine go 6 ?_;refine dt (Zfc J J Za8 uT5)<|dt (Zjz J J J uT9 J O O3 O7)<|dt (Zcl J J uT5 uT3 Zar)<|go 5 ⟨Cz O O,?_⟩;exact Yp g () results327 (Zaq x O (by first|omega|(simp only [aS,Nat.reduceMul,c,a,l,b,d,e,f];omega))).symm aA Za
  .refine go 9<|Ze J (λk=>?_) (λk=>?_)
   .refine go 3 ?_;refine dt (El 256 (n:=8) J J J J J)<|go 13 ⟨O,?_⟩;refine dt (Zfc J J Za8 uT5)<|dt (Zjz J J J uT9 J O O3 O7)<|dt (Zcl J J uT5 uT3 Zar)<|go 5 ⟨Cz O O,?_⟩;exact Yp g () results327 (Zaq x O (by first|omega|(simp only [aS,Nat.reduceMul,c,a,l,b,d,e,f];omega))).symm aA Za
   .refine go 6 ?_;refine dt (Zfc J J Za8 uT5)<|dt (Zjz J J J uT9 J O O3 O7)<|dt (Zcl J J uT5 uT3 Zar)<|go 5 ⟨Cz O O,?_⟩;exact Yp g () results327 (Zaq x O (by first|omega|(simp only [aS,Nat.reduceMul,c,a,l,b,d,e,f];omega))).symm aA Za
theorem Zte(b:x<U):Xp prog 284 #[.int .u64 (x:Int)] [] (.int .i64 ((64-bl x:Nat):Int)):=by refine Zg func284 ntmps284 λf e d a=>?_;have c:bl x<=64:=(Qo 64 x).2 b;refine go 8 ?_;refine cl 0 [] (Zxe b) λ_ _=>?_;refine go 5 ⟨O,?_⟩;exact Yp a () results284 (by congr 1;omega) aA Za
theorem Zmt(g:bl x<=1099511627776:=by omega):Xp prog 222 #[v] [Dj v x] (.int .i64 (bl x:Int)):=by
 refine Zg func222 ntmps222 λj i f b=>?_;have e:=Mo x;refine go 13<|Ze J (λa=>?_) (λa=>?_)
 .refine go 7 ?_;have c:x=0:=(Ok Qc x).1 O;exact Yp b () results222 (by rw [c];rfl) aA Za
 .have d:0<x:=by rcases bD x with rfl|h;(simp [Gv]at a);exact h
  obtain⟨k,l,m,n⟩:=Yaj d;refine go 11 ⟨O,O,?_⟩;refine dt (Zs 1 ((dg U x).length-1) J J J J Zl Oi Kt)<|go 1 ⟨O2,?_⟩;refine cl 1 [] (Zte (Qb Qj (Nx Qc _) _)) λ_ _=>?_;refine go 5 ⟨O,?_⟩;exact Yp b () results222 (by congr 1;omega) aA Za
theorem Ygg(g:xs.length*8<=140737488355328):Yub prog 378 #[v] [Yl 1 My v xs] (G:=Value) (λr=>True) (λr=>r) (λr=>Oe 1 222 My r xs):=by
 refine Yds func378 J ntmps378 J K1 ?_;intro j h d e;have d:=Hw.mk d;simp only [Pv,Xk];refine Xz (f_nil (i:=1) J Zl) λc=>go 9 ?_;refine dt (Yc6 J J J (i:=1) J Zl Oi)<|go 2 ?_;refine Pe J (λb=>?_) (λb=>?_)
 .refine go 7 ?_;obtain rfl:xs=[]:=c (by simpa using b);exact Zn (Qp 9 1 222 My)<|Zqf (.inl J) (.slice none 0 0) (λa w hs=>Zeu hs results378 J) J aA J 9 J J J
 .refine go 4 ?_;refine tt (Yhe 2 (enc:=My) J J J Oi pU J d.h) J λv _=>go 1 ?_;refine tt (Pk 2 1 8 J J J J J J O3 J Zl Oi ti222 J pU J J J O8 O3 J d.h) J λf _=>go 4 ?_;exact Zqf (.inl J) _ (λa w hs=>Zeu hs results378 J) J aA J 2 J (by rfl) J
theorem Zxf{h l:Nat}(hl:l<U)(hy:y<U)(hh:h<y):Xp prog 343 #[.int .u64 (h:Int),.int .u64 (l:Int),.int .u64 (y:Int)] [] (.tuple #[.int .u64 (((h*U+l)/y:Nat):Int),.int .u64 (((h*U+l)%y:Nat):Int)]):=by
 refine Zg func343 ntmps343 λw0 sc hw a8=>?_;have c0:U=18446744073709551616:=rfl;have hp:0<y:=O;have c1:bl y<=64:=(Qo 64 y).2 hy;obtain⟨s,hs⟩:∃s,s=64-bl y:=⟨_,rfl⟩;obtain⟨Y,g⟩:∃Y,Y=y*2^s:=⟨_,rfl⟩;obtain⟨b6,S⟩:=Ykw hp hy hs;rw [<-g]at b6 S;have V:=S;obtain⟨D,hD⟩:∃D,D=(h*U+l)*2^s:=⟨_,rfl⟩;obtain⟨u,Z⟩:∃u,u=D/U:=⟨_,rfl⟩;obtain⟨v,a0⟩:∃v,v=D%U:=⟨_,rfl⟩;obtain⟨v1,Q⟩:∃x,x=v/4294967296:=⟨_,rfl⟩;obtain⟨v0,P⟩:∃x,x=v%4294967296:=⟨_,rfl⟩;obtain⟨d,b1⟩:∃x,x=Y/4294967296:=⟨_,rfl⟩;obtain⟨N,a9⟩:∃x,x=Y%4294967296:=⟨_,rfl⟩;have e:Y=d*4294967296+N:=O;have b7:=shl_lt hh (show y*2^s<U by rw [<-g];exact S);have c3:u<Y:=by rw [Z,hD,g];exact top_lt hl hh
 have hu:u<d*4294967296+N:=O;have hvU:v<U:=by rw [a0];exact bG _ Qj
 have b0:2147483648<=d:=O;have i:d<4294967296:=O;have f:N<4294967296:=O;have M:v1<4294967296:=O;have I:v0<4294967296:=O;obtain⟨Q1,m⟩:∃x,x=(u*4294967296+v1)/Y:=⟨_,rfl⟩;obtain⟨t,H⟩:∃x,x=(u*4294967296+v1)%Y:=⟨_,rfl⟩;have c2:t<Y:=by rw [H];exact bG _ O
 have ht:t<d*4294967296+N:=O;obtain⟨Q0,k⟩:∃x,x=(t*4294967296+v0)/Y:=⟨_,rfl⟩;have R:0<Y:=O;obtain⟨a6,a7⟩:=dv_two (D:=D) R Z a0 Q P;rw [<-m,<-H,<-k]at a6;rw [<-H]at a7;have b8:Q0<4294967296:=by rw [k,e];exact dv_Q I ht
 have b9:Q1<4294967296:=by rw [m,e];exact dv_Q M hu
 refine go 13<|Ze J (λa1=>?_) (λa1=>?_)
 .exfalso;omega
 .refine go 10<|Ze J (λa2=>?_) (λa2=>?_)
  .exfalso;omega
  .refine go 9<|Ze J (λa3=>?_) (λa3=>?_)
   .refine go 1<|Qa (λ_=>False) [(0,0),(1,0),(2,0),(3,0),(4,0),(5,0),(6,0),(7,3)]<|go 2 ?_;refine Yz J J (Xn (Yg2 J J J))<|go 2 ?_;refine Yz J J (Xn (u_rem J J J O))<|go 6 ?_;exact Nd a8 () results343 (by have h0:h=0:=O;rw [h0];simp) aA Za
   .refine go 5 ?_;refine cl 0 [] (Zte hy) λ_ _=>?_;refine dt (Zzg J J uT3 underlying306 (by simp only [U];omega))<|go 4 ?_;refine Zf (Kg 8 (v':= .int .u64 (s:Int)) J (by rw [hs]))<|go 3 ?_;refine dt (Zow J J J J)<|go 4 ?_;refine Zf (Kg 2 (v':= .int .u64 (Y:Int)) J (by rw [g,bH (by rw [<-g];exact V)]))<|go 2 ?_;refine dt (El 4294967296 (n:=32) J J J J J)<|go 6 ?_;refine dt (Ztx J J J)<|go 7 ?_;refine dt (Zow J J J J)<|go 2 ?_;refine dt (Zey J J J (by first|exact bG _ Qj|omega))<|dt (Zov J J (n:=64-s) J (by simp only [U];omega))<|dt (Ypf J J J (bG _ Qj) (aV (dL _ _) hl))<|go 4 ?_;refine Zf (Kg 11 (v':= .int .u64 (u:Int)) J (by rw [Z,hD,Yki O b7 hl]))<|go 3 ?_;refine dt (Zow J J J J)<|go 4 ?_;refine Zf (Kg 12 (v':= .int .u64 (v:Int)) J (by rw [a0,hD,Yfo h l s]))<|go 2 ?_;refine dt (El 4294967296 (n:=32) J J J J J)<|go 4 ?_;refine Zf (Kg 13 (v':= .int .u64 (v1:Int)) J (by rw [Q]))<|go 2 ?_;refine dt (Ztx J J J)<|go 4 ?_;refine Zf (Kg 14 (v':= .int .u64 (v0:Int)) J (by rw [Zxi,P]))<|Zf (Kg 9 (v':= .int .u64 (d:Int)) J (by rw [b1]))<|Zf (Kg 10 (v':= .int .u64 (N:Int)) J (by rw [Zxi,a9]))<|go 3 ?_;refine dt (Yg2 J J J)<|go 8 ?_;refine dt (Bl J J J)<|dt (Zey J J J (by first|exact bG _ Qj|omega))<|go 3 ?_;refine jn (G:=Unit) [2,8,9,10,11,13,14] [0] (λ_=>[(15,.int .u64 ((Q1:Nat):Int))]) (λ_=>[]) (λ_=>True) ?_ ?_
    .refine go 1<|Zf (Kg 16 (v':= .int .u64 ((u%d:Nat):Int)) J (by rw [rsub O O])) ?_;refine lp (G:=Nat×Nat) [2,8,9,10,11,13,14] [0] (λq=>[(15,.int .u64 (q.1:Int)),(16,.int .u64 (q.2:Int))]) (λq=>[]) (λq=>(dvI u v1 d N q.1 q.2)/\(q.2<4294967296)) (λq=>q.1) (u/d,u%d) ⟨dv0 b0 i f M hu,fI (bG _ O) i⟩ K2 aA ?_;rintro⟨a,r⟩ ⟨j,hr⟩;dsimp only at j hr;dsimp only;have b4:=j.1;have b5:=j.2.1;refine go 6<|Zy 69 J (λb2=>?_) (λb2=>?_)
     .refine go 16 ?_;have b:=Zk4 O j M hu O;have c:=b.1;refine go 2 ?_;refine dt (Zey (n:=1) J J J)<|go 4 ?_;refine Zf (Kg 15 (v':= .int .u64 ((a-1:Nat):Int)) J (Zbz (Zwv c O)))<|go 3 ?_;refine dt (Am J J J)<|go 4 ?_;refine Zf (Kg 16 (v':= .int .u64 ((r+d:Nat):Int)) J (Zbz (bH O)))<|go 5<|Ze J (λa4=>?_) (λa4=>?_)
      .refine go 4 ?_;have z:Q1=a-1:=by rw [m,e];exact(Zhm O f b.2 O O).symm
       exact Od () aA ⟨by rw [z];rfl,aA⟩ aA
      .refine go 2 ?_;exact Ye (a-1,r+d) ⟨b.2,O9⟩ O1 K2 aA
     .have W:=Zvn (show a<4294967296 by omega) f;have e1:=bH (show a*N<U from W);have e2:=bH (show 4294967296*r<U by omega);have e3:=bH (show 4294967296*r+v1<U by omega);refine go 2 ?_;refine Di (Bl J J J) J J<|go 1 ?_;refine Di (Bl J J J) J J<|go 1 ?_;refine Di (Am J J J) J J<|go 4 ?_;refine Ze J (λo=>?_) (λo=>?_)
      .rw [e1,e2,e3]at o;refine go 4 ?_;have b:=Zk4 O j M hu O;have c:=b.1;refine go 2 ?_;refine dt (Zey (n:=1) J J J)<|go 4 ?_;refine Zf (Kg 15 (v':= .int .u64 ((a-1:Nat):Int)) J (Zbz (Zwv c O)))<|go 3 ?_;refine dt (Am J J J)<|go 4 ?_;refine Zf (Kg 16 (v':= .int .u64 ((r+d:Nat):Int)) J (Zbz (bH O)))<|go 5<|Ze J (λB=>?_) (λB=>?_)
       .refine go 4 ?_;have z:Q1=a-1:=by rw [m,e];exact(Zhm O f b.2 O O).symm
        exact Od () aA ⟨by rw [z];rfl,aA⟩ aA
       .refine go 2 ?_;exact Ye (a-1,r+d) ⟨b.2,O9⟩ O1 K2 aA
      .rw [e1,e2,e3]at o;refine go 4 ?_;have z:Q1=a:=by rw [m,e];exact(Zsr O j O).symm
       exact Od () aA ⟨by rw [z];rfl,aA⟩ aA
    .rintro _ -;refine go 3 ?_;refine dt (Bl J J J)<|go 1 ?_;refine dt (Am J J J)<|go 2 ?_;refine dt (Bl J J J)<|dt (Zey J J J (by first|exact bG _ Qj|omega))<|go 4 ?_;refine Zf (Kg 17 (v':= .int .u64 (t:Int)) J (by rw [H,m,Ycv R V]))<|go 3 ?_;refine dt (Yg2 J J J)<|go 8 ?_;refine dt (Bl J J J)<|dt (Zey J J J (by first|exact bG _ Qj|omega))<|go 3 ?_;refine jn (G:=Unit) [2,8,14,15,17] [0] (λ_=>[(18,.int .u64 ((Q0:Nat):Int))]) (λ_=>[]) (λ_=>True) ?_ ?_
     .refine go 1<|Zf (Kg 16 (v':= .int .u64 ((t%d:Nat):Int)) J (by rw [rsub O O])) ?_;refine lp (G:=Nat×Nat) [2,8,9,10,14,15,17] [0] (λq=>[(18,.int .u64 (q.1:Int)),(16,.int .u64 (q.2:Int))]) (λq=>[]) (λq=>(dvI t v0 d N q.1 q.2)/\(q.2<4294967296)) (λq=>q.1) (t/d,t%d) ⟨dv0 b0 i f I ht,fI (bG _ O) i⟩ K2 aA ?_;rintro⟨a,r⟩ ⟨j,hr⟩;dsimp only at j hr;dsimp only;have b4:=j.1;have b5:=j.2.1;refine go 6<|Zy 104 J (λb3=>?_) (λb3=>?_)
      .refine go 16 ?_;have b:=Zk4 O j I ht O;have c:=b.1;refine go 2 ?_;refine dt (Zey (n:=1) J J J)<|go 4 ?_;refine Zf (Kg 18 (v':= .int .u64 ((a-1:Nat):Int)) J (Zbz (Zwv c O)))<|go 3 ?_;refine dt (Am J J J)<|go 4 ?_;refine Zf (Kg 16 (v':= .int .u64 ((r+d:Nat):Int)) J (Zbz (bH O)))<|go 5<|Ze J (λa5=>?_) (λa5=>?_)
       .refine go 4 ?_;have z:Q0=a-1:=by rw [k,e];exact(Zhm O f b.2 O O).symm
        exact Od () aA ⟨by rw [z];rfl,aA⟩ aA
       .refine go 2 ?_;exact Ye (a-1,r+d) ⟨b.2,O9⟩ O1 K2 aA
      .have W:=Zvn (show a<4294967296 by omega) f;have e1:=bH (show a*N<U from W);have e2:=bH (show 4294967296*r<U by omega);have e3:=bH (show 4294967296*r+v0<U by omega);refine go 2 ?_;refine Di (Bl J J J) J J<|go 1 ?_;refine Di (Bl J J J) J J<|go 1 ?_;refine Di (Am J J J) J J<|go 4 ?_;refine Ze J (λp=>?_) (λp=>?_)
       .rw [e1,e2,e3]at p;refine go 4 ?_;have b:=Zk4 O j I ht O;have c:=b.1;refine go 2 ?_;refine dt (Zey (n:=1) J J J)<|go 4 ?_;refine Zf (Kg 18 (v':= .int .u64 ((a-1:Nat):Int)) J (Zbz (Zwv c O)))<|go 3 ?_;refine dt (Am J J J)<|go 4 ?_;refine Zf (Kg 16 (v':= .int .u64 ((r+d:Nat):Int)) J (Zbz (bH O)))<|go 5<|Ze J (λF=>?_) (λF=>?_)
        .refine go 4 ?_;have z:Q0=a-1:=by rw [k,e];exact(Zhm O f b.2 O O).symm
         exact Od () aA ⟨by rw [z];rfl,aA⟩ aA
        .refine go 2 ?_;exact Ye (a-1,r+d) ⟨b.2,O9⟩ O1 K2 aA
       .rw [e1,e2,e3]at p;refine go 4 ?_;have z:Q0=a:=by rw [k,e];exact(Zsr O j O).symm
        exact Od () aA ⟨by rw [z];rfl,aA⟩ aA
     .rintro _ -;refine go 3 ?_;refine dt (Bl J J J)<|go 1 ?_;refine dt (Am J J J)<|go 1 ?_;refine dt (Bl J J J)<|go 1 ?_;refine dt (Am J J J)<|go 2 ?_;refine dt (Bl J J J)<|dt (Zey J J J (by first|exact bG _ Qj|omega))<|go 1 ?_;refine dt (Zov J J J J)<|go 5 ?_;have hA:(Q1*4294967296%U+Q0)%U=(h*U+l)/y:=by rw [<-Zo9 _ y s,<-hD,<-g,a6];simp only [U];omega
      have hB:((t*4294967296%U+v0)%U+(U-(Q0*Y)%U))%U/2^s=(h*U+l)%y:=by rw [<-Zo8 _ y s,<-hD,<-g,a7,k,Ycv R V]
      exact Nd a8 () results343 (by rw [hA,hB]) aA Za
theorem Yfl{d:Nat}(s:bl x<=8589934592)(f:0<d)(g:d<U):Cal prog 341 #[v,.int .u64 (d:Int)] [Dj v x] false (G:=Value) (λr=>True) (λr=> .tuple #[r,.int .u64 ((x%d:Nat):Int)]) (λr=>[Dj r (x/d)]):=by
 refine Zg func341 ntmps341 λu t j i=>?_;have p:=Mo x;refine go 10 ?_;refine tt (Il 2 ((dg U x).length) 8 (enc:=My) 0 J J J J Oi ti222 J pU.cells pU.pos J J J j.h) J (λv _=>?_);refine go 18 ⟨O,?_⟩;refine lp (G:=Nat×List Nat×Nat) [0,1,6] [0,1] (λq=>[(8,.int .i64 ((q.1:Int)-1)),(7,.int .u64 (q.2.2:Int))]) (λq=>[(2,Oe 1 222 My v q.2.1)]) (λq=>(q.1<=(dg U x).length)/\(q.2.1.length=(dg U x).length)/\(q.2.2<d)/\(∀d∈q.2.1,d<U)/\(val U (q.2.1.drop q.1)*d+q.2.2=val U ((dg U x).drop q.1))) (λq=>q.1) ((dg U x).length,List.replicate (dg U x).length 0,0) ⟨aF _,O5,O1,Nn Qj,by simp [val]⟩ K2 K1 ?_;rintro⟨k,o,r⟩ ⟨l,h,c,a,e⟩;dsimp only at l h c a e;dsimp only;refine go 7<|Ze J (λb=>?_) (λb=>?_)
 .refine go 10 ?_;refine dt (Zs 1 (k-1) J J J J Zl Oi Kt)<|go 2 ⟨O2,?_⟩;refine cl 2 [] (Zxf (Qb Qj (Nx Qc _) _) g c) λ_ _=>go 3 ?_;refine dt (Zs 2 (k-1) J J J J (Yb pU) Oi Kt)<|tt (Ln 2 (enc:=My) J J J J J J pU J j.h O3 O2) J (λ_ _=>?_);refine go 9 ⟨O,?_⟩;exact Ye (k-1,_,_) ⟨O1,O8,bG _ f,Ke a _ (Zwm (Qb Qj (Nx Qc x) _) c),Zxu f O O (by rw [show k-1+1=k by omega];exact e)⟩ O1 ⟨by rw [show(((k-1:Nat):Int)-1)=(k:Int)-1-1 by omega];rfl,rfl,aA⟩ K1
 .refine go 8 ?_;refine cl 2 [2] Oo λ_ _=>?_;refine Yk (Zbc 2 J J pU)<|go 6 ?_;obtain rfl:k=0:=O;rw [fP,fP,Ld Qc]at e;have n:tz o=dg U (x/d):=by rw [<-Kr Qc _ a,<-e,bO,gI f,cS c,eJ]
  have m:r=x%d:=by rw [<-e,bO,iO,bH c]
  exact Nd i _ results341 (by rw [m]) aA (gow 2 Za n)
theorem Zrq{s:Nat}(W:bl x<=4294967296:=by omega)(hs:s<=4294967296:=by omega):Cal prog 342 #[v,.int .i64 (s:Int)] [Dj v x] false (G:=Value) (λr=>True) (λr=>r) (λr=>[Dj r (x*2^s)]):=by
 refine Zg func342 ntmps342 λZ Y I B=>?_;obtain⟨w,S⟩:∃w,w=s/64:=⟨_,rfl⟩;obtain⟨b,Q⟩:∃b,b=s%64:=⟨_,rfl⟩;have V:=Mo x;refine go 13<|Ze J (λm=>?_) (λm=>?_)
 .refine go 7<|Zn (Qp 9 1 222 My) ?_;have M:x=0:=(Ok Qc x).1 O;exact Yp B (.slice none 0 0) results342 J aA (gow 9 Za (by rw [M,fW];rfl))
 .refine go 5 ?_;refine dt (Zfb J J J O O O)<|go 1 ?_;refine dt (Znr J J J O O)<|go 5 ?_;refine Zf (Kg 5 (v':= .int .i64 (w:Int)) J (by congr 1;omega))<|Zf (Kg 6 (v':= .int .i64 (b:Int)) J (by congr 1;omega))<|go 6 ⟨O,O,?_⟩;refine tt (Il 2 ((dg U x).length+w+1) 8 (enc:=My) 0 J J J J Oi ti222 J pU.cells pU.pos J J J I.h) J λv _=>go 12 ?_;refine lp (G:=Nat×List Nat) [5,6,7,23,24] [0,1] (λq=>[(25,.int .i64 (q.1:Int))]) (λq=>[(2,Oe 1 222 My v q.2)]) (λq=>(q.1<=(dg U x).length)/\(q.2.length=(dg U x).length+w+1)/\(q.2.getD (w+q.1) 0<2^b)/\(∀j,w+q.1<j->q.2.getD j 0=0)/\(∀d∈q.2,d<U)/\(val U (q.2.take ((dg U x).length+w+1))=val U ((dg U x).take q.1)*2^b*U^w)) (λq=>(dg U x).length-q.1) (0,List.replicate ((dg U x).length+w+1) 0) ⟨O1,O5,by rw [Ic];exact dH b,λj _=>Ic _ j,Nn Qj,by rw [lP,Fd];simp [val]⟩ K1 K1 ?_;rintro⟨i,o⟩ ⟨hi,z,P,l,a,F⟩;dsimp only at hi z P l a F;dsimp only;have D:i<(dg U x).length->_:=λR=>Yia (xs:=dg U x) (show b<=63 by omega) z.symm (show w+i+1<_ by omega) P (l (w+i+1) O) (Qb Qj (Nx Qc x) i) F;refine go 6<|Ze J (λp=>?_) (λp=>?_)
  .refine go 14 ⟨O2,O2,?_⟩;have f:=Qb Qj (Nx Qc x) i;refine Qa (λ_=>False) [(0,0),(1,0),(2,0),(3,0),(4,0),(5,0),(6,0),(7,0),(8,0),(9,0),(10,0),(11,3)]<|go 4 ⟨O,?_⟩;refine Yz J J (Xn (Zs 2 (w+i) J J J J (Yb pU) Oi Kt))<|go 3 ⟨O2,?_⟩;refine Yz J J (Xn (Zow J J (n:=b) J J))<|Yz J J (Xn (Ypf J J J (Qb Qj a _) (bG _ Qj)))<|Yz J J (Xn (Zs 2 (w+i) J J J J (Yb pU) Oi Kt))<|r3' J (Ln 2 (enc:=My) J J J J J J pU J I.h O3 O2) λ_ _=>go 8 ?_;refine Ze J (λt=>?_) (λt=>?_)
   .have c:=Ke (Ke a (w+i) (d:=o.getD (w+i) 0 ||| (dg U x).getD i 0*2^b%U) (iS (n:=64) (Qb Qj a _) (bG _ Qj))) (w+i+1) (d:=(dg U x).getD i 0/2^(64-b)) (aV (dL _ _) f);have g:((o.set (w+i) (o.getD (w+i) 0 ||| (dg U x).getD i 0*2^b%U)).set (w+i+1) ((dg U x).getD i 0/2^(64-b))).getD (w+i+1) 0<2^b:=by rw [Nj O8,aP rfl];exact Zf0 O f
    have k:∀j,w+i+1<j->((o.set (w+i) (o.getD (w+i) 0 ||| (dg U x).getD i 0*2^b%U)).set (w+i+1) ((dg U x).getD i 0/2^(64-b))).getD j 0=0:=λj u=>by rw [Nj O8,aJ O,Nj O,aJ O];exact l j O
    have e:=D O;refine go 9 ⟨O,O,O,?_⟩;refine dt (Zov J J (n:=64-b) J O)<|dt (Zs 2 (w+i+1) J J J J (Yb pU) Oi Kt O (by simp only [cT];omega))<|tt (Ln 2 (enc:=My) J J J J J J pU J I.h O3 (by simp only [cT];omega)) J (λ_ _=>?_);refine go 7 ⟨O,?_⟩;exact Ye (i+1,_) ⟨O1,O8,by dsimp only;rw [show w+(i+1)=w+i+1 by omega];exact g,λj u=>by have H:w+(i+1)<j:=u;dsimp only;exact k j O,c,e⟩ O1 K1 K1
   .obtain rfl:b=0:=O;have c:=Ke a (w+i) (d:=o.getD (w+i) 0 ||| (dg U x).getD i 0*2^0%U) (iS (n:=64) (Qb Qj a _) (bG _ Qj));have g:(o.set (w+i) (o.getD (w+i) 0 ||| (dg U x).getD i 0*2^0%U)).getD (w+i+1) 0<2^0:=by rw [Nj O,aJ O,l _ O];exact dH 0
    have k:∀j,w+i+1<j->(o.set (w+i) (o.getD (w+i) 0 ||| (dg U x).getD i 0*2^0%U)).getD j 0=0:=λj u=>by rw [Nj O,aJ O];exact l j O
    have e:=D O;rw [show(dg U x).getD i 0/2^(64-0)=0 from cS f]at e;have h:=Zol (o.set (w+i) (o.getD (w+i) 0 ||| (dg U x).getD i 0*2^0%U)) (w+i+1) (by rw [Nj O,aJ O,l _ O]);rw [h]at e;refine go 7 ⟨O,?_⟩;exact Ye (i+1,_) ⟨O1,O8,by dsimp only;rw [show w+(i+1)=w+i+1 by omega];exact g,λj u=>by have H:w+(i+1)<j:=u;dsimp only;exact k j O,c,e⟩ O1 K1 K1
  .refine go 8 ?_;refine cl 2 [2] Oo λ_ _=>?_;refine Yk (Zbc 2 J J pU)<|go 4 ?_;obtain rfl:i=(dg U x).length:=O;have N:tz o=dg U (x*2^s):=by rw [<-Kr Qc _ a];congr 1;rw [Mn U o _ O,bR (aF _),Ld Qc,Zdz,eC,<-bP,show b+64*w=s by omega]at F;exact F
   exact Yp B _ results342 J aA (gow 2 Za N)
theorem Yrd{s:Nat}(R:bl x<=8589934592)(hs:s<=8589934592):Cal prog 345 #[v,.int .i64 (s:Int)] [Dj v x] false (G:=Value) (λr=>True) (λr=>r) (λr=>[Dj r (x/2^s)]):=by
 refine Zg func345 ntmps345 λV S F D=>?_;obtain⟨w,m⟩:∃w,w=s/64:=⟨_,rfl⟩;obtain⟨b,k⟩:∃b,b=s%64:=⟨_,rfl⟩;have Q:=Mo x;have N:((dg U x).drop w).length=(dg U x).length-w:=iY;refine go 8 ?_;refine dt (Zfb J J J O O O)<|go 1 ?_;refine dt (Znr J J J O O)<|go 6 ?_;refine Zf (Kg 5 (v':= .int .i64 (w:Int)) J (by congr 1;omega))<|Zf (Kg 6 (v':= .int .i64 (b:Int)) J (by congr 1;omega))<|go 7<|Ze J (λu=>?_) (λu=>?_)
 .refine go 7<|Zn (Qp 9 1 222 My) ?_;have H:x/2^s=0:=by rw [Zbb m k,cS ((Xq Qc w x).1 O),Nat.zero_div]
  exact Yp D (.slice none 0 0) results345 J aA (gow 9 Za (by rw [H];rfl))
 .refine go 6 ?_;refine dt (d_suf (ii:=1) (i:=w) J J J J Zl Oi Kt O O)<|Yk (s_suf 1 2 w J J O)<|tt (Zqk 3 (Ygg (by simp only [iY];omega)) J J J K1 call378 (Zp 2 J J J Zq) J F.h) J λv _=>go 3 ?_;refine jn (G:=List Nat) [7] [0,1,2] (λo=>[]) (λo=>[(3,Oe 1 222 My v o)]) (λo=>(o.length=(dg U x).length-w)/\(∀j,j<o.length->o.getD j 0=x/2^s/U^j%U)) ?_ ?_
  .refine go 6<|Ze J (λz=>?_) (λz=>?_)
   .refine go 8 ?_;refine lp (G:=Nat×List Nat) [0,5,6,7,24] [0,1,2] (λq=>[(25,.int .i64 (q.1:Int))]) (λq=>[(3,Oe 1 222 My v q.2)]) (λq=>(q.1<=(dg U x).length-w)/\(q.2.length=(dg U x).length-w)/\(∀j,j<q.1->q.2.getD j 0=x/2^s/U^j%U)/\(∀j,q.1<=j->q.2.getD j 0=x/U^w/U^j%U)/\(∀d∈q.2,d<U)) (λq=>(dg U x).length-w-q.1) (0,(dg U x).drop w) ⟨aX _,O5,λj f=>absurd f (aR j),λj _=>Ycy x w j,λd M=>Nx Qc x d (lD M)⟩ K1 K1 ?_;rintro⟨i,o⟩ ⟨hi,t,p,l,a⟩;dsimp only at hi t p l a;dsimp only;refine go 6<|Ze J (λB=>?_) (λB=>?_)
    .refine go 17 ⟨O2,O2,?_⟩;refine dt (Zov J J (n:=b) J J)<|go 1 ⟨O2,?_⟩;refine tt (Ln 3 (enc:=My) J J J J J J pU J F.h O3 O2) J (λ_ _=>?_);refine go 11 ⟨O,?_⟩;refine Ze J (λg=>?_) (λg=>?_)
     .simp only [cT]at g;have c:∀j,((o.set i (o.getD i 0/2^b)).set i ((o.set i (o.getD i 0/2^b)).getD i 0 ||| ((dg U x).getD (w+i+1) 0*2^(64-b))%U)).getD j 0=if i=j then x/2^s/U^i%U else o.getD j 0:=λj=>by
       rw [Nj O8,Nj O,Nj O];split
       .rw [aP rfl,l i (aF _),Hs Qc,Zbb m k,Zwp,show x/U^(w+i+1)=x/U^w/U^i/U by rw [aS,aS,<-cH,<-bP];rfl,Zuc _ _ O]
       .rfl
      have h:=Ke (Ke a i (d:=o.getD i 0/2^b) (aV (dL _ _) (Qb Qj a _))) i (d:=(o.set i (o.getD i 0/2^b)).getD i 0 ||| ((dg U x).getD (w+i+1) 0*2^(64-b))%U) (iS (n:=64) (Qb Qj (Ke a _ (aV (dL _ _) (Qb Qj a _))) _) (bG _ Qj));refine Qa (λ_=>False) [(0,0),(1,0),(2,0),(3,0),(4,0),(5,0),(6,0),(7,0),(8,0),(9,0),(10,0),(11,0),(12,0),(13,0),(14,0),(15,0),(16,3)]<|go 9 ⟨O2,O2,O,O,?_⟩;refine Yz J J (Xn (Zs 1 (w+i+1) J J J J Zl Oi Kt O O2))<|go 3 ⟨O2,O,?_⟩;refine Yz J J (Xn (Zow J J (n:=64-b) J O))<|Yz J J (Xn (Ypf J J J (Qb Qj (Ke a _ (aV (dL _ _) (Qb Qj a _))) _) (bG _ Qj)))<|go 1 ⟨O2,?_⟩;refine r3' J (Ln 3 (enc:=My) J J J J J J pU J F.h O3 O2) (λ_ _=>?_);refine go 7 ⟨O,?_⟩;exact Ye (i+1,_) ⟨O1,O8,λj f=>by dsimp only;rw [c j];split;(· rename_i e;rw [<-e]);exact p j (by have:j<i+1:=f;omega),λj f=>by dsimp only;rw [c j,aJ (by have:i+1<=j:=f;omega)];exact l j (by have:i+1<=j:=f;omega),h⟩ O1 K1 K1
     .have c:∀j,(o.set i (o.getD i 0/2^b)).getD j 0=if i=j then x/2^s/U^i%U else o.getD j 0:=λj=>by
       rw [Nj O];split
       .rw [l i (aF _),Zbb m k,Zwp,Yeu O];rw [aS,<-cH];exact cS (Yb4 (by simp only [cT]at g;omega))
       .rfl
      have h:=Ke a i (d:=o.getD i 0/2^b) (aV (dL _ _) (Qb Qj a _));refine go 7 ⟨O,?_⟩;exact Ye (i+1,_) ⟨O1,O8,λj f=>by dsimp only;rw [c j];split;(· rename_i e;rw [<-e]);exact p j (by have:j<i+1:=f;omega),λj f=>by dsimp only;rw [c j,aJ (by have:i+1<=j:=f;omega)];exact l j (by have:i+1<=j:=f;omega),h⟩ O1 K1 K1
    .refine go 4 ?_;exact Od _ ⟨O,by intro j f;rw [p j O]⟩ aA K1
   .refine go 1 ?_;exact Od _ ⟨O5,by intro j f;rw [Ycy,Zbb m k,show b=0 by omega,fU,mR]⟩ aA K1
  .rintro o ⟨t,P⟩;refine go 3 ?_;refine cl 3 [3] Oo λ_ _=>?_;refine Yk (Zbc 3 J J pU)<|go 4 ?_;have I:tz o=dg U (x/2^s):=Zxr Qc P (by rw [t,Zbb m k];exact aV (dL _ _) (Yb4 O));exact Yp D _ results345 J aA (gow 3 Za I)
theorem Zps(t:bl x<=4294967296:=by omega):Xp prog 223 #[v] [Dj v x] (.string (Qy x)):=by
 refine Zg func223 ntmps223 λz u h g=>?_;have s:=Mo x;have p:=Zi0 x;have r:=lenU x;have m:(List.replicate (dg 256 x).length (0:Nat)).length=(dg 256 x).length:=aU;refine go 8 ?_;refine cl 1 [1] Zmt λ_ _=>?_;refine go 1 ⟨O,?_⟩;refine dt (Zfb J J J O O O)<|tt (Il 2 ((dg 256 x).length) 1 (enc:=Zj7) 0 J J J J Zjf ti5 J pB.cells pB.pos J J J h.h) J λv _=>go 12 ?_;refine lp (G:=Nat×List Nat) [0,3,12] [0,1] (λq=>[(13,.int .i64 (q.1:Int))]) (λq=>[(2,Oe 1 5 Zj7 v q.2)]) (λq=>(q.1<=(dg 256 x).length)/\(q.2.length=(dg 256 x).length)/\(∀j,j<q.1->q.2.getD j 0=x/256^((dg 256 x).length-1-j)%256)) (λq=>(dg 256 x).length-q.1) (0,List.replicate (dg 256 x).length 0) ⟨O1,O5,λj d=>absurd d (aR j)⟩ K1 K1 ?_;rintro⟨i,o⟩ ⟨hi,f,b⟩;dsimp only at hi f b;dsimp only;refine go 6<|Ze J (λc=>?_) (λc=>?_)
 .refine go 20 ⟨O,O,?_⟩;refine Zf (Kg 5 (v':= .int .i64 (((dg 256 x).length-1-i:Nat):Int)) J (by congr 1;omega)) ?_;have a:=Zs7 x ((dg 256 x).length-1-i);rw [<-Hs Qc]at a;refine go 5 ?_;refine dt (Zfb J J J O O O)<|dt (Zs 1 (((dg 256 x).length-1-i)/8) J J J J Zl Oi Kt)<|go 2 ⟨O,?_⟩;refine dt (Znr J J J O O)<|go 1 ⟨O,?_⟩;refine dt (Zov J J (n:=((dg 256 x).length-1-i)%8*8) J O)<|dt (Zfc J J Za8 uT5)<|go 1 ⟨O2,?_⟩;refine tt (Ln 2 (enc:=Zj7) J J J J J J pB J h.h O3 O2) J (λ_ _=>?_);refine go 7 ⟨O,?_⟩;exact Ye (i+1,_) ⟨O1,O8,λj d=>by dsimp only;rw [Nj O];split;(· rename_i e;rw [<-e];exact a);exact b j O⟩ O1 K1 K1
 .refine go 8 ?_;refine dt (d_b2s J J (i:=2) J (Yb pB) Zjf uT9 uT5)<|go 4 ?_;have k:Qy x=⟨(o.map UInt8.ofNat).toArray⟩:=by
   have l:o=(dg 256 x).reverse:=by refine Zfy O8 (λj d=>?_);rw [b j O,Zr5 O,Hs O]
   rw [l];rfl
  exact Yp g () results223 (by rw [k]) aA Za
theorem Zd2(D:bl x<=4294967296:=by omega):Cal prog 224 #[.string (Qy x)] [] false (G:=Value) (λr=>True) (λr=>r) (λr=>[Dj r x]):=by
 refine Zg func224 ntmps224 λH F b m=>?_;have B:=Mo x;have u:=Zi0 x;have z:=lenU x;have p:=Ei x;refine go 10 ⟨O,?_⟩;refine dt (Zfb J J J O O O)<|tt (Il 1 ((dg U x).length) 8 (enc:=My) 0 J J J J Oi ti222 J pU.cells pU.pos J J J b.h) J λv _=>go 12 ?_;refine lp (G:=Nat×List Nat) [0,3,12] [0] (λq=>[(13,.int .i64 (q.1:Int))]) (λq=>[(1,Oe 1 222 My v q.2)]) (λq=>(q.1<=(dg 256 x).length)/\(q.2.length=(dg U x).length)/\(∀w,w<q.2.length->q.2.getD w 0=hi x ((dg 256 x).length-q.1) w)) (λq=>(dg 256 x).length-q.1) (0,List.replicate (dg U x).length 0) ⟨O1,O5,λw b=>by dsimp only at *;rw [aU]at b;rw [Ic,hi_top O]⟩ K1 K1 ?_;rintro⟨i,o⟩ ⟨l,f,a⟩;dsimp only at l f a;dsimp only;refine go 6<|Ze J (λk=>?_) (λk=>?_)
 .refine go 20 ⟨O,O,?_⟩;refine Zf (Kg 5 (v':= .int .i64 (((dg 256 x).length-1-i:Nat):Int)) J (by congr 1;omega)) ?_;have c:=Zn2 x i O;have h:=a (((dg 256 x).length-1-i)/8) O;have d:o.getD (((dg 256 x).length-1-i)/8) 0<U:=by rw [h];exact bG _ Qj
  have g:∀w,w<o.length->(o.set (((dg 256 x).length-1-i)/8) (o.getD (((dg 256 x).length-1-i)/8) 0 ||| (((Qy x).data.toList.getD i 0).toNat*2^(((dg 256 x).length-1-i)%8*8))%U)).getD w 0=hi x ((dg 256 x).length-(i+1)) w:=λw b=>by
   rw [c,h,show(dg 256 x).length-i=(dg 256 x).length-1-i+1 by omega,Yr4,Nj O,show(dg 256 x).length-(i+1)=(dg 256 x).length-1-i by omega];split
   .rename_i e;rw [e]
   .rename_i e;rw [a w b,show(dg 256 x).length-i=(dg 256 x).length-1-i+1 by omega];exact Yl0 e
  refine Qa (λ_=>False) [(0,0),(1,0),(2,0),(3,0),(4,0),(5,0),(6,0),(7,0),(8,0),(9,0),(10,0),(11,0),(12,0),(13,0),(14,0),(15,3)]<|go 2 ?_;refine Yz J J (Xn (Zfb J J J O O O))<|Yz J J (Xn (Zs 1 (((dg 256 x).length-1-i)/8) J J J J (Yb pU) Oi Kt))<|go 3 ⟨O2,?_⟩;refine Yz J J (Xn (Yc5 J J J uT9 J O))<|Yz J J (Xn (Zzg J J uT5 Za8 (by have:=(((Qy x).data.toList.getD i 0).toNat_lt);simp only [U];omega)))<|go 1 ?_;refine Yz J J (Xn (Znr J J J O O))<|go 1 ⟨O,?_⟩;refine Yz J J (Xn (Zow J J (n:=((dg 256 x).length-1-i)%8*8) J O))<|Yz J J (Xn (Ypf J J J d (bG _ Qj)))<|Yz J J (Xn (Zs 1 (((dg 256 x).length-1-i)/8) J J J J (Yb pU) Oi Kt))<|r3' J (Ln 1 (enc:=My) J J J J J J pU J b.h O3 O2) (λ_ _=>?_);refine go 7 ⟨O,?_⟩;exact Ye (i+1,_) ⟨O1,O8,λw b=>g w (by simpa using b)⟩ O1 K1 K1
 .refine go 12 ?_;have t:o=dg U x:=Zfy f (λj s=>by rw [a j s,Hs Qc,hi_ge O]);exact Yp m _ results224 J aA (gow 1 Za t)
theorem Ybu(hx:bl x<=4000000000)(e0:bl y<=4000000000)(hy:0<y):Cal prog 285 #[v,w] [Dj v x,Dj w y] true (G:=Value×Value) (λr=>True) (λr=> .tuple #[r.1,r.2]) (λr=>[Dj r.1 (x/y),Dj r.2 (x%y)]):=by
 refine Zg func285 ntmps285 λw0 sc p P=>?_;have hX:=Mo x;have hY:=Mo y;refine go 11 ?_;refine cl 2 [1,2] (Zde O O) λr hr=>go 3<|Ze J (λS=>?_) (λS=>?_)
 .have o:x<y:=hr.1.1 O;refine go 9<|Zn (Qp 9 1 222 My) ?_;exact Nd P (.slice none 0 0,v) results285 J aA (gow 9 (Pb 1 Za (by rw [bH o])) (by rw [cS o];rfl))
 .have c4:y<=x:=by have:=hr.1;omega
  have d9:=Oh c4;refine go 10<|Ze J (λV=>?_) (λV=>?_)
  .have Q:y<U:=by have:=(Xq Qc 1 y).1 O;simpa using this
   have m:(dg U y).getD 0 0=y:=by rw [Hs Qc];simp [bH Q]
   refine go 6 ⟨O,O2,?_⟩;refine cl 3 [1] (Yfl O (by rw [m];exact hy) (by rw [m];exact Q)) λv _=>go 11 ?_;refine tt (Xc [(0,_)] 4 (enc:=My) [x%(dg U y).getD 0 0] J J K2 Oi ti222 J J J J J pU.cells J J p.h) J λe2 _=>cl 4 [4] Oo λ_ _=>?_;refine Yk (Zbc 4 J J pU)<|go 6 ?_;exact Nd P (_,_) results285 J aA (Pb 3 (gow 4 Za (by rw [Zid (fI (bG _ (by rw [m];exact hy)) (by rw [m];exact Q)),m])) (by rw [m]<;>rfl))
  .refine go 3 ?_;obtain⟨k,hk⟩:∃k,k=(dg U y).length:=⟨_,rfl⟩;have d8:k<=(dg U x).length:=O;obtain⟨b,hb⟩:∃b,b=64-bl ((dg U y).getD (k-1) 0):=⟨_,rfl⟩;obtain⟨b2,_,b1,a2,a9,B⟩:=Yra hy hk hb;obtain⟨D,c⟩:∃D,D=y*2^b:=⟨_,rfl⟩;have c5:(dg U D).length=k:=by rw [c];exact b2
   have a1:D<U^k:=by rw [c];exact a2
   have a0:U^(k-1)*9223372036854775808<=D:=by rw [c];exact B
   have l:0<D:=by rw [c];exact gV hy (dH b)
   have d7:bl D<=4000000064:=by rw [c,Zzx hy];omega
   refine go 5 ⟨O,?_⟩;refine dt (Zs 2 ((dg U y).length-1) J J J J Zl Oi Kt)<|go 1 ⟨O2,?_⟩;refine cl 4 [] (Zte (Qb Qj (Nx Qc y) _)) λ_ _=>?_;refine Yk (Kg 44 (v':= .int .i64 (b:Int)) J (by rw [hb,hk]))<|go 3 ?_;refine jn (G:=Value×Value) [0,8] [0,1,2] (λq=>[(9,q.1),(10,q.2)]) (λq=>[(81,Dj q.1 D),(82,Oe 1 222 My q.2 (List.replicate ((dg U x).length+1) 0))]) (λq=>True) ?_ ?_
   .refine Lk (λ_=>False) [8]<|Zi 4 [(0,0),(1,0),(3,0),(4,0),(5,0)]<|go 6 ⟨O,?_⟩;refine Pa 3 2 6 ?_ ?_
    .refine Na (Zo 81 [2] Zrq) λe3 _=>?_;refine Zi 0 [(7,0),(6,1),(8,3)]<|go 1 ?_;refine Kd J (Il 82 ((dg U x).length+1) 8 (enc:=My) 0 J J J J Oi ti222 J pU.cells pU.pos J J J p.h) λe4 _=>go 2 ?_;exact Zu<|Od (_,_) aA K2 ⟨by rw [c];rfl,rfl,aA⟩
    .refine Kh J J (Il 82 ((dg U x).length+1) 8 (enc:=My) 0 J J J J Oi ti222 J pU.cells pU.pos J J J p.h) (λe5 _=>?_);refine Zi 0 [(2,1),(7,0),(8,3)]<|Yq (Zo 81 [2] Zrq) λe6 _=>go 3 ?_;exact Zu<|Od (_,_) aA K2 ⟨by rw [c];rfl,rfl,aA⟩
   .rintro⟨vd,vr⟩ -;dsimp only;refine go 1 ?_;have c7:(dg U (x*2^b)).length<=(dg U x).length+1:=(Xq Qc _ _).2 (by rw [cH];exact gY ((Xq Qc _ x).1 (aF _)) (by rw [Yot];exact cY O O) Qj);refine go 4 ?_;refine cl 5 [1] Zrq λe7 _=>?_;refine tt (t_cpy 82 5 0 J J J J J J O3 J Zl Ymx (by rw [aU];exact c7) (by rw [aU];omega) (by rw [aU];omega) Oi pU J p.h) J λ_ _=>go 3 ?_;have a4:(spl (List.replicate ((dg U x).length+1) 0) 0 (dg U (x*2^b))).length=(dg U x).length+1:=by rw [Iy _ _ _ (by rw [aU];omega),aU]
    refine go 7 ?_;have d2:(List.replicate ((dg U x).length+1-k) (0:Nat)).length=(dg U x).length+1-k:=aU;refine Zf (Kg 11 (v':= .int .i64 (k:Int)) J (by rw [c5]))<|go 5 ⟨O,?_⟩;refine tt (Il 6 ((dg U x).length+1-k) 8 (enc:=My) 0 J J J J Oi ti222 J pU.cells pU.pos J J J p.h) J (λd1 _=>?_);refine go 13 ⟨O,?_⟩;refine lp (G:=Nat×List Nat×List Nat) [8,9,10,11,12] [0,81,1,2,5] (λq=>[(13,.int .i64 ((q.1:Int)-1))]) (λq=>[(82,Oe 1 222 My vr q.2.1),(6,Oe 1 222 My d1 q.2.2)]) (λq=>(q.1<=(dg U x).length+1-k)/\(q.2.1.length=(dg U x).length+1)/\(∀d∈q.2.1,d<U)/\(q.2.2.length=(dg U x).length+1-k)/\(∀d∈q.2.2,d<U)/\(val U q.2.1<D*U^q.1)/\(val U (q.2.2.drop q.1)*U^q.1*D+val U q.2.1=x*2^b)) (λq=>q.1) ((dg U x).length+1-k,spl (List.replicate ((dg U x).length+1) 0) 0 (dg U (x*2^b)),List.replicate ((dg U x).length+1-k) 0) ⟨aF _,a4,Zti (Nn Qj) (Nx Qc _) 0,O5,Nn Qj,by rw [Ztv,Ld Qc];exact Ym1 ((Xq Qc _ x).1 (aF _)) a9 b1 O a0,by rw [Ztv,Ld Qc];simp [val]⟩ ⟨by rw [aU];rfl,aA⟩ K2 ?_;rintro⟨a,R,q⟩ ⟨hj,a5,e,c8,M,H,hN⟩;dsimp only at hj a5 e c8 M H hN;dsimp only;refine go 7<|Ze J (λW=>?_) (λW=>?_)
    .refine go 5 ?_;have I:val U R<U^(a-1+k+1):=by refine dP H ?_;rw [show a-1+k+1=k+a by omega,bP];exact aM _ (dC a1)
     have s:tz ((R.drop (a-1)).take (a-1+k+1-(a-1)))=dg U (val U R/U^(a-1)):=Yo8 e O (by rw [show a-1+(a-1+k+1-(a-1))=a-1+k+1 by omega];exact I);have a7:val U R/U^(a-1)<D*U:=by rw [bN (bZ Qj),eC,<-lS,show(a-1).succ=a by omega];exact H
     have a8:bl (val U R/U^(a-1))<=4294967296:=by have h1:=Oh (dC a7);have h2:=Zn7 D U;have h3:bl U<=65:=(Qo 65 U).2 (by simp [U]);omega
     have b5:=Ypk e (j:=a-1) b1 I O;have b7:(dg U D).getD (k-1) 0*U^(k-1)<=D:=by rw [Hs Qc];exact aB (aM _ (Nat.mod_le _ _)) (lM _ _)
     have c0:val U R/U^(a-1)/D<=18446744073709551615:=by have:=(bN l).2 (show _<U*D by rw [bO];exact a7);simp only [U]at this ⊢;omega
     refine go 4 ?_;refine jn (G:=Nat) [8,9,10,11,12,13] [0,82,6,81,1,2,5] (λg=>[(14,.int .u64 (g:Int))]) (λg=>[]) (λg=>(val U R/U^(a-1)/D<=g)/\(g<U)) ?_ ?_
     .refine go 1<|Qa (λ_=>False) [(0,0),(1,0),(2,0),(3,0),(4,0),(5,0),(6,0),(7,0),(8,0),(9,0),(10,0),(11,0)]<|go 4 ⟨O,?_⟩;refine Yz J J (Xn (Zs 82 (a-1+k) J J J J (Yb pU) Oi Kt))<|go 4 ⟨O2,O,?_⟩;refine Yz J J (Xn (Zs 81 (k-1) J J J J Zl Oi Kt))<|go 4 ⟨O2,?_⟩;refine Ze J (λY=>?_) (λY=>?_)
      .refine Qa (λ_=>False) [(0,0),(1,0),(2,0),(3,0),(4,0),(5,0),(6,0),(7,0),(8,0),(9,0),(10,0),(11,0),(12,0),(13,0),(14,0),(15,0),(16,0),(17,0),(18,1),(19,0),(20,0),(21,0),(22,0)]<|go 4 ⟨O,?_⟩;refine Yz J J (Xn (Zs 82 (a-1+k) J J J J (Yb pU) Oi Kt))<|go 6 ⟨O2,O,O,?_⟩;refine Yz J J (Xn (Zs 82 (a-1+k-1) J J J J (Yb pU) Oi Kt))<|go 4 ⟨O2,O,?_⟩;refine Yz J J (Xn (Zs 81 (k-1) J J J J Zl Oi Kt))<|go 1 ⟨O2,?_⟩;refine Yq (Zo 6 [] (Zxf (Qb Qj e _) (Qb Qj (Nx Qc _) _) O)) λ_ _=>go 5 ?_;exact Od _ ⟨Yl2 b7 O b5,Zwm (Qb Qj e _) O⟩ K1 aA
      .refine go 1 ?_;exact Od 18446744073709551615 ⟨c0,O3⟩ K1 aA
     .rintro g ⟨hg,f⟩;refine go 8 ⟨O,O,?_⟩;refine dt (d_mid (ii:=82) (i:=a-1) (j:=a-1+k+1) J J J J J (Yb pU) Oi Kt O O O O)<|go 7 ?_;refine tt (Xc [(0,_)] 7 (enc:=My) [g] J J K2 Oi ti222 J J J J J pU.cells J J p.h) J λe8 _=>cl 7 [7] Oo λ_ _=>?_;refine Yk (Zbc 7 J J pU)<|Yk (Ze1 7 (Zid f) J J)<|cl 83 [81,7] (Ybt O (aB ((Qo 64 g).2 f) O)) λd3 _=>go 5 ?_;refine lp (G:=Nat×Value) [8,9,10,11,12,13,15] [0,82,6,81,1,2,5,7] (λq=>[(14,.int .u64 (q.1:Int)),(16,q.2)]) (λq=>[(83,Dj q.2 (D*q.1))]) (λq=>(val U R/U^(a-1)/D<=q.1)/\(q.1<U)) (λq=>q.1) (g,_) ⟨O1,O1⟩ ⟨J,J,aA⟩ ⟨J,aA⟩ ?_;rintro⟨g,vp⟩ ⟨hg,f⟩;dsimp only at hg f;dsimp only;have a3:bl (D*g)<=4294967296:=by have h1:=Zn7 D g;have h2:=(Qo 64 g).2 f;omega
      refine go 4 ?_;refine tt (Xb 7 Oo J J J K1 call147 (Zed 82 J J pU (Zkh (a-1) (a-1+k+1)) Zk9 Zq) J p.h) J λ_ _=>go 1 ?_;refine tt (Xb 7 (Zde a8 a3) J J J K2 call279 (Zed 82 J J pU (Yi0 s (by rw [s]) (Zkh (a-1) (a-1+k+1))) (by rw [Fg];exact(Zk9)) (Zp 83 J J J Zq)) J p.h) J λe1 t=>go 3 ?_;refine Ze J (λZ=>?_) (λZ=>?_)
      .have o:val U R/U^(a-1)<D*g:=t.1.1 O;have b0:1<=g:=by rcases bD g with h|h;(rw [h,fX]at o;exact absurd o (aR _));exact h
       have b6:D<=D*g:=dG _ b0;have c1:val U R/U^(a-1)/D<=g-1:=by have:=(bN l).2 (show _<g*D by rw [bO];exact o);omega
       refine go 6 ?_;refine dt (Zey (n:=1) J J J)<|go 3 ?_;refine Zf (Kg 14 (v':= .int .u64 ((g-1:Nat):Int)) J (Zbz (Zwv b0 f)))<|go 3 ?_;refine cl 8 [83,81] (Zg6 a3 b6) λd4 _=>go 3<|Zn (Xm 8 83 J J J) ?_;exact Ye (g-1,_) ⟨c1,O9⟩ O1 K2 ⟨by rw [Nat.mul_sub_one];rfl,aA⟩
      .refine go 6 ?_;have hQ:g=val U R/U^(a-1)/D:=by have h1:=t.1;have h2:D*g<=val U R/U^(a-1):=O;exact gF ((iV l).2 (by rw [bO];exact h2)) hg
       refine go 2 ?_;refine tt (Xb 8 Oo J J J K1 call147 (Zed 82 J J pU (Zkh (a-1) (a-1+k+1)) Zk9 Zq) J p.h) J λ_ _=>go 1 ?_;refine tt (Xb 9 (Zg6 a8) J J J K2 call280 (Zed 82 J J pU (Yi0 s (by rw [s]) (Zkh (a-1) (a-1+k+1))) (by rw [Fg];exact(Zk9)) (Zp 83 J J J Zq)) J p.h) J λd5 _=>go 4 ?_;have b3:(dg U (val U R/U^(a-1)-D*g)).length<=a-1+k+1-(a-1):=by
        have:val U R/U^(a-1)-D*g<D:=by rw [hQ];have h3:=cM (val U R/U^(a-1)) D;have h4:=bG (val U R/U^(a-1)) l;omega
        have:=(Xq Qc k _).2 (fI this a1);omega
       refine go 2 ?_;refine tt (t_clr (zv:= .bool false) (i:=82) (z:=0) (a-1) J J J J O3 (Ycw O) O O Oi pU (λw=>zeroValue222 w) J J p.h) J λ_ _=>go 6 ?_;refine tt (t_cpy 82 9 (a-1) J J J J J J O3 J Zl (Ycw (by rw [Iy _ _ _ (by rw [aU];omega)];omega)) b3 (by rw [Iy _ _ _ (by rw [aU];omega)];omega) (by rw [Iy _ _ _ (by rw [aU];omega)];omega) Oi pU J p.h) J λ_ _=>go 2 ?_;have b8:a-1+(List.replicate (a-1+k+1-(a-1)) 0).length<=R.length:=by rw [aU];omega
       have c6:=Iy R (a-1) _ b8;have b9:a-1+(dg U (val U R/U^(a-1)-D*g)).length<=(spl R (a-1) (List.replicate (a-1+k+1-(a-1)) 0)).length:=O;have u:=Ype e (j:=a-1) (n:=a-1+k+1-(a-1)) O (by rw [show a-1+(a-1+k+1-(a-1))=a-1+k+1 by omega];exact I) b3;rw [Ld Qc]at u;have b4:=Ymz (j:=a-1) (N:=x*2^b) (Vq:=val U (q.drop a)) l hQ (by rw [show a-1+1=a by omega];exact hN);have a6:=b4.1;have F:=b4.2;rw [<-u]at a6 F;have c3:val U ((q.set (a-1) g).drop (a-1))=g+U*val U (q.drop a):=by rw [drop_set O,show a-1+1=a by omega];rfl
       rw [<-c3]at F;refine go 4 ?_;refine dt (Zs 6 (a-1) J J J J (Yb pU) Oi Kt)<|tt (Ln 6 (enc:=My) J J J J J J pU J p.h O3 O2) J (λ_ _=>?_);refine go 8 ⟨O,?_⟩;exact Ye (a-1,_,_) ⟨O1,(Iy _ _ _ b9).trans (c6.trans a5),Zti (Zti e (Nn Qj) _) (Nx Qc _) _,O8,Ke M _ f,a6,F⟩ O1 ⟨by rw [show(((a-1:Nat):Int)-1)=(a:Int)-1-1 by omega];rfl,aA⟩ K2
    .refine go 6 ?_;obtain rfl:a=0:=O;rw [fU,jV]at H;have c2:bl (val U R)<=8589934592:=by have:=Oh (dC H);omega
     refine go 2 ?_;refine cl 9 [6] Oo λ_ _=>?_;refine Yk (Zbc 6 J J pU)<|go 1 ?_;refine cl 9 [82] Oo λ_ _=>?_;refine Yk (Zbc 82 J J pU)<|Yk (Ze1 82 (Kr Qc R e).symm J J)<|go 1 ?_;refine cl 10 [82] (Yrd c2 O) λd6 _=>go 5 ?_;rw [fP,fU,jV]at hN;have c9:tz q=dg U (x/y):=by rw [<-Kr Qc _ M,<-Zo9 x y b,<-c,<-hN,bO,gI l,cS H,eJ]
     have d0:val U R/2^b=x%y:=by rw [<-Zo8 x y b,<-c,<-hN,bO,iO,bH H]
     exact Nd P (_,_) results285 J aA (gow 6 (Pb 10 Za (by rw [d0])) c9)
theorem Zrr(l:bl x<=4000000000:=by omega)(m:bl y<=4000000000:=by omega):Cal prog 277 #[v,w] [Dj v x,Dj w y] true (G:=Value) (λr=>True) (λr=>r) (λr=>[Dj r (Nat.gcd x y)]):=by
 refine Zg func277 ntmps277 λz s p j=>?_;have n:=Mo x;have o:=Mo y;refine go 7<|Zf (Xm 1 91 J J J)<|Zf (Xm 2 92 J J J) ?_;refine lp (G:=Value×Value×Nat×Nat) [] [0,1,2] (λq=>[(0,q.1),(1,q.2.1)]) (λq=>[(91,Dj q.1 q.2.2.1),(92,Dj q.2.1 q.2.2.2)]) (λq=>(Nat.gcd q.2.2.1 q.2.2.2=Nat.gcd x y)/\(bl q.2.2.1<=4000000000)/\(bl q.2.2.2<=4000000000)) (λq=>q.2.2.2) (v,w,x,y) ⟨J,l,m⟩ K2 K2 ?_;rintro⟨t,u,a,b⟩ ⟨i,k,f⟩;dsimp only at i k f;dsimp only;refine go 8<|Ze J (λd=>?_) (λd=>?_)
 .have c:0<b:=by rcases bD b with h|h;(subst h;simp [Gv]at d);exact h
  refine go 7 ?_;refine cl 3 [91,92] (Ybu k f c) λg _=>go 14 ?_;have e:a%b<b:=bG _ c;exact Zn (Xm 92 91 J J J)<|Zn (Xm 4 92 J J J)<|Ye (_,_,b,a%b) ⟨by dsimp only;rw [<-i,kN b,<-Nat.gcd_rec,kN],f,aB (Oh (dC e)) f⟩ e K2 K2
 .have c:b=0:=(Ok Qc b).1 O;refine go 12 ?_;exact Yp j _ results277 J aA (Pb 91 Za (by rw [<-i,c,mD]))
end Go.Sky

