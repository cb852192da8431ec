/- Rules, arithmetic and contracts: part 8. No conditions but those that each theorem names. -/
import Derived.Test.YteikicbnfbgpnaaGreatEa206
set_option linter.all false
set_option maxHeartbeats 4000000
namespace Go.Sky
variable {P:Program} {N:Nat} {sc:Nat->Prop} {env env':Pw} {H H' H0:Hp} {Q Q':Exit->Act->World->Prop} {M:Nat->Prop}
@[reducible] def drp2:Nat->Hp->Hp
 | _,[]=>[]
 | k,(i,p)::r=>match Nat.beq i k with
  | true=>drp2 k r
  | false=>(i,p)::drp2 k r
theorem Yd3:∀(k:Nat) (H:Hp),drp2 k H=drp k H
 | _,[]=>rfl
 | k,(i,p)::r=>by unfold drp2 drp;cases Nat.beq i k<;>simp [Yd3 k r]
@[reducible] def anyb:List Nat->Nat->Bool
 | [],_=>false
 | k::r,i=>match Nat.beq i k with
  | true=>true
  | false=>anyb r i
theorem Zt9:∀(a:List Nat) (i:Nat),anyb a i=a.any (Nat.beq i)
 | [],_=>rfl
 | k::r,i=>by unfold anyb;rw [List.any_cons,<-Zt9 r i];cases Nat.beq i k<;>rfl
@[reducible] def rst2 (a:List Nat):Hp->Hp
 | []=>[]
 | (i,p)::r=>match anyb a i with
  | true=>(i,p)::rst2 a r
  | false=>rst2 a r
theorem Yb3(a:List Nat):∀H:Hp,rst2 a H=rst a H
 | []=>rfl
 | (i,p)::r=>by unfold rst2 rst;rw [<-Zt9];cases anyb a i<;>simp [Yb3 a r]
class AgI (H0 H:Hp) (ks:List Nat):Prop where h:Agr H0 H ks
instance:AgI H0 H []:=⟨aA⟩
instance {k:Nat} {ks:List Nat} {p:Pc} [h1:Som (lk2 H k) p] [h2:Som (lk2 H0 k) p] [h:AgI H0 H ks]:AgI H0 H (k::ks):=⟨⟨h1.l.trans h2.l.symm,h.h⟩⟩
class StI (P:Program) (N:Nat) (sc:Nat->Prop) (M:Nat->Prop) (op:Go.Op) (env:Pw) (H:Hp) (v:outParam Value) (s:outParam Prop):Prop where
 h:s->∀{d:Option Tmp} {ty:TypeId} {pos:String} {af:Array Edge} {g:Option (Nat×Bool)},Stb P N sc M ⟨d,op,ty,pos,af,g⟩ env H v
section
variable {op:Go.Op} {v:Value} {s:Prop} {k b:Nat} {t:TypeId} {l:List Value} {ks:List Nat}
instance [h:DI P N sc op env H v s]:StI P N sc (λ_=>False) op env H v s:=⟨λhs=>Xl (h.h hs)⟩
instance [hb:BxI H b k t l] [h:DI P N sc op env (drp2 k H) v s]:StI P N sc (λx=>x=b) op env H v s:=⟨λhs=>st1 k hb.h (by rw [<-Yd3];exact h.h hs)⟩
instance [ha:AgI H0 H ks] [h:DI P N sc op env (rst2 ks H) v s]:StI P N sc (Off H0 ks) op env H v s:=⟨λhs=>Ga (by rw [<-Yb3];exact h.h hs) ha.h⟩
end
class MI (M:Nat->Prop) (b:Nat):Prop where h:M b
class MS (N:Nat) (sc:Nat->Prop) (M:Nat->Prop) (env:Pw) (H:Hp) (b:Nat):Prop where h:∀a w,Sat N sc env H a w->M b
instance {b:Nat} : MS N sc (λ_=>True) env H b:=⟨λ_ _ _=>trivial⟩
instance {b:Nat} : MS N sc (λx=>x=b) env H b:=⟨λ_ _ _=>rfl⟩
instance {b:Nat} [h:MI M b]:MS N sc M env H b:=⟨λ_ _ _=>h.h⟩
@[reducible] def nin (ks:List Nat) (i:Nat):Bool:=match anyb ks i with
 | true=>false
 | false=>true
instance (priority:=low) {b i:Nat} {t:TypeId} {l:List Value} {ks:List Nat} [hb:BxI H b i t l] [hn:TB (nin ks i)] [ha:AgI H0 H ks]:MS N sc (Off H0 ks) env H b:=⟨λa w hs=>λk hk p hp hf=>by
 rw [<-ha.h.mem k hk]at hp;have hne:i≠k:=λe=>by
  subst e;have h1:=hn.h;unfold nin at h1;rw [Zt9]at h1;cases h2:ks.any (Nat.beq i)with
  | true=>rw [h2]at h1;cases h1
  | false=>
   have:=List.any_eq_false.1 h2 i hk;simp at this
 exact hs.sep i k _ p hne hb.h hp rfl b rfl hf⟩
section
variable {d i j k b e n:Nat} {vs ws l l':List Value} {w0:World} {M0:Nat->Prop} {ty t tb:TypeId} {pos:String} {af:Array Edge} {g:Option (Nat×Bool)} {x y:Operand} {v z:Value} {bb:Bool}
variable {ll:List Oper} {F:Pw->Hp->Prop} {rest:List (Nat×Nat)} {op:Go.Op} {G:Type} {φ:G->Prop} {genv:G->Pw} {gH:G->Hp} {dd:Option Tmp} {q r s:Prop}
def t_stm [hx:Som (ev2 env x) (.pointer (some ⟨b,j,none⟩))] [hy:Som (ev2 env y) v] [hB:BxI H b i tb l] [hi:TB (neb i 0)] [hv:CeI P N sc env H v vs] [hk:Siz P t k] [hl:TB (lenq vs k)] [hf:TB (fits l j vs)] [hr:LEv (lay2 l j vs) l']
  [h0:Som (lk2 H 0) (Yy w0 M0)] [hw:Hw w0 sc] [hM:MS N sc M env H b]:T P N sc M ⟨none,.store t x y,ty,pos,af,g⟩ env H (G:=Unit) (λ_=>True) (λ_=>env) (λ_=>(i,box b tb l'.toArray)::H):=λa w hs=>Yh7 (hM.h a w hs) a w hs
def Qf(n:Nat){ks:List Nat}[hz:Zer P t z][hc:ClI z l][h0:Som (lk2 H 0) (Yy w0 M0)][hN:TB (ltb d N)][hw:Hw w0 sc][ha:AgI H0 H ks] :
  T P N sc (Off H0 ks) ⟨some d,.alloc t,ty,pos,af,g⟩ env H (G:=Nat) (λb=>MI (Off H0 ks) b) (λb=>(d,.pointer (some ⟨b,0,none⟩))::env) (λb=>(n,box b t l.toArray)::H):=λa w hs K Q f=>
 Yh9 rfl rfl (Ny hN.h) hz.h hc.h h0.l hw.h ha.h a w hs K Q λg c m h=>f g c m ⟨h⟩
def Yn(a:T P N sc M ⟨dd,op,ty,pos,af,none⟩ env H φ genv gH)[ho:Som (nth ll i) ⟨dd,op,ty,pos,af,none⟩](h:∀g,φ g->LD P N sc M ll.toArray F rest (genv g) (gH g)):LD P N sc M ll.toArray F ((i,1)::rest) env H:=Kp ho.n a h
def r3x(a:T P N sc (λ_=>True) ⟨dd,op,ty,pos,af,none⟩ env H φ genv gH)[ho:Som (nth ll i) ⟨dd,op,ty,pos,af,none⟩](h:∀g,φ g->LD P N sc M ll.toArray F rest (genv g) (gH g)):LD P N sc M ll.toArray F ((i,3)::rest) env H:=r3' ho.n a h
def Px{c:List Nat}{a:Array Bool}(f:T P N sc M ⟨dd,op,ty,pos,af,none⟩ env H φ genv gH)[ho:Som (nth ll i) ⟨dd,op,ty,pos,af,none⟩](h:∀g,φ g->A P N sc M ll.toArray c Q n (a.setIfInBounds i true) (genv g) (gH g)):Zga P N sc M ll.toArray c Q n a env H i:=Lq ho.n rfl f h
instance [ho:Som (nth ll i) ⟨some d,op,ty,pos,af,none⟩] [h1:StI P N sc M op env H v s] [h2:TB (ltb d N)] [h:Adv n (LD P N sc M ll.toArray F rest ((d,v)::env) H) q] [h3:AndO s q r]:Adv (n+1) (LD P N sc M ll.toArray F ((i,0)::rest) env H) r:=
 ⟨λk=>Xc ho.n rfl (h1.h (h3.h k).1) (h.h (h3.h k).2) rfl (Ny h2.h)⟩
instance [ho:Som (nth ll i) ⟨some d,op,ty,pos,af,some (j,bb)⟩] [hj:Som (dsto ll j) e] [he:Som (lk2 env e) (.bool bb)] [hN:TB (ltb e N)] [h1:StI P N sc M op env H v s] [h2:TB (ltb d N)] [h:Adv n (LD P N sc M ll.toArray F rest ((d,v)::env) H) q] [h3:AndO s q r]:Adv (n+1) (LD P N sc M ll.toArray F ((i,0)::rest) env H) r:=
 ⟨λk=>Em (h1.h (h3.h k).1) ho.n rfl (Cl hj) he.l rfl (h.h (h3.h k).2) (Ny hN.h) (Ny h2.h)⟩
instance [ho:Som (nth ll i) ⟨some d,op,ty,pos,af,some (j,true)⟩] [hj:Som (dsto ll j) e] [he:Som (lk2 env e) (.bool false)] [hN:TB (ltb e N)] [h2:TB (ltb d N)] [h:Adv n (LD P N sc M ll.toArray F rest ((d,undef)::env) H) q]:Adv (n+1) (LD P N sc M ll.toArray F ((i,2)::rest) env H) q:=
 ⟨λk=>r2 ho.n rfl (Cl hj) he.l rfl (Ny hN.h) rfl (Ny h2.h) (h.h k)⟩
instance [ho:Som (nth ll i) ⟨some d,op,ty,pos,af,some (j,false)⟩] [hj:Som (dsto ll j) e] [he:Som (lk2 env e) (.bool true)] [hN:TB (ltb e N)] [h2:TB (ltb d N)] [h:Adv n (LD P N sc M ll.toArray F rest ((d,undef)::env) H) q]:Adv (n+1) (LD P N sc M ll.toArray F ((i,2)::rest) env H) q:=
 ⟨λk=>r2 ho.n rfl (Cl hj) he.l rfl (Ny hN.h) rfl (Ny h2.h) (h.h k)⟩
instance [ho:Som (nth ll i) ⟨none,.store t x y,ty,pos,af,none⟩] [hx:Som (ev2 env x) (.pointer (some ⟨b,j,none⟩))] [hy:Som (ev2 env y) v] [hB:BxI H b k tb l] [hi:TB (neb k 0)] [hv:CeI P N sc env H v vs] [hk:Siz P t e] [hl:TB (lenq vs e)] [hf:TB (fits l j vs)] [hr:LEv (lay2 l j vs) l']
  [h0:Som (lk2 H 0) (Yy w0 M0)] [hw:Hw w0 sc] [h:Adv n (LD P N sc M ll.toArray F rest env ((k,box b tb l'.toArray)::H)) q]:Adv (n+1) (LD P N sc M ll.toArray F ((i,3)::rest) env H) q:=
 ⟨λq=>r3' ho.n (Yh7 aA) λ_ _=>h.h q⟩
instance [ho:Som (nth ll i) ⟨none,.store t x y,ty,pos,af,none⟩] [hx:Som (ev2 env x) (.pointer (some ⟨b,j,none⟩))] [hy:Som (ev2 env y) v] [hB:BxI H b k tb l] [hi:TB (neb k 0)] [hM:MS N sc M env H b] [hv:CeI P N sc env H v vs] [hk:Siz P t e] [hl:TB (lenq vs e)] [hf:TB (fits l j vs)] [hr:LEv (lay2 l j vs) l']
  [h0:Som (lk2 H 0) (Yy w0 M0)] [hw:Hw w0 sc] [h:Adv n (LD P N sc M ll.toArray F rest env ((k,box b tb l'.toArray)::H)) q]:Adv (n+1) (LD P N sc M ll.toArray F ((i,1)::rest) env H) q:=
 ⟨λq=>Kp ho.n t_stm λ_ _=>h.h q⟩
instance [ho:Som (nth ll i) ⟨some d,op,ty,pos,af,none⟩] [h1:DI P N sc op env H v s] [h2:TB (ltb d N)] [h:Adv n (LD P N sc M ll.toArray F rest ((d,v)::env) H) q] [h3:AndO s q r]:Adv (n+1) (LD P N sc M ll.toArray F ((i,1)::rest) env H) r:=
 ⟨λk=>Kp ho.n (Zbk (h1.h (h3.h k).1) rfl (Ny h2.h)) λ_ _=>h.h (h3.h k).2⟩
instance [ho:Som (nth ll i) ⟨some d,op,ty,pos,af,none⟩] [h1:DI P N sc op env H v s] [h2:TB (ltb d N)] [h:Adv n (LD P N sc M ll.toArray F rest ((d,v)::env) H) q] [h3:AndO s q r]:Adv (n+1) (LD P N sc M ll.toArray F ((i,3)::rest) env H) r:=
 ⟨λk=>r3' ho.n (Zbk (h1.h (h3.h k).1) rfl (Ny h2.h)) λ_ _=>h.h (h3.h k).2⟩
instance [h:Adv n (F env H) q] {ops:Array Oper} : Adv (n+1) (LD P N sc M ops F [] env H) q:=⟨λk=>r_fin (h.h k)⟩
theorem Qb {id:Nat} {l:List Oper} (M:Nat->Prop) (a:List (Nat×Nat)) (h:LD P N sc M l.toArray (X N sc .normal Q) a env H) (c:P.follows .mixedOrders=true:=by kernel_rfl)
  (f:(Region.noSelect l.toArray && Nat.beq a.length l.length && Fs l.toArray (Ay a) a (Array.replicate l.length false) && (Region.ready .any l.toArray (Ez a (Array.replicate l.length false))).isEmpty)=true:=by kernel_rfl) :
  E P N sc (.region id l.toArray true) Q env H:=e_dreg M c f h
end
end Go.Sky
namespace Go.Sky
open Go.RowKit Below
variable {P:Program} {N:Nat} {sc:Nat->Prop} {env env':Pw} {H H':Hp} {Q Q':Exit->Act->World->Prop} {M:Nat->Prop}
class EnI (vs:List Value) (env:outParam Pw):Prop where h:Qz 0 vs=env
class PnI (vs:List Pc) (H:outParam Hp):Prop where h:Xd 1 vs=H
section
variable {a b c d e f g i j:Value} {p q r s t u v w x y:Pc}
instance:EnI [] []:=⟨rfl⟩
instance:EnI [a] [(0,a)]:=⟨rfl⟩
instance:EnI [a,b] [(0,a),(1,b)]:=⟨rfl⟩
instance:EnI [a,b,c] [(0,a),(1,b),(2,c)]:=⟨rfl⟩
instance:EnI [a,b,c,d] [(0,a),(1,b),(2,c),(3,d)]:=⟨rfl⟩
instance:EnI [a,b,c,d,e] [(0,a),(1,b),(2,c),(3,d),(4,e)]:=⟨rfl⟩
instance:EnI [a,b,c,d,e,f] [(0,a),(1,b),(2,c),(3,d),(4,e),(5,f)]:=⟨rfl⟩
instance:EnI [a,b,c,d,e,f,g] [(0,a),(1,b),(2,c),(3,d),(4,e),(5,f),(6,g)]:=⟨rfl⟩
instance:PnI [] []:=⟨rfl⟩
instance:PnI [p] [(1,p)]:=⟨rfl⟩
instance:PnI [p,q] [(1,p),(2,q)]:=⟨rfl⟩
instance:PnI [p,q,r] [(1,p),(2,q),(3,r)]:=⟨rfl⟩
instance:PnI [p,q,r,s] [(1,p),(2,q),(3,r),(4,s)]:=⟨rfl⟩
instance:PnI [p,q,r,s,t] [(1,p),(2,q),(3,r),(4,s),(5,t)]:=⟨rfl⟩
instance:PnI [p,q,r,s,t,u] [(1,p),(2,q),(3,r),(4,s),(5,t),(6,u)]:=⟨rfl⟩
instance:PnI [p,q,r,s,t,u,v] [(1,p),(2,q),(3,r),(4,s),(5,t),(6,u),(7,v)]:=⟨rfl⟩
instance:PnI [p,q,r,s,t,u,v,w] [(1,p),(2,q),(3,r),(4,s),(5,t),(6,u),(7,v),(8,w)]:=⟨rfl⟩
instance:PnI [p,q,r,s,t,u,v,w,x] [(1,p),(2,q),(3,r),(4,s),(5,t),(6,u),(7,v),(8,w),(9,x)]:=⟨rfl⟩
instance:PnI [p,q,r,s,t,u,v,w,x,y] [(1,p),(2,q),(3,r),(4,s),(5,t),(6,u),(7,v),(8,w),(9,x),(10,y)]:=⟨rfl⟩
end
class RoL (l:List Pc):Prop where h:AllRo l
instance:RoL []:=⟨aA⟩
instance {p:Pc} {r:List Pc} [h:RoI p] [h2:RoL r]:RoL (p::r):=⟨⟨h.h,h2.h⟩⟩
theorem Zg {f:FuncId} {fn:Func} {c:Code} {vs:List Value} {pre:List Pc} {al:Bool} {G:Type} {φ:G->Prop} {Yt:G->Value} {l:G->List Pc} {N:Nat} (B:P.funcs[f]? = some fn) (o:fn.ntmps=N)
  [he:EnI vs env] [hp:PnI pre H] [hro:RoL pre] (h:∀k (sc:Nat->Prop),Hw k sc->(∀b,sc b->k.heap.size<=b\/∃q∈pre,q.fp b)->E P N sc c (Zc6 P fn k pre al φ Yt l) env ((0,Yy k (λ_=>False))::H))
  (z:fn.body=some c:=by rfl) (m:Nat.ble vs.length N=true:=by rfl):Cal P f vs.toArray pre al φ Yt l:=
 cal_in B z o m hro.h λk sc D n=>by rw [he.h,hp.h];exact h k sc ⟨D⟩ n
class RvI (P:Program) (N:Nat) (sc:Nat->Prop) (env:Pw) (H:Hp) (r:ResultVar) (v:outParam Value):Prop where h:RV P N sc env H r v
instance {t:Nat} {v:Value} [h:Som (lk2 env t) v]:RvI P N sc env H (.tmp t) v:=⟨h.l⟩
instance {c b i k:Nat} {t tb:TypeId} {l:List Value} [h:Som (lk2 env c) (.pointer (some ⟨b,0,none⟩))] [h1:Agg P t true] [h2:BxI H b i tb l] [h3:Siz P t k] [h4:TB (lenq l k)]:RvI P N sc env H (.cell c t) (.agg l.toArray):=⟨Ep _ h.l h2.h h1.h h3.h (Zhm h4.h)⟩
instance {c b i:Nat} {t tb:TypeId} {v:Value} [h:Som (lk2 env c) (.pointer (some ⟨b,0,none⟩))] [h1:Agg P t false] [h2:BxI H b i tb [v]]:RvI P N sc env H (.cell c t) v:=⟨Yjl h.l h2.h h1.h⟩
section
variable {fn:Func} {pre:List Pc} {al:Bool} {G:Type} {φ:G->Prop} {Yt:G->Value} {its:G->List Pc} {w0:World} {r1 r2 r3:ResultVar} {v1 v2 v3:Value}
def Xh(k:∀b,sc b->w0.heap.size<=b\/∃q∈pre,q.fp b)(g:G)(l:fn.results=#[r1])[h1:RvI P N sc env H r1 v1][h0:Som (lk2 H 0) (Yy w0 (λ_=>False))](n:Yt g=v1)(m:φ g)(h:Give H al (its g)) :
  X N sc .ret (Zc6 P fn w0 pre al φ Yt its) env H:=Zue (.inl rfl) k g (v:=v1) (λa w hs=>Zcj hs l h1.h) n m h0.l h
def Nm(k:∀b,sc b->w0.heap.size<=b\/∃q∈pre,q.fp b)(g:G)(l:fn.results=#[r1,r2])[h1:RvI P N sc env H r1 v1][h2:RvI P N sc env H r2 v2][h0:Som (lk2 H 0) (Yy w0 (λ_=>False))](n:Yt g= .tuple #[v1,v2])(m:φ g)(h:Give H al (its g)) :
  X N sc .ret (Zc6 P fn w0 pre al φ Yt its) env H:=Zue (.inl rfl) k g (λa w hs=>Yf7 hs l h1.h h2.h) n m h0.l h
def xe3(k:∀b,sc b->w0.heap.size<=b\/∃q∈pre,q.fp b)(g:G)(l:fn.results=#[r1,r2,r3])[h1:RvI P N sc env H r1 v1][h2:RvI P N sc env H r2 v2][h3:RvI P N sc env H r3 v3][h0:Som (lk2 H 0) (Yy w0 (λ_=>False))](n:Yt g= .tuple #[v1,v2,v3])(m:φ g)(h:Give H al (its g)) :
  X N sc .ret (Zc6 P fn w0 pre al φ Yt its) env H:=Zue (.inl rfl) k g (λa w hs=>res3 hs l h1.h h2.h h3.h) n m h0.l h
end
class EncE {α:Type} (k:Nat) (enc:α->Value):Prop where h:∃(P:Program) (t:TypeId),Enc P t k enc
theorem Ph{p k:Pc}{r:List Pc}(i:Nat)[hi:Som (lk2 H i) k][h0:TB (neb i 0)][ho:RoI k](h:Give H true r)(e:k=p:=by rfl):Give H true (p::r):=e▸Gt i hi.l (Zyb (Zcp h0.h)) ho.h h
section
variable {α:Type} {k i:Nat} {e:TypeId} {enc:α->Value} {v v':Value} {xs ys:List α} {al:Bool} {r:List Pc}
theorem gow(i:Nat)[hi:Som (lk2 H i) (Oe k e enc v xs)][h0:TB (neb i 0)][he:EncE k enc](h:Give H al r)(l:xs=ys:=by rfl):Give H al (Yx k enc v ys::r):=by obtain⟨_,_,m⟩:=he.h;exact Yg2 i hi.l (Zyb (Zcp h0.h)) m l h
end
section
variable {n:Nat} {x b:Bool} {d e j:Nat} {op:Go.Op} {ty:TypeId} {pos:String} {af:Array Edge} {rest:List Oper} {ops:Array Oper} {ll:List Oper}
def kf [h1:DI P N sc op env H (.bool x) True][h2:TB (ltb d N)](e:x=false)(h:L P N sc ops rest Q ((d,.bool false)::env) H):L P N sc ops (⟨some d,op,ty,pos,af,none⟩::rest) Q env H:=dt (Yz _ (h1.h aA) (aD _ e)) h (Ny h2.h)
def kt [h1:DI P N sc op env H (.bool x) True][h2:TB (ltb d N)](e:x=true)(h:L P N sc ops rest Q ((d,.bool true)::env) H):L P N sc ops (⟨some d,op,ty,pos,af,none⟩::rest) Q env H:=dt (Yz _ (h1.h aA) (aD _ e)) h (Ny h2.h)
def kfg [h1:DI P N sc op env H (.bool x) True][hj:Som (dsto ll j) e][hg:Som (lk2 env e) (.bool b)][h4:TB (ltb e N)][h2:TB (ltb d N)](e:x=false)(h:L P N sc ll.toArray rest Q ((d,.bool false)::env) H):L P N sc ll.toArray (⟨some d,op,ty,pos,af,some (j,b)⟩::rest) Q env H:=Hk (Yz _ (h1.h aA) (aD _ e)) (Cl hj) hg.l h (Ny h4.h) (Ny h2.h)
def ktg [h1:DI P N sc op env H (.bool x) True][hj:Som (dsto ll j) e][hg:Som (lk2 env e) (.bool b)][h4:TB (ltb e N)][h2:TB (ltb d N)](e:x=true)(h:L P N sc ll.toArray rest Q ((d,.bool true)::env) H):L P N sc ll.toArray (⟨some d,op,ty,pos,af,some (j,b)⟩::rest) Q env H:=Hk (Yz _ (h1.h aA) (aD _ e)) (Cl hj) hg.l h (Ny h4.h) (Ny h2.h)
end
section
variable {f:FuncId} {xs:List Operand} {ats:Array TypeId} {d i j e n:Nat} {vs:List Value} {pre:List Pc} {al b:Bool} {G:Type} {φ:G->Prop} {Yt:G->Value} {its:G->List Pc} {w0:World} {M0:Nat->Prop} {ty:TypeId} {pos:String} {af:Array Edge} {G':G->Hp} {ops:Array Oper} {rest ll:List Oper}
def cl (n:Nat) (l:List Nat) (m:Cal P f vs.toArray pre al φ Yt its) [hx:EvI env xs vs] [hf:CalF P f] [hp:PreL P H al l pre] [h0:Som (lk2 H 0) (Yy w0 M0)] [hN:TB (ltb d N)] [hw:Hw w0 sc] [ha:∀g,AddI n (its g) H (G' g)]
  (h:∀g,φ g->L P N sc ops rest Q ((d,Yt g)::env) (G' g)):L P N sc ops (⟨some d,.call { callee:= .value (.func f),args:=xs.toArray,argTypes:=ats },ty,pos,af,none⟩::rest) Q env H:=Yd (Zl n l m) h
def Hu (n:Nat) (l:List Nat) (m:Cal P f vs.toArray pre al φ Yt its) [hx:EvI env xs vs] [hf:CalF P f] [hp:PreL P H al l pre] [h0:Som (lk2 H 0) (Yy w0 M0)] [hN:TB (ltb d N)] [hw:Hw w0 sc] [ha:∀g,AddI n (its g) H (G' g)] [hj:Som (dsto ll j) e] [he:Som (lk2 env e) (.bool b)] [hN2:TB (ltb e N)]
  (h:∀g,φ g->L P N sc ll.toArray rest Q ((d,Yt g)::env) (G' g)):L P N sc ll.toArray (⟨some d,.call { callee:= .value (.func f),args:=xs.toArray,argTypes:=ats },ty,pos,af,some (j,b)⟩::rest) Q env H:=gt' (Zl n l m) h
end
class SeI (l:List Nat) (env:Pw) (cs:outParam Pw):Prop where h:Sub cs env
instance:SeI [] env []:=⟨aA⟩
instance {t:Nat} {l:List Nat} {v:Value} {cs:Pw} [h:Som (lk2 env t) v] [h2:SeI l env cs]:SeI (t::l) env ((t,v)::cs):=⟨⟨h.l,h2.h⟩⟩
class SeH (l:List Nat) (H:Hp) (ch:outParam Hp):Prop where h:HSub ch H
instance:SeH [] H []:=⟨aA⟩
instance {t:Nat} {l:List Nat} {v:Pc} {cs:Hp} [h:Som (lk2 H t) v] [h2:SeH l H cs]:SeH (t::l) H ((t,v)::cs):=⟨⟨h.l,h2.h⟩⟩
class ApI {α:Type _} (a b:List α) (c:outParam (List α)):Prop where h:a ++ b=c
instance {α:Type _} {b:List α} : ApI [] b b:=⟨rfl⟩
instance {α:Type _} {x:α} {a b c:List α} [h:ApI a b c]:ApI (x::a) b (x::c):=⟨by rw [<-h.h];rfl⟩
class SbI (cs env:Pw):Prop where h:Sub cs env
instance:SbI [] env:=⟨aA⟩
instance {t:Nat} {v:Value} {cs:Pw} [h:Som (lk2 env t) v] [h2:SbI cs env]:SbI ((t,v)::cs) env:=⟨⟨h.l,h2.h⟩⟩
class HbI (ch H:Hp):Prop where h:HSub ch H
instance:HbI [] H:=⟨aA⟩
instance {t:Nat} {v:Pc} {cs:Hp} [h:Som (lk2 H t) v] [h2:HbI cs H]:HbI ((t,v)::cs) H:=⟨⟨h.l,h2.h⟩⟩
def Sub.app:∀{a b e:Pw},Sub a e->Sub b e->Sub (a ++ b) e
 | [],_,_,_,h=>h
 | (_,_)::_,_,_,h1,h=>⟨h1.1,Sub.app h1.2 h⟩
def HSub.app:∀{a b e:Hp},HSub a e->HSub b e->HSub (a ++ b) e
 | [],_,_,_,h=>h
 | (_,_)::_,_,_,h1,h=>⟨h1.1,HSub.app h1.2 h⟩
section
variable {c x y:Code} {G:Type} {cs:Pw} {ch:Hp} {e1:G->Pw} {H1:G->Hp} {ov:G->Pw} {oh:G->Hp} {inv:G->Prop} {μ:G->Nat} {g:G}
theorem lp (l B:List Nat) (ov:G->Pw) (oh:G->Hp) (inv:G->Prop) (μ:G->Nat) (h:G) (z:inv h) (hs:Sub (ov h) env) (o:HSub (oh h) H) [h1:SeI l env cs] [h2:SeH B H ch] [h3:∀g,ApI (ov g) cs (e1 g)] [h4:∀g,ApI (oh g) ch (H1 g)]
  (m:∀g,inv g->E P N sc c (Exit.then (Yuf N sc cs ch ov oh inv μ g) Q) (e1 g) (H1 g)):E P N sc (.loop c) Q env H:=
 e_lp cs ch ov oh inv μ z (hs.app h1.h) (o.app h2.h) λg D=>by rw [(h3 g).h,(h4 g).h];grind
def Yh(h:G)(l:inv h)(m:μ h<μ g)(hs:Sub (ov h) env)(o:HSub (oh h) H)[k1:SbI cs env][k2:HbI ch H]:X N sc .normal (Exit.then (Yuf N sc cs ch ov oh inv μ g) Q) env H:=x_rnd h l m (hs.app k1.h) (o.app k2.h)
theorem jn (l m:List Nat) (ov:G->Pw) (oh:G->Hp) (inv:G->Prop) [h1:SeI l env cs] [h2:SeH m H ch] [h3:∀g,ApI (ov g) cs (e1 g)] [h4:∀g,ApI (oh g) ch (H1 g)]
  (h:E P N sc x (Exit.then (JnK N sc cs ch ov oh inv) Q) env H) (z:∀g,inv g->E P N sc y Q (e1 g) (H1 g)):E P N sc (.seq x y) Q env H:=
 e_jn cs ch ov oh inv h1.h h2.h h λg o=>by rw [(h3 g).h,(h4 g).h];grind
def Oc(h:G)(l:inv h)(hs:Sub (ov h) env)(m:HSub (oh h) H)[k1:SbI cs env][k2:HbI ch H]:X N sc .normal (Exit.then (JnK N sc cs ch ov oh inv) Q) env H:=x_jn h l (hs.app k1.h) (m.app k2.h)
end
end Go.Sky
namespace Go.Sky
open Go.Proofs
set_option linter.all false
set_option synthInstance.maxHeartbeats 0
variable{v w:Value}{xs:List Nat}{x y:Nat}
@[reducible,instance]def iUnd3:=Und.mk Tryz.underlying3
@[reducible,instance]def iUnd4:=Und.mk Tryz.underlying4
@[reducible,instance]def iUnd5:=Und.mk Tryz.underlying5
@[reducible,instance]def iUnd9:=Und.mk Tryz.underlying9
@[reducible,instance]def iUnd33:=Und.mk Tryz.underlying33
@[reducible,instance]def iUnd39:=Und.mk Tryz.underlying39
@[reducible,instance]def iUnd40:=Und.mk Tryz.underlying40
@[reducible,instance]def iUnd47:=Und.mk Tryz.underlying47
@[reducible,instance]def iUnd80:=Und.mk Tryz.underlying80
@[reducible,instance]def iUnd82:=Und.mk Tryz.underlying82
@[reducible,instance]def iUnd89:=Und.mk Tryz.underlying89
@[reducible,instance]def iUnd91:=Und.mk Tryz.underlying91
@[reducible,instance]def iUnd121:=Und.mk Tryz.underlying121
@[reducible,instance]def iUnd197:=Und.mk Tryz.underlying197
@[reducible,instance]def iUnd217:=Und.mk Tryz.underlying217
@[reducible,instance]def iUnd219:=Und.mk Tryz.underlying219
@[reducible,instance]def iUnd230:=Und.mk Tryz.underlying230
@[reducible,instance]def iUnd232:=Und.mk Tryz.underlying232
@[reducible,instance]def iUnd248:=Und.mk Tryz.underlying248
@[reducible,instance]def iUnd250:=Und.mk Tryz.underlying250
@[reducible,instance]def iUnd268:=Und.mk Tryz.underlying268
@[reducible,instance]def iUnd270:=Und.mk Tryz.underlying270
@[reducible,instance]def iUnd274:=Und.mk Tryz.underlying274
@[reducible,instance]def iUnd276:=Und.mk Tryz.underlying276
@[reducible,instance]def iUnd280:=Und.mk Tryz.underlying280
@[reducible,instance]def iUnd316:=Und.mk Tryz.underlying316
@[reducible,instance]def iSiz3:=Siz.mk Tryz.sizeOf3
@[reducible,instance]def iSiz4:=Siz.mk Tryz.sizeOf4
@[reducible,instance]def iSiz5:=Siz.mk Tryz.sizeOf5
@[reducible,instance]def iSiz9:=Siz.mk Tryz.sizeOf9
@[reducible,instance]def iSiz26:=Siz.mk Tryz.sizeOf26
@[reducible,instance]def iSiz33:=Siz.mk Tryz.sizeOf33
@[reducible,instance]def iSiz40:=Siz.mk Tryz.sizeOf40
@[reducible,instance]def iSiz47:=Siz.mk Tryz.sizeOf47
@[reducible,instance]def iSiz80:=Siz.mk Tryz.sizeOf80
@[reducible,instance]def iSiz82:=Siz.mk Tryz.sizeOf82
@[reducible,instance]def iSiz89:=Siz.mk Tryz.sizeOf89
@[reducible,instance]def iSiz91:=Siz.mk Tryz.sizeOf91
@[reducible,instance]def iSiz217:=Siz.mk Tryz.sizeOf217
@[reducible,instance]def iSiz219:=Siz.mk Tryz.sizeOf219
@[reducible,instance]def iSiz232:=Siz.mk Tryz.sizeOf232
@[reducible,instance]def iSiz248:=Siz.mk Tryz.sizeOf248
@[reducible,instance]def iSiz268:=Siz.mk Tryz.sizeOf268
@[reducible,instance]def iSiz270:=Siz.mk Tryz.sizeOf270
@[reducible,instance]def iSiz276:=Siz.mk Tryz.sizeOf276
@[reducible,instance]def iAgg4:=Agg.mk Tryz.isAgg4
@[reducible,instance]def iAgg9:=Agg.mk Tryz.isAgg9
@[reducible,instance]def iAgg26:=Agg.mk Tryz.isAgg26
@[reducible,instance]def iAgg33:=Agg.mk Tryz.isAgg33
@[reducible,instance]def iAgg80:=Agg.mk Tryz.isAgg80
@[reducible,instance]def iAgg82:=Agg.mk Tryz.isAgg82
@[reducible,instance]def iAgg89:=Agg.mk Tryz.isAgg89
@[reducible,instance]def iAgg91:=Agg.mk Tryz.isAgg91
@[reducible,instance]def iAgg217:=Agg.mk Tryz.isAgg217
@[reducible,instance]def iAgg219:=Agg.mk Tryz.isAgg219
@[reducible,instance]def iAgg268:=Agg.mk Tryz.isAgg268
@[reducible,instance]def iAgg270:=Agg.mk Tryz.isAgg270
@[reducible,instance]def iAgg276:=Agg.mk Tryz.isAgg276
@[reducible,instance]def iZer80:=Zer.mk Tryz.zeroValue80
@[reducible,instance]def iZer82:=Zer.mk Tryz.zeroValue82
@[reducible,instance]def iZer89:=Zer.mk Tryz.zeroValue89
@[reducible,instance]def iZer91:=Zer.mk Tryz.zeroValue91
@[reducible,instance]def iZer219:=Zer.mk Tryz.zeroValue219
@[reducible,instance]def iZer232:=Zer.mk Tryz.zeroValue232
@[reducible,instance]def iZer250:=Zer.mk Tryz.zeroValue250
@[reducible,instance]def iZer270:=Zer.mk Tryz.zeroValue270
@[reducible,instance]def iZer274:=Zer.mk Tryz.zeroValue274
@[reducible,instance]def iZer276:=Zer.mk Tryz.zeroValue276
abbrev cGa(f:Nat):=CalF Go.Proofs.Tryz.prog f
open Go.Proofs.Tryz
instance:cGa 57:=.mk call57
instance:cGa 67:=.mk call67
instance:cGa 69:=.mk call69
instance:cGa 70:=.mk call70
instance:cGa 72:=.mk call72
instance:cGa 76:=.mk call76
instance:cGa 78:=.mk call78
instance:cGa 79:=.mk call79
instance:cGa 81:=.mk call81
instance:cGa 82:=.mk call82
instance:cGa 97:=.mk call97
instance:cGa 99:=.mk call99
instance:cGa 100:=.mk call100
instance:cGa 105:=.mk call105
instance:cGa 106:=.mk call106
instance:cGa 117:=.mk call117
instance:cGa 118:=.mk call118
instance:cGa 119:=.mk call119
instance:cGa 126:=.mk call126
instance:cGa 127:=.mk call127
instance:cGa 128:=.mk call128
instance:cGa 129:=.mk call129
instance:cGa 130:=.mk call130
instance:cGa 131:=.mk call131
instance:cGa 135:=.mk call135
instance:cGa 136:=.mk call136
instance:cGa 138:=.mk call138
instance:cGa 140:=.mk call140
instance:cGa 143:=.mk call143
instance:cGa 144:=.mk call144
instance:cGa 146:=.mk call146
instance:cGa 147:=.mk call147
instance:cGa 148:=.mk call148
instance:cGa 149:=.mk call149
instance:cGa 164:=.mk call164
instance:cGa 165:=.mk call165
instance:cGa 166:=.mk call166
instance:cGa 167:=.mk call167
instance:cGa 169:=.mk call169
instance:cGa 170:=.mk call170
instance:cGa 172:=.mk call172
instance:cGa 173:=.mk call173
instance:cGa 178:=.mk call178
instance:cGa 179:=.mk call179
instance:cGa 180:=.mk call180
instance:cGa 183:=.mk call183
instance:cGa 184:=.mk call184
instance:cGa 188:=.mk call188
instance:cGa 189:=.mk call189
instance:cGa 190:=.mk call190
instance:cGa 191:=.mk call191
instance:cGa 192:=.mk call192
instance:cGa 193:=.mk call193
instance:cGa 194:=.mk call194
instance:cGa 195:=.mk call195
instance:cGa 196:=.mk call196
instance:cGa 197:=.mk call197
instance:cGa 198:=.mk call198
instance:cGa 200:=.mk call200
instance:cGa 201:=.mk call201
instance:cGa 202:=.mk call202
instance:cGa 209:=.mk call209
instance:cGa 210:=.mk call210
instance:cGa 211:=.mk call211
instance:cGa 212:=.mk call212
instance:cGa 213:=.mk call213
instance:cGa 214:=.mk call214
instance:cGa 215:=.mk call215
instance:cGa 216:=.mk call216
instance:cGa 217:=.mk call217
instance:cGa 218:=.mk call218
instance:cGa 219:=.mk call219
instance:cGa 220:=.mk call220
instance:cGa 221:=.mk call221
instance:cGa 222:=.mk call222
instance:cGa 223:=.mk call223
instance:cGa 224:=.mk call224
instance:cGa 225:=.mk call225
instance:cGa 226:=.mk call226
instance:cGa 228:=.mk call228
instance:cGa 232:=.mk call232
instance:cGa 233:=.mk call233
instance:cGa 234:=.mk call234
instance:cGa 235:=.mk call235
instance:cGa 236:=.mk call236
instance:cGa 237:=.mk call237
instance:cGa 238:=.mk call238
instance:cGa 239:=.mk call239
instance:cGa 240:=.mk call240
instance:cGa 251:=.mk call251
instance:cGa 254:=.mk call254
instance:cGa 255:=.mk call255
instance:cGa 256:=.mk call256
instance:cGa 257:=.mk call257
instance:cGa 258:=.mk call258
instance:cGa 259:=.mk call259
instance:cGa 260:=.mk call260
instance:cGa 261:=.mk call261
instance:cGa 262:=.mk call262
instance:cGa 263:=.mk call263
instance:cGa 264:=.mk call264
instance:cGa 265:=.mk call265
instance:cGa 266:=.mk call266
instance:cGa 267:=.mk call267
instance:cGa 268:=.mk call268
instance:cGa 272:=.mk call272
instance:cGa 280:=.mk call280
instance:cGa 281:=.mk call281
instance:cGa 282:=.mk call282
instance:cGa 283:=.mk call283
instance:cGa 284:=.mk call284
instance:cGa 285:=.mk call285
instance:cGa 286:=.mk call286
instance:cGa 287:=.mk call287
instance:cGa 288:=.mk call288
instance:cGa 289:=.mk call289
instance:cGa 290:=.mk call290
instance:cGa 291:=.mk call291
instance:cGa 292:=.mk call292
instance:cGa 293:=.mk call293
instance:cGa 294:=.mk call294
instance:cGa 295:=.mk call295
instance:cGa 297:=.mk call297
instance:cGa 298:=.mk call298
instance:cGa 299:=.mk call299
instance:cGa 300:=.mk call300
instance:cGa 301:=.mk call301
instance:cGa 302:=.mk call302
instance:cGa 303:=.mk call303
instance:cGa 304:=.mk call304
instance:cGa 305:=.mk call305
instance:cGa 306:=.mk call306
instance:cGa 307:=.mk call307
instance:cGa 308:=.mk call308
instance:cGa 309:=.mk call309
instance:cGa 310:=.mk call310
instance:cGa 311:=.mk call311
instance:cGa 312:=.mk call312
instance:cGa 313:=.mk call313
instance:cGa 314:=.mk call314
instance:cGa 315:=.mk call315
instance:EncT Tryz.prog 232 1 Lj:=⟨pU⟩
instance:EncE 1 Lj:=⟨_,_,pU⟩
instance:EncT Tryz.prog 5 1 Zkq:=⟨pB⟩
instance:EncE 1 Zkq:=⟨_,_,pB⟩
instance:EncT Tryz.prog 3 1 Ij:=⟨pN⟩
instance:EncE 1 Ij:=⟨_,_,pN⟩
instance:EncT Tryz.prog 3 1 Yj:=⟨pZ⟩
instance:EncE 1 Yj:=⟨_,_,pZ⟩
instance:EncT Tryz.prog 80 2 Yae:=⟨pW⟩
instance:EncE 2 Yae:=⟨_,_,pW⟩
instance:EncT Tryz.prog 80 2 wv:=⟨pV⟩
instance:EncE 2 wv:=⟨_,_,pV⟩
instance:EncT Tryz.prog 89 2 My:=⟨pI⟩
instance:EncE 2 My:=⟨_,_,pI⟩
instance {α:Type} : EncT Tryz.prog 40 1 (Nn (α:=α)):=⟨pS⟩
instance {α:Type} : EncE 1 (Nn (α:=α)):=⟨_,_,pS⟩
instance:EncT Tryz.prog 276 8 iq:=⟨pY⟩
instance:EncE 8 iq:=⟨_,_,pY⟩
instance:EncT Tryz.prog 82 4 rq:=⟨pQ⟩
instance:EncE 4 rq:=⟨_,_,pQ⟩
instance:EncT Tryz.prog 82 4 encQ:=⟨pR⟩
instance:EncE 4 encQ:=⟨_,_,pR⟩
@[reducible,instance]def iUnd23:=Und.mk Tryz.underlying23
@[reducible,instance]def iUnd25:=Und.mk Tryz.underlying25
@[reducible,instance]def iUnd35:=Und.mk Tryz.underlying35
@[reducible,instance]def iUnd38:=Und.mk Tryz.underlying38
@[reducible,instance]def iUnd46:=Und.mk Tryz.underlying46
@[reducible,instance]def iUnd50:=Und.mk Tryz.underlying50
@[reducible,instance]def iUnd61:=Und.mk Tryz.underlying61
@[reducible,instance]def iUnd130:=Und.mk Tryz.underlying130
@[reducible,instance]def iUnd135:=Und.mk Tryz.underlying135
@[reducible,instance]def iUnd140:=Und.mk Tryz.underlying140
@[reducible,instance]def iUnd150:=Und.mk Tryz.underlying150
@[reducible,instance]def iUnd162:=Und.mk Tryz.underlying162
@[reducible,instance]def iUnd165:=Und.mk Tryz.underlying165
@[reducible,instance]def iUnd166:=Und.mk Tryz.underlying166
@[reducible,instance]def iUnd182:=Und.mk Tryz.underlying182
@[reducible,instance]def iUnd186:=Und.mk Tryz.underlying186
@[reducible,instance]def iUnd189:=Und.mk Tryz.underlying189
@[reducible,instance]def iUnd190:=Und.mk Tryz.underlying190
@[reducible,instance]def iUnd193:=Und.mk Tryz.underlying193
@[reducible,instance]def iUnd210:=Und.mk Tryz.underlying210
@[reducible,instance]def iUnd242:=Und.mk Tryz.underlying242
@[reducible,instance]def iUnd243:=Und.mk Tryz.underlying243
@[reducible,instance]def iUnd331:=Und.mk Tryz.underlying331
@[reducible,instance]def iSiz23:=Siz.mk Tryz.sizeOf23
@[reducible,instance]def iSiz25:=Siz.mk Tryz.sizeOf25
@[reducible,instance]def iSiz35:=Siz.mk Tryz.sizeOf35
@[reducible,instance]def iSiz38:=Siz.mk Tryz.sizeOf38
@[reducible,instance]def iSiz46:=Siz.mk Tryz.sizeOf46
@[reducible,instance]def iSiz64:=Siz.mk Tryz.sizeOf64
@[reducible,instance]def iSiz130:=Siz.mk Tryz.sizeOf130
@[reducible,instance]def iSiz135:=Siz.mk Tryz.sizeOf135
@[reducible,instance]def iSiz162:=Siz.mk Tryz.sizeOf162
@[reducible,instance]def iSiz182:=Siz.mk Tryz.sizeOf182
@[reducible,instance]def iSiz189:=Siz.mk Tryz.sizeOf189
@[reducible,instance]def iSiz210:=Siz.mk Tryz.sizeOf210
@[reducible,instance]def iSiz242:=Siz.mk Tryz.sizeOf242
@[reducible,instance]def iSiz243:=Siz.mk Tryz.sizeOf243
@[reducible,instance]def iSiz330:=Siz.mk Tryz.sizeOf330
@[reducible,instance]def iAgg3:=Agg.mk Tryz.isAgg3
@[reducible,instance]def iAgg23:=Agg.mk Tryz.isAgg23
@[reducible,instance]def iAgg25:=Agg.mk Tryz.isAgg25
@[reducible,instance]def iAgg35:=Agg.mk Tryz.isAgg35
@[reducible,instance]def iAgg38:=Agg.mk Tryz.isAgg38
@[reducible,instance]def iAgg40:=Agg.mk Tryz.isAgg40
@[reducible,instance]def iAgg46:=Agg.mk Tryz.isAgg46
@[reducible,instance]def iAgg50:=Agg.mk Tryz.isAgg50
@[reducible,instance]def iAgg61:=Agg.mk Tryz.isAgg61
@[reducible,instance]def iAgg64:=Agg.mk Tryz.isAgg64
@[reducible,instance]def iAgg130:=Agg.mk Tryz.isAgg130
@[reducible,instance]def iAgg135:=Agg.mk Tryz.isAgg135
@[reducible,instance]def iAgg162:=Agg.mk Tryz.isAgg162
@[reducible,instance]def iAgg182:=Agg.mk Tryz.isAgg182
@[reducible,instance]def iAgg189:=Agg.mk Tryz.isAgg189
@[reducible,instance]def iAgg210:=Agg.mk Tryz.isAgg210
@[reducible,instance]def iAgg243:=Agg.mk Tryz.isAgg243
@[reducible,instance]def iAgg330:=Agg.mk Tryz.isAgg330
@[reducible,instance]def iZer3:=Zer.mk Tryz.zeroValue3
@[reducible,instance]def iZer4:=Zer.mk Tryz.zeroValue4
@[reducible,instance]def iZer23:=Zer.mk Tryz.zeroValue23
@[reducible,instance]def iZer25:=Zer.mk Tryz.zeroValue25
@[reducible,instance]def iZer26:=Zer.mk Tryz.zeroValue26
@[reducible,instance]def iZer35:=Zer.mk Tryz.zeroValue35
@[reducible,instance]def iZer38:=Zer.mk Tryz.zeroValue38
@[reducible,instance]def iZer64:=Zer.mk Tryz.zeroValue64
@[reducible,instance]def iZer130:=Zer.mk Tryz.zeroValue130
@[reducible,instance]def iZer135:=Zer.mk Tryz.zeroValue135
@[reducible,instance]def iZer162:=Zer.mk Tryz.zeroValue162
@[reducible,instance]def iZer165:=Zer.mk Tryz.zeroValue165
@[reducible,instance]def iZer166:=Zer.mk Tryz.zeroValue166
@[reducible,instance]def iZer182:=Zer.mk Tryz.zeroValue182
@[reducible,instance]def iZer189:=Zer.mk Tryz.zeroValue189
@[reducible,instance]def iZer210:=Zer.mk Tryz.zeroValue210
@[reducible,instance]def iZer243:=Zer.mk Tryz.zeroValue243
open Go.Proofs.Tryz
instance:cGa 20:=.mk call20
instance:cGa 23:=.mk call23
instance:cGa 24:=.mk call24
instance:cGa 28:=.mk call28
instance:cGa 31:=.mk call31
instance:cGa 36:=.mk call36
instance:cGa 37:=.mk call37
instance:cGa 38:=.mk call38
instance:cGa 39:=.mk call39
instance:cGa 40:=.mk call40
instance:cGa 41:=.mk call41
instance:cGa 42:=.mk call42
instance:cGa 43:=.mk call43
instance:cGa 44:=.mk call44
instance:cGa 45:=.mk call45
instance:cGa 46:=.mk call46
instance:cGa 47:=.mk call47
instance:cGa 48:=.mk call48
instance:cGa 50:=.mk call50
instance:cGa 53:=.mk call53
instance:cGa 54:=.mk call54
instance:cGa 59:=.mk call59
instance:cGa 68:=.mk call68
instance:cGa 73:=.mk call73
instance:cGa 75:=.mk call75
instance:cGa 77:=.mk call77
instance:cGa 80:=.mk call80
instance:cGa 83:=.mk call83
instance:cGa 85:=.mk call85
instance:cGa 86:=.mk call86
instance:cGa 87:=.mk call87
instance:cGa 88:=.mk call88
instance:cGa 89:=.mk call89
instance:cGa 90:=.mk call90
instance:cGa 91:=.mk call91
instance:cGa 92:=.mk call92
instance:cGa 93:=.mk call93
instance:cGa 94:=.mk call94
instance:cGa 95:=.mk call95
instance:cGa 96:=.mk call96
instance:cGa 98:=.mk call98
instance:cGa 101:=.mk call101
instance:cGa 102:=.mk call102
instance:cGa 103:=.mk call103
instance:cGa 104:=.mk call104
instance:cGa 107:=.mk call107
instance:cGa 108:=.mk call108
instance:cGa 109:=.mk call109
instance:cGa 110:=.mk call110
instance:cGa 111:=.mk call111
instance:cGa 113:=.mk call113
instance:cGa 114:=.mk call114
instance:cGa 115:=.mk call115
instance:cGa 120:=.mk call120
instance:cGa 121:=.mk call121
instance:cGa 122:=.mk call122
instance:cGa 125:=.mk call125
instance:cGa 132:=.mk call132
instance:cGa 133:=.mk call133
instance:cGa 134:=.mk call134
instance:cGa 137:=.mk call137
instance:cGa 139:=.mk call139
instance:cGa 141:=.mk call141
instance:cGa 142:=.mk call142
instance:cGa 145:=.mk call145
instance:cGa 150:=.mk call150
instance:cGa 151:=.mk call151
instance:cGa 153:=.mk call153
instance:cGa 154:=.mk call154
instance:cGa 155:=.mk call155
instance:cGa 156:=.mk call156
instance:cGa 157:=.mk call157
instance:cGa 158:=.mk call158
instance:cGa 159:=.mk call159
instance:cGa 160:=.mk call160
instance:cGa 161:=.mk call161
instance:cGa 162:=.mk call162
instance:cGa 163:=.mk call163
instance:cGa 168:=.mk call168
instance:cGa 171:=.mk call171
instance:cGa 174:=.mk call174
instance:cGa 175:=.mk call175
instance:cGa 177:=.mk call177
instance:cGa 181:=.mk call181
instance:cGa 182:=.mk call182
instance:cGa 185:=.mk call185
instance:cGa 186:=.mk call186
instance:cGa 187:=.mk call187
instance:cGa 199:=.mk call199
instance:cGa 203:=.mk call203
instance:cGa 204:=.mk call204
instance:cGa 205:=.mk call205
instance:cGa 206:=.mk call206
instance:cGa 207:=.mk call207
instance:cGa 208:=.mk call208
instance:cGa 227:=.mk call227
instance:cGa 229:=.mk call229
instance:cGa 230:=.mk call230
instance:cGa 231:=.mk call231
instance:cGa 241:=.mk call241
instance:cGa 247:=.mk call247
instance:cGa 252:=.mk call252
instance:cGa 253:=.mk call253
instance:cGa 271:=.mk call271
instance:cGa 278:=.mk call278
instance:cGa 279:=.mk call279
open Go.Proofs.Tryz
set_option synthInstance.maxSize 100000
set_option maxRecDepth 20000
set_option linter.unusedSimpArgs false
theorem Ylp(v:Value)(xs:List Nat):Cal prog 183 #[v] [Yx 1 Lj v xs] true (G:=Unit) (λ_=>True) (λ_=>Ic v (tz xs).length) (λ_=>[Yx 1 Lj (Ic v (tz xs).length) (tz xs)]):=by
 refine Zg func183 ntmps183 λo n m c=>?_;refine Pi (Zz7 (i:=1) J Zr) (λa=>?_);refine Pi (Mi (i:=1) J Zr) λl=>go 7 ?_;refine lp (G:=Nat) [] [0] (λk=>[(0,Ic v k)]) (λk=>[(1,Yx 1 Lj (Ic v k) (xs.take k))]) (λk=>(k<=xs.length)/\(tz (xs.take k)=tz xs)) (λk=>k) xs.length ⟨aF _,by rw [bL]⟩ ⟨by rw [a];rfl,aA⟩ ⟨by rw [a,bL];rfl,aA⟩ ?_;rintro k ⟨g,h⟩;have e:(xs.take k).length=k:=by rw [cL];omega
 refine go 7<|Xf 6 J (λj=>?_) (λj=>?_)
 .refine go 4 ⟨O1,?_⟩;refine Hk (Zv 1 (k-1) J J J J Zr Oi Ii) J J<|go 5 ⟨O1,?_⟩;refine Ze J (λf=>?_) (λf=>?_)
  .have b:=Ybe g O1 (by omega:(xs.take k).getD (k-1) 0=0);refine go 8 ⟨O1,?_⟩;refine dt (Yd8 1 (k-1) J J J J Zr Oi Ii)<|go 3 ?_;exact Zp (Yjk 1 1 (k-1) J J)<|Yh (k-1) ⟨O2,by rw [<-h,<-b]⟩ O2 ⟨by rw [<-Ea v k (k-1)];rfl,aA⟩ ⟨by rw [Ea,iM,dP O1];rfl,aA⟩
  .refine go 12 ?_;have d:tz xs=xs.take k:=by rw [<-h];exact Zgj g O1
   exact Xh c () results183 (by rw [d,e]) aA (Ph 1 Za (by rw [d,e]))
 .refine go 23 ?_;have d:tz xs=xs.take k:=by rw [<-h];exact Zgj g O1
  exact Xh c () results183 (by rw [d,e]) aA (Ph 1 Za (by rw [d,e]))
def Ot:Cal prog 183 #[v] [Yx 1 Lj v xs] false (G:=Unit) (λ_=>True) (λ_=>Ic v (tz xs).length) (λ_=>[]):=(Ylp v xs).bare
theorem Yc3(t:bl x<=4294967296)(I:bl y<=4294967296):Cal prog 222 #[v,w] [Dm v x,Dm w y] false (G:=Value) (λr=>True) (λr=>r) (λr=>[Dm r (x+y)]):=by
 refine Zg func222 ntmps222 λQ M n m=>?_;have F:=Mv x;have H:=Mv y;refine go 5 ?_;refine jn (G:=Value×Value×Nat×Nat) [] [0,1,2] (λq=>[(0,q.1),(1,q.2.1)]) (λq=>[(91,Dm q.1 q.2.2.1),(92,Dm q.2.1 q.2.2.2)]) (λq=>(q.2.2.1+q.2.2.2=x+y)/\((dg U q.2.2.2).length<=(dg U q.2.2.1).length)/\((dg U q.2.2.1).length<=1099511627776)) ?_ ?_
 .refine go 9<|Ze J (λg=>?_) (λg=>?_)
  .refine go 6<|Zp (Xs 2 91 J J J)<|Zp (Xs 1 92 J J J) ?_;exact Oc (w,v,y,x) ⟨O2,O2,O2⟩ K2 K2
  .refine go 1<|Zp (Xs 1 91 J J J)<|Zp (Xs 2 92 J J J) ?_;exact Oc (v,w,x,y) ⟨O2,O2,O2⟩ K2 K2
 .rintro⟨N,P,a,b⟩ ⟨hs,s,j⟩;dsimp only at hs s j;dsimp only;refine go 5 ⟨O1,?_⟩;refine tt (Hl 3 ((dg U a).length+1) 8 (enc:=Lj) 0 J J J J Oi ti232 J pU.cells pU.pos J J J n.h) λv _=>go 17 ?_;refine lp (G:=Nat×List Nat×Nat) [0,1,5,21] [0,91,92,1,2] (λq=>[(22,.int .i64 (q.1:Int)),(6,.int .u64 (q.2.2:Int))]) (λq=>[(3,Oe 1 232 Lj v q.2.1)]) (λq=>(q.1<=(dg U a).length)/\(q.2.1.length=(dg U a).length+1)/\(∀d∈q.2.1,d<U)/\(q.2.2<=1)/\(Yt U (q.2.1.take q.1)+q.2.2*U^q.1=Yt U ((dg U a).take q.1)+Yt U ((dg U b).take q.1))) (λq=>(dg U a).length-q.1) (0,List.replicate ((dg U a).length+1) 0,0) ⟨O2,O6,Nr Qk,O2,by simp [Yt]⟩ K2 K1 ?_;rintro⟨k,o,c⟩ ⟨z,l,e,u,f⟩;dsimp only at z l e u f;dsimp only;refine go 6<|Ze J (λh=>?_) (λh=>?_)
  .refine go 15 ?_;refine jn (G:=Unit) [0,1,5,6,7,21,22] [0,3,91,92,1,2] (λ_=>[(8,.int .u64 ((dg U b).getD k 0:Int))]) (λ_=>[]) (λ_=>True) ?_ ?_
   .refine go 8<|Ze J (λi=>?_) (λi=>?_)
    .refine go 7 ⟨O3,O3,?_⟩
     try (have p:(dg U b).getD k 0=0:=by simp [List.getD,bX (by omega:(dg U b).length<=k)])
     exact Oc () aA ⟨by first|rfl|(rw [p];rfl),aA⟩ aA
    .refine go 1 ?_
     try (have p:(dg U b).getD k 0=0:=by simp [List.getD,bX (by omega:(dg U b).length<=k)])
     exact Oc () aA ⟨by first|rfl|(rw [p];rfl),aA⟩ aA
   .rintro _ -;refine go 9 ⟨O3,O3,?_⟩;refine dt (Zti _ J J J J O1 Zjn)<|go 4 ⟨O3,?_⟩;refine tt (Km 3 (enc:=Lj) J J J J J J pU J n.h O4 O3) (λ_ _=>?_);refine go 8 ⟨O1,?_⟩;exact Yh (k+1,_,_) ⟨O2,O9,Kk e _ (bI _ Qk),by have B:=Qg Qk (Me Qh a) k;have D:=Qg Qk (Me Qh b) k;simp only [U]at *;omega,Yo6 f O1⟩ O2 K2 K1
  .refine go 6 ?_;obtain rfl:k=(dg U a).length:=O1;refine go 6 ⟨O3,?_⟩;refine tt (Km 3 (enc:=Lj) J J J J J J pU J n.h O4 O3) λ_ _=>go 5 ?_;refine cl 3 [3] Ot λ_ _=>?_;refine Xg (Zbp 3 J J pU)<|go 4 ?_;have t:tz (o.set (dg U a).length c)=dg U (x+y):=by
    rw [<-Ih Qh _ (Kk e _ (by simp only [U];omega)),<-hs];congr 1
    conv=>rhs;rw [<-Lr Qh a,<-Lr Qh b]
    rw [cE (aF (dg U a).length),Mu U (dg U b) _ s]at f;rw [<-f,<-Bp U o c O1,Mu _ _ _ O9]
   exact Xh m _ results222 J aA (gow 3 Za t)
theorem Zhg(p:bl x<=4294967296)(j:y<=x:=by omega):Cal prog 224 #[v,w] [Dm v x,Dm w y] false (G:=Value) (λr=>True) (λr=>r) (λr=>[Dm r (x-y)]):=by
 refine Zg func224 ntmps224 λH F n h=>?_;have z:=Mv x;have B:=Mv y;have D:=Pz j;refine go 9 ?_;refine tt (Hl 3 ((dg U x).length) 8 (enc:=Lj) 0 J J J J Oi ti232 J pU.cells pU.pos J J J n.h) λv _=>go 17 ?_;refine lp (G:=Nat×List Nat×Nat) [0,1,5,13] [0,1,2] (λq=>[(14,.int .i64 (q.1:Int)),(6,.int .u64 (q.2.2:Int))]) (λq=>[(3,Oe 1 232 Lj v q.2.1)]) (λq=>(q.1<=(dg U x).length)/\(q.2.1.length=(dg U x).length)/\(∀d∈q.2.1,d<U)/\(q.2.2<=1)/\(Yt U (q.2.1.take q.1)+Yt U ((dg U y).take q.1)=Yt U ((dg U x).take q.1)+q.2.2*U^q.1)) (λq=>(dg U x).length-q.1) (0,List.replicate ((dg U x).length) 0,0) ⟨O2,O6,Nr Qk,O2,by simp [Yt]⟩ K2 K1 ?_;rintro⟨k,o,c⟩ ⟨u,b,a,m,i⟩;dsimp only at u b a m i;dsimp only;refine go 6<|Ze J (λe=>?_) (λe=>?_)
 .refine go 15 ?_;refine jn (G:=Unit) [0,1,5,6,7,13,14] [0,3,1,2] (λ_=>[(8,.int .u64 ((dg U y).getD k 0:Int))]) (λ_=>[]) (λ_=>True) ?_ ?_
  .refine go 8<|Ze J (λf=>?_) (λf=>?_)
   .refine go 7 ⟨O3,O3,?_⟩
    try (have l:(dg U y).getD k 0=0:=by simp [List.getD,bX (by omega:(dg U y).length<=k)])
    exact Oc () aA ⟨by first|rfl|(rw [l];rfl),aA⟩ aA
   .refine go 1 ?_
    try (have l:(dg U y).getD k 0=0:=by simp [List.getD,bX (by omega:(dg U y).length<=k)])
    exact Oc () aA ⟨by first|rfl|(rw [l];rfl),aA⟩ aA
  .rintro _ -;refine go 9 ⟨O3,O3,?_⟩;refine dt (Ys7 J J J J O1 Yfo)<|go 4 ⟨O3,?_⟩;refine tt (Km 3 (enc:=Lj) J J J J J J pU J n.h O4 O3) (λ_ _=>?_);refine go 8 ⟨O1,?_⟩;exact Yh (k+1,_,_) ⟨O2,O9,Kk a _ (bI _ Qk),Yop,Yif m (Qg Qk (Me Qh x) k) (Qg Qk (Me Qh y) k) i O1⟩ O2 K2 K1
 .refine go 8 ?_;refine cl 3 [3] Ot λ_ _=>?_;refine Xg (Zbp 3 J J pU)<|go 4 ?_;obtain rfl:k=(dg U x).length:=O1;have p:tz o=dg U (x-y):=by rw [<-Ih Qh _ a];congr 1;have g:(dg U y).length<=(dg U x).length:=O1;rw [Mu U o _ O1,Mu U (dg U y) _ g,Mu U (dg U x) _ (aF _),Lr Qh,Lr Qh]at i;have t:=Zik Qk o a;rw [b]at t;have s:c=0\/c=1:=O1;rcases s with rfl|rfl<;>omega
  exact Xh h _ results224 J aA (gow 3 Za p)
theorem Zdo(p:bl x<=4294967296)(q:bl y<=4294967296):Cal prog 223 #[v,w] [Dm v x,Dm w y] false (G:=Int) (λr=>(r<0↔x<y)/\(0<r↔y<x)) (λr=> .int .i64 r) (λr=>[]):=by
 refine Zg func223 ntmps223 λt s o a=>?_;have l:=Mv x;have m:=Mv y;refine go 15<|Ze J (λe=>?_) (λe=>?_)
 .refine go 12 ⟨O1,?_⟩;exact Xh a _ results223 J ⟨⟨λh=>Zbz Qh O1,λh=>by have:=Pz (dH h);omega⟩,⟨λh=>Zbz Qh O1,λh=>by have:=Pz (dH h);omega⟩⟩ Za
 .have c:(dg U x).length=(dg U y).length:=O1;refine go 12 ⟨O1,?_⟩;refine lp (G:=Nat) [0,1] [0,1,2] (λk=>[(5,.int .i64 ((k:Int)-1))]) (λk=>[]) (λk=>(k<=(dg U x).length)/\((dg U x).drop k=(dg U y).drop k)) (λk=>k) (dg U x).length ⟨O2,by rw [gN,c,gN]⟩ K1 aA ?_;rintro k ⟨n,d⟩;refine go 7<|Ze J (λf=>?_) (λf=>?_)
  .refine go 6<|Qb (λ_=>False) [(0,0),(1,0),(2,0),(3,0),(4,0),(5,0),(6,0),(7,0),(8,0),(9,0)]<|go 2 ?_;refine Xc J J (Xl (Zv 1 (k-1) J J J J Zr Oi Ii))<|go 3 ⟨O3,?_⟩;refine Xc J J (Xl (Zv 2 (k-1) J J J J Zr Oi Ii))<|go 5 ⟨O3,?_⟩;refine Ze J (λg=>?_) (λg=>?_)
   .refine go 12 ?_;have b:=Ztq Qk (xs:=dg U x) (ys:=dg U y) (Me Qh x) (k:=k-1) O1 O1 (by rw [show k-1+1=k by omega];exact d) O1;rw [Lr Qh,Lr Qh]at b;exact Xh a (-1) results223 J O1 Za
   .refine go 1<|Qb (λ_=>False) [(0,0),(1,0),(2,0),(3,0),(4,0),(5,0),(6,0),(7,0),(8,0),(9,0)]<|go 2 ?_;refine Xc J J (Xl (Zv 1 (k-1) J J J J Zr Oi Ii))<|go 3 ⟨O3,?_⟩;refine Xc J J (Xl (Zv 2 (k-1) J J J J Zr Oi Ii))<|go 5 ⟨O3,?_⟩;refine Ze J (λi=>?_) (λi=>?_)
    .refine go 12 ?_;have b:=Ztq Qk (xs:=dg U y) (ys:=dg U x) (Me Qh y) (k:=k-1) O1 O1 (by rw [show k-1+1=k by omega];exact d.symm) O1;rw [Lr Qh,Lr Qh]at b;exact Xh a 1 results223 J O1 Za
    .refine go 9 ⟨O1,?_⟩;exact Yh (k-1) ⟨O2,by have:=Zhz (dg U x) (dg U y) (k:=k-1) O1 O1 (by rw [show k-1+1=k by omega];exact d) O1;exact this⟩ O2 ⟨by rw [show(((k-1:Nat):Int)-1)=(k:Int)-1-1 by omega];rfl,aA⟩ aA
  .refine go 11 ?_;obtain rfl:k=0:=O1;have j:x=y:=(Zji Qh).1 (by simpa using d);exact Xh a 0 results223 J O1 Za
theorem You(b:x<U)(c:y<U):Qe prog 268 #[.int .u64 (x:Int),.int .u64 (y:Int)] [] (.tuple #[.int .u64 ((x*y/U:Nat):Int),.int .u64 ((x*y%U:Nat):Int)]):=by refine Zg func268 ntmps268 λf e d a=>?_;simp only [U]at b c;refine go 9 ?_;refine dt (Zun J J J b)<|go 6 ?_;refine dt (Fm 4294967296 (n:=32) J J J J J)<|go 6 ?_;refine dt (Zun J J J c)<|go 6 ?_;refine dt (Fm 4294967296 (n:=32) J J J J J)<|go 7 ?_;refine dt (Bk J J J)<|go 7 ?_;refine dt (Bk J J J)<|go 1 ?_;refine dt (Fm 4294967296 (n:=32) J J J J J)<|dt (Am J J J)<|go 6 ?_;refine dt (Zun J J J (bI _ Qk))<|go 6 ?_;refine dt (Fm 4294967296 (n:=32) J J J J J)<|go 8 ?_;refine dt (Bk J J J)<|dt (Am J J J)<|go 7 ?_;refine dt (Bk J J J)<|go 1 ?_;refine dt (Am J J J)<|go 1 ?_;refine dt (Fm 4294967296 (n:=32) J J J J J)<|dt (Am J J J)<|go 7 ?_;refine dt (Bk J J J)<|go 4 ?_;exact Nm a () results268 (by rw [Ylt b c rfl rfl]) aA Za
theorem Yc1(F:bl x<=4294967296)(P:bl y<=4294967296):Cal prog 220 #[v,w] [Dm v x,Dm w y] false (G:=Value) (λr=>True) (λr=>r) (λr=>[Dm r (x*y)]):=by
 refine Zg func220 ntmps220 λR Q B z=>?_;have M:=Mv x;have N:=Mv y;refine go 12 ⟨O1,?_⟩;refine tt (Hl 3 ((dg U x).length+(dg U y).length) 8 (enc:=Lj) 0 J J J J Oi ti232 J pU.cells pU.pos J J J B.h) λv _=>go 12 ?_;refine lp (G:=Nat×List Nat) [1,5,20,21] [0,1,2] (λq=>[(22,.int .i64 (q.1:Int))]) (λq=>[(3,Oe 1 232 Lj v q.2)]) (λq=>(q.1<=(dg U x).length)/\(q.2.length=(dg U x).length+(dg U y).length)/\(∀d∈q.2,d<U)/\(∀j,q.1+(dg U y).length<=j->q.2.getD j 0=0)/\(Yt U (q.2.take (q.1+(dg U y).length))=Yt U ((dg U x).take q.1)*y)) (λq=>(dg U x).length-q.1) (0,List.replicate ((dg U x).length+(dg U y).length) 0) ⟨O2,O6,Nr Qk,λj _=>Iv _ j,by simp [Yt,mF,Gy]⟩ K1 K1 ?_;rintro⟨i,o⟩ ⟨hi,s,g,H,t⟩;dsimp only at hi s g H t;dsimp only;refine go 6<|Ze J (λm=>?_) (λm=>?_)
 .refine go 27 ⟨O3,O3,?_⟩;refine lp (G:=Nat×List Nat×Nat) [1,5,6,7,20,21,22,27,28] [0,1,2] (λq=>[(29,.int .i64 (q.1:Int)),(8,.int .u64 (q.2.2:Int))]) (λq=>[(3,Oe 1 232 Lj v q.2.1)]) (λq=>(q.1<=(dg U y).length)/\(q.2.1.length=(dg U x).length+(dg U y).length)/\(∀d∈q.2.1,d<U)/\(∀j,i+(dg U y).length<=j->q.2.1.getD j 0=0)/\(q.2.2<U)/\(Yt U (q.2.1.take (i+(dg U y).length))+q.2.2*U^(i+q.1)=Yt U ((dg U x).take i)*y+(dg U x).getD i 0*U^i*Yt U ((dg U y).take q.1))) (λq=>(dg U y).length-q.1) (0,o,0) ⟨O2,s,g,H,Qk,by rw [t];simp [Yt]⟩ K2 K1 ?_;rintro⟨k,p,c⟩ ⟨I,u,a,l,f,h⟩;dsimp only at I u a l f h;dsimp only;have b:=Ygl (Qg Qk (Me Qh x) i) (Qg Qk (Me Qh y) k) (Qg Qk a (i+k)) f;refine go 6<|Ze J (λn=>?_) (λn=>?_)
  .refine go 17 ⟨O3,O3,?_⟩;refine cl 3 [] (You (Qg Qk (Me Qh _) _) (Qg Qk (Me Qh _) _)) λ_ _=>?_;refine go 14 ⟨O1,?_⟩;refine dt (Zv 3 (i+k) J J J J (Zz pU) Oi Ii)<|go 1 ⟨O3,?_⟩;refine dt (Zti 0 J J J J O1 Zjn)<|go 11 ?_;refine dt (Am J J J)<|go 7 ?_;refine dt (Zti 0 J J J J O1 Zjn)<|go 15 ⟨O1,?_⟩;refine dt (Am J J J)<|dt (Zv 3 (i+k) J J J J (Zz pU) Oi Ii)<|tt (Km 3 (enc:=Lj) J J J J J J pU J B.h O4 O3) (λ_ _=>?_);refine go 8 ⟨O1,?_⟩;exact Yh (k+1,_,_) ⟨O2,O9,Kk a _ (bI _ Qk),λj D=>by rw [Nj O1,aK O1];exact l j D,b.2,Yls h O1 O1 b.1⟩ O2 K2 K1
  .refine go 5 ?_;obtain rfl:k=(dg U y).length:=O1;have e:=h;rw [cE (aF (dg U y).length),Lr Qh]at e;refine go 7 ⟨O1,?_⟩;refine dt (Zv 3 (i+(dg U y).length) J J J J (Zz pU) Oi Ii)<|tt (Km 3 (enc:=Lj) J J J J J J pU J B.h O4 O3) (λ_ _=>?_);refine go 7 ⟨O1,?_⟩;exact Yh (i+1,_) ⟨O2,O9,Kk a _ f,λj D=>by rw [Nj O1,aK O1];exact l j O1,by dsimp only;rw [show i+1+(dg U y).length=i+(dg U y).length+1 by omega,Bp _ _ _ O1,Qw,cN,<-e]⟩ O2 K1 K1
 .refine go 8 ?_;refine cl 3 [3] Ot λ_ _=>?_;refine Xg (Zbp 3 J J pU)<|go 4 ?_;obtain rfl:i=(dg U x).length:=O1;have F:tz o=dg U (x*y):=by rw [<-Ih Qh _ g];congr 1;rw [Mu U o _ O1,cE (aF _),Lr Qh]at t;exact t
  exact Xh z _ results220 J aA (gow 3 Za F)
theorem Zx9(q:x<U):Qe prog 251 #[.int .u64 (x:Int)] [] (.int .i64 (bl x:Int)):=by
 refine Zg func251 ntmps251 λF D B g=>?_;simp only [U]at q;have c:=Gk x 32;have a:=Gk x 16;have l:=Gk x 8;have b:=Gk x 24;have d:=Gk x 40;have e:=Gk x 48;have f:=Gk x 56;have f32:=Zc4 32 x;have f16:=Zc4 16 x;have f8:=Zc4 8 x;have f24:=Zc4 24 x;have f40:=Zc4 40 x;have f48:=Zc4 48 x;have f56:=Zc4 56 x;have r:=aQ x (2^32) (2^16);have s:=aQ x (2^32) (2^8);have t:=aQ x (2^16) (2^8);have u:=aQ (x/2^32) (2^16) (2^8);have z:=aQ x (2^32) (2^16*2^8);simp only [Nat.reducePow,Nat.reduceMul]at *;refine go 12<|Ze J (λm=>?_) (λm=>?_)
 .refine go 3 ?_;refine dt (Fm 4294967296 (n:=32) J J J J J)<|go 14 ?_;refine Ze J (λo=>?_) (λo=>?_)
  .refine go 3 ?_;refine dt (Fm 65536 (n:=16) J J J J J)<|go 16 ⟨O1,?_⟩;refine Ze J (λp=>?_) (λp=>?_)
   .refine go 3 ?_;refine dt (Fm 256 (n:=8) J J J J J)<|go 13 ⟨O1,?_⟩;refine dt (Zfg J J Zbi uT5)<|dt (Zkb J J J uT9 J O1 O4 O7)<|dt (Zbe J J uT5 uT3 Zaw)<|go 5 ⟨Bb O1 O1,?_⟩;exact Xh g () results251 (Zav x O1 (by first|omega|(simp only [aQ,Nat.reduceMul,c,a,l,b,d,e,f];omega))).symm aA Za
   .refine go 6 ?_;refine dt (Zfg J J Zbi uT5)<|dt (Zkb J J J uT9 J O1 O4 O7)<|dt (Zbe J J uT5 uT3 Zaw)<|go 5 ⟨Bb O1 O1,?_⟩;exact Xh g () results251 (Zav x O1 (by first|omega|(simp only [aQ,Nat.reduceMul,c,a,l,b,d,e,f];omega))).symm aA Za
  .refine go 9<|Ze J (λi=>?_) (λi=>?_)
   .refine go 3 ?_;refine dt (Fm 256 (n:=8) J J J J J)<|go 13 ⟨O1,?_⟩;refine dt (Zfg J J Zbi uT5)<|dt (Zkb J J J uT9 J O1 O4 O7)<|dt (Zbe J J uT5 uT3 Zaw)<|go 5 ⟨Bb O1 O1,?_⟩;exact Xh g () results251 (Zav x O1 (by first|omega|(simp only [aQ,Nat.reduceMul,c,a,l,b,d,e,f];omega))).symm aA Za
   .refine go 6 ?_;refine dt (Zfg J J Zbi uT5)<|dt (Zkb J J J uT9 J O1 O4 O7)<|dt (Zbe J J uT5 uT3 Zaw)<|go 5 ⟨Bb O1 O1,?_⟩;exact Xh g () results251 (Zav x O1 (by first|omega|(simp only [aQ,Nat.reduceMul,c,a,l,b,d,e,f];omega))).symm aA Za
 .refine go 9<|Ze J (λh=>?_) (λh=>?_)
  .refine go 3 ?_;refine dt (Fm 65536 (n:=16) J J J J J)<|go 16 ⟨O1,?_⟩;refine Ze J (λj=>?_) (λj=>?_)
   .refine go 3 ?_;refine dt (Fm 256 (n:=8) J J J J J)<|go 13 ⟨O1,?_⟩;refine dt (Zfg J J Zbi uT5)<|dt (Zkb J J J uT9 J O1 O4 O7)<|dt (Zbe J J uT5 uT3 Zaw)<|go 5 ⟨Bb O1 O1,?_⟩;exact Xh g () results251 (Zav x O1 (by first|omega|(simp only [aQ,Nat.reduceMul,c,a,l,b,d,e,f];omega))).symm aA Za
   .refine go 6 ?_;refine dt (Zfg J J Zbi uT5)<|dt (Zkb J J J uT9 J O1 O4 O7)<|dt (Zbe J J uT5 uT3 Zaw)<|go 5 ⟨Bb O1 O1,?_⟩;exact Xh g () results251 (Zav x O1 (by first|omega|(simp only [aQ,Nat.reduceMul,c,a,l,b,d,e,f];omega))).symm aA Za
  .refine go 9<|Ze J (λk=>?_) (λk=>?_)
   .refine go 3 ?_;refine dt (Fm 256 (n:=8) J J J J J)<|go 13 ⟨O1,?_⟩;refine dt (Zfg J J Zbi uT5)<|dt (Zkb J J J uT9 J O1 O4 O7)<|dt (Zbe J J uT5 uT3 Zaw)<|go 5 ⟨Bb O1 O1,?_⟩;exact Xh g () results251 (Zav x O1 (by first|omega|(simp only [aQ,Nat.reduceMul,c,a,l,b,d,e,f];omega))).symm aA Za
   .refine go 6 ?_;refine dt (Zfg J J Zbi uT5)<|dt (Zkb J J J uT9 J O1 O4 O7)<|dt (Zbe J J uT5 uT3 Zaw)<|go 5 ⟨Bb O1 O1,?_⟩;exact Xh g () results251 (Zav x O1 (by first|omega|(simp only [aQ,Nat.reduceMul,c,a,l,b,d,e,f];omega))).symm aA Za
theorem Zt6(b:x<U):Qe prog 272 #[.int .u64 (x:Int)] [] (.int .i64 ((64-bl x:Nat):Int)):=by refine Zg func272 ntmps272 λf e d a=>?_;have c:bl x<=64:=(Qs 64 x).2 b;refine go 8 ?_;refine cl 0 [] (Zx9 b) λ_ _=>?_;refine go 5 ⟨O1,?_⟩;exact Xh a () results272 (by congr 1;omega) aA Za
theorem Zm4(g:bl x<=1099511627776:=by omega):Qe prog 232 #[v] [Dm v x] (.int .i64 (bl x:Int)):=by
 refine Zg func232 ntmps232 λj i f b=>?_;have e:=Mv x;refine go 13<|Ze J (λa=>?_) (λa=>?_)
 .refine go 7 ?_;have c:x=0:=(Om Qh x).1 O1;exact Xh b () results232 (by rw [c];rfl) aA Za
 .have d:0<x:=by rcases aU x with rfl|h;(simp [Gu]at a);exact h
  obtain⟨k,l,m,n⟩:=Ybo d;refine go 11 ⟨O1,O1,?_⟩;refine dt (Zv 1 ((dg U x).length-1) J J J J Zr Oi Ii)<|go 1 ⟨O3,?_⟩;refine cl 1 [] (Zt6 (Qg Qk (Me Qh _) _)) λ_ _=>?_;refine go 5 ⟨O1,?_⟩;exact Xh b () results232 (by congr 1;omega) aA Za
theorem Yhg(g:xs.length*8<=140737488355328):Yhm prog 309 #[v] [Yx 1 Lj v xs] (G:=Value) (λr=>True) (λr=>r) (λr=>Oe 1 232 Lj r xs):=by
 refine Zls func309 J ntmps309 J K1 ?_;intro j h d e;have d:=Hw.mk d;simp only [Qz,Xd];refine Pi (Ym6 (i:=1) J Zr) λc=>go 9 ?_;refine dt (Zth J J J (i:=1) J Zr Oi)<|go 2 ?_;refine Mz J (λb=>?_) (λb=>?_)
 .refine go 7 ?_;obtain rfl:xs=[]:=c (by simpa using b);exact Zp (Qt 9 1 232 Lj)<|Zfk (.inl J) (.slice none 0 0) (λa w hs=>Zcj hs results309 J) J aA J 9 J J J
 .refine go 4 ?_;refine tt (Yh8 2 (enc:=Lj) J J J Oi pU J d.h) λv _=>go 1 ?_;refine tt (Oa 2 1 8 J J J J J J O4 J Zr Oi ti232 J pU J J J O9 O4 J d.h) λf _=>go 4 ?_;exact Zfk (.inl J) _ (λa w hs=>Zcj hs results309 J) J aA J 2 J (by rfl) J
theorem Zya{h l:Nat}(hl:l<U)(hy:y<U)(hh:h<y):Qe prog 294 #[.int .u64 (h:Int),.int .u64 (l:Int),.int .u64 (y:Int)] [] (.tuple #[.int .u64 (((h*U+l)/y:Nat):Int),.int .u64 (((h*U+l)%y:Nat):Int)]):=by
 refine Zg func294 ntmps294 λw0 sc hw a8=>?_;have c0:U=18446744073709551616:=rfl;have hp:0<y:=O1;have c1:bl y<=64:=(Qs 64 y).2 hy;obtain⟨s,hs⟩:∃s,s=64-bl y:=⟨_,rfl⟩;obtain⟨Y,g⟩:∃Y,Y=y*2^s:=⟨_,rfl⟩;obtain⟨b6,S⟩:=Yll hp hy hs;rw [<-g]at b6 S;have V:=S;obtain⟨D,hD⟩:∃D,D=(h*U+l)*2^s:=⟨_,rfl⟩;obtain⟨u,Z⟩:∃u,u=D/U:=⟨_,rfl⟩;obtain⟨v,a0⟩:∃v,v=D%U:=⟨_,rfl⟩;obtain⟨v1,Q⟩:∃x,x=v/4294967296:=⟨_,rfl⟩;obtain⟨v0,P⟩:∃x,x=v%4294967296:=⟨_,rfl⟩;obtain⟨d,b1⟩:∃x,x=Y/4294967296:=⟨_,rfl⟩;obtain⟨N,a9⟩:∃x,x=Y%4294967296:=⟨_,rfl⟩;have e:Y=d*4294967296+N:=O1;have b7:=shl_lt hh (show y*2^s<U by rw [<-g];exact S);have c3:u<Y:=by rw [Z,hD,g];exact top_lt hl hh
 have hu:u<d*4294967296+N:=O1;have c4:v<U:=by rw [a0];exact bI _ Qk
 have b0:2147483648<=d:=O1;have i:d<4294967296:=O1;have f:N<4294967296:=O1;have M:v1<4294967296:=O1;have I:v0<4294967296:=O1;obtain⟨Q1,m⟩:∃x,x=(u*4294967296+v1)/Y:=⟨_,rfl⟩;obtain⟨t,H⟩:∃x,x=(u*4294967296+v1)%Y:=⟨_,rfl⟩;have c2:t<Y:=by rw [H];exact bI _ O1
 have ht:t<d*4294967296+N:=O1;obtain⟨Q0,k⟩:∃x,x=(t*4294967296+v0)/Y:=⟨_,rfl⟩;have R:0<Y:=O1;obtain⟨a6,a7⟩:=dv_two (D:=D) R Z a0 Q P;rw [<-m,<-H,<-k]at a6;rw [<-H]at a7;have b8:Q0<4294967296:=by rw [k,e];exact dv_Q I ht
 have b9:Q1<4294967296:=by rw [m,e];exact dv_Q M hu
 refine go 13<|Ze J (λa1=>?_) (λa1=>?_)
 .exfalso;omega
 .refine go 10<|Ze J (λa2=>?_) (λa2=>?_)
  .exfalso;omega
  .refine go 9<|Ze J (λa3=>?_) (λa3=>?_)
   .refine go 1<|Qb (λ_=>False) [(0,0),(1,0),(2,0),(3,0),(4,0),(5,0),(6,0),(7,3)]<|go 2 ?_;refine Xc J J (Xl (Yh0 J J J))<|go 2 ?_;refine Xc J J (Xl (u_rem J J J O1))<|go 6 ?_;exact Nm a8 () results294 (by have h0:h=0:=O1;rw [h0];simp) aA Za
   .refine go 5 ?_;refine cl 0 [] (Zt6 hy) λ_ _=>?_;refine dt (Ztj J J uT3 Ybd (by simp only [U];omega))<|go 4 ?_;refine Zf (Kn 8 (v':= .int .u64 (s:Int)) J (by rw [hs]))<|go 3 ?_;refine dt (Zo4 J J J J)<|go 4 ?_;refine Zf (Kn 2 (v':= .int .u64 (Y:Int)) J (by rw [g,bJ (by rw [<-g];exact V)]))<|go 2 ?_;refine dt (Fm 4294967296 (n:=32) J J J J J)<|go 6 ?_;refine dt (Zun J J J)<|go 7 ?_;refine dt (Zo4 J J J J)<|go 2 ?_;refine dt (Ze7 J J J (by first|exact bI _ Qk|omega))<|dt (Zo3 J J (n:=64-s) J (by simp only [U];omega))<|dt (Ypt J J J (bI _ Qk) (aV (dS _ _) hl))<|go 4 ?_;refine Zf (Kn 11 (v':= .int .u64 (u:Int)) J (by rw [Z,hD,Yk8 O1 b7 hl]))<|go 3 ?_;refine dt (Zo4 J J J J)<|go 4 ?_;refine Zf (Kn 12 (v':= .int .u64 (v:Int)) J (by rw [a0,hD,Ygn h l s]))<|go 2 ?_;refine dt (Fm 4294967296 (n:=32) J J J J J)<|go 4 ?_;refine Zf (Kn 13 (v':= .int .u64 (v1:Int)) J (by rw [Q]))<|go 2 ?_;refine dt (Zun J J J)<|go 4 ?_;refine Zf (Kn 14 (v':= .int .u64 (v0:Int)) J (by rw [Zyd,P]))<|Zf (Kn 9 (v':= .int .u64 (d:Int)) J (by rw [b1]))<|Zf (Kn 10 (v':= .int .u64 (N:Int)) J (by rw [Zyd,a9]))<|go 3 ?_;refine dt (Yh0 J J J)<|go 8 ?_;refine dt (Bk J J J)<|dt (Ze7 J J J (by first|exact bI _ Qk|omega))<|go 3 ?_;refine jn (G:=Unit) [2,8,9,10,11,13,14] [0] (λ_=>[(15,.int .u64 ((Q1:Nat):Int))]) (λ_=>[]) (λ_=>True) ?_ ?_
    .refine go 1<|Zf (Kn 16 (v':= .int .u64 ((u%d:Nat):Int)) J (by rw [rsub O1 O1])) ?_;refine lp (G:=Nat×Nat) [2,8,9,10,11,13,14] [0] (λq=>[(15,.int .u64 (q.1:Int)),(16,.int .u64 (q.2:Int))]) (λq=>[]) (λq=>(dvI u v1 d N q.1 q.2)/\(q.2<4294967296)) (λq=>q.1) (u/d,u%d) ⟨dv0 b0 i f M hu,jL (bI _ O1) i⟩ K2 aA ?_;rintro⟨a,r⟩ ⟨j,hr⟩;dsimp only at j hr;dsimp only;have b4:=j.1;have b5:=j.2.1;refine go 6<|Xf 69 J (λb2=>?_) (λb2=>?_)
     .refine go 16 ?_;have b:=Zlm O1 j M hu O1;have c:=b.1;refine go 2 ?_;refine dt (Ze7 (n:=1) J J J)<|go 4 ?_;refine Zf (Kn 15 (v':= .int .u64 ((a-1:Nat):Int)) J (Zcb (Zxn c O1)))<|go 3 ?_;refine dt (Am J J J)<|go 4 ?_;refine Zf (Kn 16 (v':= .int .u64 ((r+d:Nat):Int)) J (Zcb (bJ O1)))<|go 5<|Ze J (λa4=>?_) (λa4=>?_)
      .refine go 4 ?_;have z:Q1=a-1:=by rw [m,e];exact(Zhw O1 f b.2 O1 O1).symm
       exact Oc () aA ⟨by rw [z];rfl,aA⟩ aA
      .refine go 2 ?_;exact Yh (a-1,r+d) ⟨b.2,O10⟩ O2 K2 aA
     .have W:=Zwg (show a<4294967296 by omega) f;have e1:=bJ (show a*N<U from W);have e2:=bJ (show 4294967296*r<U by omega);have e3:=bJ (show 4294967296*r+v1<U by omega);refine go 2 ?_;refine Hk (Bk J J J) J J<|go 1 ?_;refine Hk (Bk J J J) J J<|go 1 ?_;refine Hk (Am J J J) J J<|go 4 ?_;refine Ze J (λo=>?_) (λo=>?_)
      .rw [e1,e2,e3]at o;refine go 4 ?_;have b:=Zlm O1 j M hu O1;have c:=b.1;refine go 2 ?_;refine dt (Ze7 (n:=1) J J J)<|go 4 ?_;refine Zf (Kn 15 (v':= .int .u64 ((a-1:Nat):Int)) J (Zcb (Zxn c O1)))<|go 3 ?_;refine dt (Am J J J)<|go 4 ?_;refine Zf (Kn 16 (v':= .int .u64 ((r+d:Nat):Int)) J (Zcb (bJ O1)))<|go 5<|Ze J (λB=>?_) (λB=>?_)
       .refine go 4 ?_;have z:Q1=a-1:=by rw [m,e];exact(Zhw O1 f b.2 O1 O1).symm
        exact Oc () aA ⟨by rw [z];rfl,aA⟩ aA
       .refine go 2 ?_;exact Yh (a-1,r+d) ⟨b.2,O10⟩ O2 K2 aA
      .rw [e1,e2,e3]at o;refine go 4 ?_;have z:Q1=a:=by rw [m,e];exact(Ztd O1 j O1).symm
       exact Oc () aA ⟨by rw [z];rfl,aA⟩ aA
    .rintro _ -;refine go 3 ?_;refine dt (Bk J J J)<|go 1 ?_;refine dt (Am J J J)<|go 2 ?_;refine dt (Bk J J J)<|dt (Ze7 J J J (by first|exact bI _ Qk|omega))<|go 4 ?_;refine Zf (Kn 17 (v':= .int .u64 (t:Int)) J (by rw [H,m,Yd1 R V]))<|go 3 ?_;refine dt (Yh0 J J J)<|go 8 ?_;refine dt (Bk J J J)<|dt (Ze7 J J J (by first|exact bI _ Qk|omega))<|go 3 ?_;refine jn (G:=Unit) [2,8,14,15,17] [0] (λ_=>[(18,.int .u64 ((Q0:Nat):Int))]) (λ_=>[]) (λ_=>True) ?_ ?_
     .refine go 1<|Zf (Kn 16 (v':= .int .u64 ((t%d:Nat):Int)) J (by rw [rsub O1 O1])) ?_;refine lp (G:=Nat×Nat) [2,8,9,10,14,15,17] [0] (λq=>[(18,.int .u64 (q.1:Int)),(16,.int .u64 (q.2:Int))]) (λq=>[]) (λq=>(dvI t v0 d N q.1 q.2)/\(q.2<4294967296)) (λq=>q.1) (t/d,t%d) ⟨dv0 b0 i f I ht,jL (bI _ O1) i⟩ K2 aA ?_;rintro⟨a,r⟩ ⟨j,hr⟩;dsimp only at j hr;dsimp only;have b4:=j.1;have b5:=j.2.1;refine go 6<|Xf 104 J (λb3=>?_) (λb3=>?_)
      .refine go 16 ?_;have b:=Zlm O1 j I ht O1;have c:=b.1;refine go 2 ?_;refine dt (Ze7 (n:=1) J J J)<|go 4 ?_;refine Zf (Kn 18 (v':= .int .u64 ((a-1:Nat):Int)) J (Zcb (Zxn c O1)))<|go 3 ?_;refine dt (Am J J J)<|go 4 ?_;refine Zf (Kn 16 (v':= .int .u64 ((r+d:Nat):Int)) J (Zcb (bJ O1)))<|go 5<|Ze J (λa5=>?_) (λa5=>?_)
       .refine go 4 ?_;have z:Q0=a-1:=by rw [k,e];exact(Zhw O1 f b.2 O1 O1).symm
        exact Oc () aA ⟨by rw [z];rfl,aA⟩ aA
       .refine go 2 ?_;exact Yh (a-1,r+d) ⟨b.2,O10⟩ O2 K2 aA
      .have W:=Zwg (show a<4294967296 by omega) f;have e1:=bJ (show a*N<U from W);have e2:=bJ (show 4294967296*r<U by omega);have e3:=bJ (show 4294967296*r+v0<U by omega);refine go 2 ?_;refine Hk (Bk J J J) J J<|go 1 ?_;refine Hk (Bk J J J) J J<|go 1 ?_;refine Hk (Am J J J) J J<|go 4 ?_;refine Ze J (λp=>?_) (λp=>?_)
       .rw [e1,e2,e3]at p;refine go 4 ?_;have b:=Zlm O1 j I ht O1;have c:=b.1;refine go 2 ?_;refine dt (Ze7 (n:=1) J J J)<|go 4 ?_;refine Zf (Kn 18 (v':= .int .u64 ((a-1:Nat):Int)) J (Zcb (Zxn c O1)))<|go 3 ?_;refine dt (Am J J J)<|go 4 ?_;refine Zf (Kn 16 (v':= .int .u64 ((r+d:Nat):Int)) J (Zcb (bJ O1)))<|go 5<|Ze J (λF=>?_) (λF=>?_)
        .refine go 4 ?_;have z:Q0=a-1:=by rw [k,e];exact(Zhw O1 f b.2 O1 O1).symm
         exact Oc () aA ⟨by rw [z];rfl,aA⟩ aA
        .refine go 2 ?_;exact Yh (a-1,r+d) ⟨b.2,O10⟩ O2 K2 aA
       .rw [e1,e2,e3]at p;refine go 4 ?_;have z:Q0=a:=by rw [k,e];exact(Ztd O1 j O1).symm
        exact Oc () aA ⟨by rw [z];rfl,aA⟩ aA
     .rintro _ -;refine go 3 ?_;refine dt (Bk J J J)<|go 1 ?_;refine dt (Am J J J)<|go 1 ?_;refine dt (Bk J J J)<|go 1 ?_;refine dt (Am J J J)<|go 2 ?_;refine dt (Bk J J J)<|dt (Ze7 J J J (by first|exact bI _ Qk|omega))<|go 1 ?_;refine dt (Zo3 J J J J)<|go 5 ?_;have hA:(Q1*4294967296%U+Q0)%U=(h*U+l)/y:=by rw [<-Zpf _ y s,<-hD,<-g,a6];simp only [U];omega
      have hB:((t*4294967296%U+v0)%U+(U-(Q0*Y)%U))%U/2^s=(h*U+l)%y:=by rw [<-Zpe _ y s,<-hD,<-g,a7,k,Yd1 R V]
      exact Nm a8 () results294 (by rw [hA,hB]) aA Za
theorem Ygk{d:Nat}(s:bl x<=8589934592)(f:0<d)(g:d<U):Cal prog 292 #[v,.int .u64 (d:Int)] [Dm v x] false (G:=Value) (λr=>True) (λr=> .tuple #[r,.int .u64 ((x%d:Nat):Int)]) (λr=>[Dm r (x/d)]):=by
 refine Zg func292 ntmps292 λu t j i=>?_;have p:=Mv x;refine go 10 ?_;refine tt (Hl 2 ((dg U x).length) 8 (enc:=Lj) 0 J J J J Oi ti232 J pU.cells pU.pos J J J j.h) (λv _=>?_);refine go 18 ⟨O1,?_⟩;refine lp (G:=Nat×List Nat×Nat) [0,1,6] [0,1] (λq=>[(8,.int .i64 ((q.1:Int)-1)),(7,.int .u64 (q.2.2:Int))]) (λq=>[(2,Oe 1 232 Lj v q.2.1)]) (λq=>(q.1<=(dg U x).length)/\(q.2.1.length=(dg U x).length)/\(q.2.2<d)/\(∀d∈q.2.1,d<U)/\(Yt U (q.2.1.drop q.1)*d+q.2.2=Yt U ((dg U x).drop q.1))) (λq=>q.1) ((dg U x).length,List.replicate (dg U x).length 0,0) ⟨aF _,O6,O2,Nr Qk,by simp [Yt]⟩ K2 K1 ?_;rintro⟨k,o,r⟩ ⟨l,h,c,a,e⟩;dsimp only at l h c a e;dsimp only;refine go 7<|Ze J (λb=>?_) (λb=>?_)
 .refine go 10 ?_;refine dt (Zv 1 (k-1) J J J J Zr Oi Ii)<|go 2 ⟨O3,?_⟩;refine cl 2 [] (Zya (Qg Qk (Me Qh _) _) g c) λ_ _=>go 3 ?_;refine dt (Zv 2 (k-1) J J J J (Zz pU) Oi Ii)<|tt (Km 2 (enc:=Lj) J J J J J J pU J j.h O4 O3) (λ_ _=>?_);refine go 9 ⟨O1,?_⟩;exact Yh (k-1,_,_) ⟨O2,O9,bI _ f,Kk a _ (Zxe (Qg Qk (Me Qh x) _) c),Zyr f O1 O1 (by rw [show k-1+1=k by omega];exact e)⟩ O2 ⟨by rw [show(((k-1:Nat):Int)-1)=(k:Int)-1-1 by omega];rfl,rfl,aA⟩ K1
 .refine go 8 ?_;refine cl 2 [2] Ot λ_ _=>?_;refine Xg (Zbp 2 J J pU)<|go 6 ?_;obtain rfl:k=0:=O1;rw [gO,gO,Lr Qh]at e;have n:tz o=dg U (x/d):=by rw [<-Ih Qh _ a,<-e,bQ,iB f,cT c,eJ]
  have m:r=x%d:=by rw [<-e,bQ,jB,bJ c]
  exact Nm i _ results292 (by rw [m]) aA (gow 2 Za n)
theorem Zsa{s:Nat}(W:bl x<=4294967296:=by omega)(hs:s<=4294967296:=by omega):Cal prog 293 #[v,.int .i64 (s:Int)] [Dm v x] false (G:=Value) (λr=>True) (λr=>r) (λr=>[Dm r (x*2^s)]):=by
 refine Zg func293 ntmps293 λZ Y I B=>?_;obtain⟨w,S⟩:∃w,w=s/64:=⟨_,rfl⟩;obtain⟨b,Q⟩:∃b,b=s%64:=⟨_,rfl⟩;have V:=Mv x;refine go 13<|Ze J (λm=>?_) (λm=>?_)
 .refine go 7<|Zp (Qt 9 1 232 Lj) ?_;have M:x=0:=(Om Qh x).1 O1;exact Xh B (.slice none 0 0) results293 J aA (gow 9 Za (by rw [M,gU];rfl))
 .refine go 5 ?_;refine dt (Zff J J J O1 O1 O1)<|go 1 ?_;refine dt (Zny J J J O1 O1)<|go 5 ?_;refine Zf (Kn 5 (v':= .int .i64 (w:Int)) J (by congr 1;omega))<|Zf (Kn 6 (v':= .int .i64 (b:Int)) J (by congr 1;omega))<|go 6 ⟨O1,O1,?_⟩;refine tt (Hl 2 ((dg U x).length+w+1) 8 (enc:=Lj) 0 J J J J Oi ti232 J pU.cells pU.pos J J J I.h) λv _=>go 12 ?_;refine lp (G:=Nat×List Nat) [5,6,7,23,24] [0,1] (λq=>[(25,.int .i64 (q.1:Int))]) (λq=>[(2,Oe 1 232 Lj v q.2)]) (λq=>(q.1<=(dg U x).length)/\(q.2.length=(dg U x).length+w+1)/\(q.2.getD (w+q.1) 0<2^b)/\(∀j,w+q.1<j->q.2.getD j 0=0)/\(∀d∈q.2,d<U)/\(Yt U (q.2.take ((dg U x).length+w+1))=Yt U ((dg U x).take q.1)*2^b*U^w)) (λq=>(dg U x).length-q.1) (0,List.replicate ((dg U x).length+w+1) 0) ⟨O2,O6,by rw [Iv];exact dK b,λj _=>Iv _ j,Nr Qk,by rw [mF,Gy];simp [Yt]⟩ K1 K1 ?_;rintro⟨i,o⟩ ⟨hi,z,P,l,a,F⟩;dsimp only at hi z P l a F;dsimp only;have D:i<(dg U x).length->_:=λR=>Yi2 (xs:=dg U x) (show b<=63 by omega) z.symm (show w+i+1<_ by omega) P (l (w+i+1) O1) (Qg Qk (Me Qh x) i) F;refine go 6<|Ze J (λp=>?_) (λp=>?_)
  .refine go 14 ⟨O3,O3,?_⟩;have f:=Qg Qk (Me Qh x) i;refine Qb (λ_=>False) [(0,0),(1,0),(2,0),(3,0),(4,0),(5,0),(6,0),(7,0),(8,0),(9,0),(10,0),(11,3)]<|go 4 ⟨O1,?_⟩;refine Xc J J (Xl (Zv 2 (w+i) J J J J (Zz pU) Oi Ii))<|go 3 ⟨O3,?_⟩;refine Xc J J (Xl (Zo4 J J (n:=b) J J))<|Xc J J (Xl (Ypt J J J (Qg Qk a _) (bI _ Qk)))<|Xc J J (Xl (Zv 2 (w+i) J J J J (Zz pU) Oi Ii))<|r3' J (Km 2 (enc:=Lj) J J J J J J pU J I.h O4 O3) λ_ _=>go 8 ?_;refine Ze J (λt=>?_) (λt=>?_)
   .have c:=Kk (Kk a (w+i) (d:=o.getD (w+i) 0 ||| (dg U x).getD i 0*2^b%U) (jG (n:=64) (Qg Qk a _) (bI _ Qk))) (w+i+1) (d:=(dg U x).getD i 0/2^(64-b)) (aV (dS _ _) f);have g:((o.set (w+i) (o.getD (w+i) 0 ||| (dg U x).getD i 0*2^b%U)).set (w+i+1) ((dg U x).getD i 0/2^(64-b))).getD (w+i+1) 0<2^b:=by rw [Nj O9,aM rfl];exact Zf3 O1 f
    have k:∀j,w+i+1<j->((o.set (w+i) (o.getD (w+i) 0 ||| (dg U x).getD i 0*2^b%U)).set (w+i+1) ((dg U x).getD i 0/2^(64-b))).getD j 0=0:=λj u=>by rw [Nj O9,aK O1,Nj O1,aK O1];exact l j O1
    have e:=D O1;refine go 9 ⟨O1,O1,O1,?_⟩;refine dt (Zo3 J J (n:=64-b) J O1)<|dt (Zv 2 (w+i+1) J J J J (Zz pU) Oi Ii O1 (by simp only [bK];omega))<|tt (Km 2 (enc:=Lj) J J J J J J pU J I.h O4 (by simp only [bK];omega)) (λ_ _=>?_);refine go 7 ⟨O1,?_⟩;exact Yh (i+1,_) ⟨O2,O9,by dsimp only;rw [show w+(i+1)=w+i+1 by omega];exact g,λj u=>by have H:w+(i+1)<j:=u;dsimp only;exact k j O1,c,e⟩ O2 K1 K1
   .obtain rfl:b=0:=O1;have c:=Kk a (w+i) (d:=o.getD (w+i) 0 ||| (dg U x).getD i 0*2^0%U) (jG (n:=64) (Qg Qk a _) (bI _ Qk));have g:(o.set (w+i) (o.getD (w+i) 0 ||| (dg U x).getD i 0*2^0%U)).getD (w+i+1) 0<2^0:=by rw [Nj O1,aK O1,l _ O1];exact dK 0
    have k:∀j,w+i+1<j->(o.set (w+i) (o.getD (w+i) 0 ||| (dg U x).getD i 0*2^0%U)).getD j 0=0:=λj u=>by rw [Nj O1,aK O1];exact l j O1
    have e:=D O1;rw [show(dg U x).getD i 0/2^(64-0)=0 from cT f]at e;have h:=Zot (o.set (w+i) (o.getD (w+i) 0 ||| (dg U x).getD i 0*2^0%U)) (w+i+1) (by rw [Nj O1,aK O1,l _ O1]);rw [h]at e;refine go 7 ⟨O1,?_⟩;exact Yh (i+1,_) ⟨O2,O9,by dsimp only;rw [show w+(i+1)=w+i+1 by omega];exact g,λj u=>by have H:w+(i+1)<j:=u;dsimp only;exact k j O1,c,e⟩ O2 K1 K1
  .refine go 8 ?_;refine cl 2 [2] Ot λ_ _=>?_;refine Xg (Zbp 2 J J pU)<|go 4 ?_;obtain rfl:i=(dg U x).length:=O1;have N:tz o=dg U (x*2^s):=by rw [<-Ih Qh _ a];congr 1;rw [Mu U o _ O1,cE (aF _),Lr Qh,Zd8,eH,<-bW,show b+64*w=s by omega]at F;exact F
   exact Xh B _ results293 J aA (gow 2 Za N)
theorem Yr1{s:Nat}(R:bl x<=8589934592)(hs:s<=8589934592):Cal prog 295 #[v,.int .i64 (s:Int)] [Dm v x] false (G:=Value) (λr=>True) (λr=>r) (λr=>[Dm r (x/2^s)]):=by
 refine Zg func295 ntmps295 λV S F D=>?_;obtain⟨w,m⟩:∃w,w=s/64:=⟨_,rfl⟩;obtain⟨b,k⟩:∃b,b=s%64:=⟨_,rfl⟩;have Q:=Mv x;have N:((dg U x).drop w).length=(dg U x).length-w:=iR;refine go 8 ?_;refine dt (Zff J J J O1 O1 O1)<|go 1 ?_;refine dt (Zny J J J O1 O1)<|go 6 ?_;refine Zf (Kn 5 (v':= .int .i64 (w:Int)) J (by congr 1;omega))<|Zf (Kn 6 (v':= .int .i64 (b:Int)) J (by congr 1;omega))<|go 7<|Ze J (λu=>?_) (λu=>?_)
 .refine go 7<|Zp (Qt 9 1 232 Lj) ?_;have H:x/2^s=0:=by rw [Zbm m k,cT ((Xw Qh w x).1 O1),Nat.zero_div]
  exact Xh D (.slice none 0 0) results295 J aA (gow 9 Za (by rw [H];rfl))
 .refine go 6 ?_;refine dt (d_suf (ii:=1) (i:=w) J J J J Zr Oi Ii O1 O1)<|Xg (s_suf 1 2 w J J O1)<|tt (Zcd 3 (Yhg (by simp only [iR];omega)) J J J K1 call309 (Zm 2 J J J Zn) J F.h) λv _=>go 3 ?_;refine jn (G:=List Nat) [7] [0,1,2] (λo=>[]) (λo=>[(3,Oe 1 232 Lj v o)]) (λo=>(o.length=(dg U x).length-w)/\(∀j,j<o.length->o.getD j 0=x/2^s/U^j%U)) ?_ ?_
  .refine go 6<|Ze J (λz=>?_) (λz=>?_)
   .refine go 8 ?_;refine lp (G:=Nat×List Nat) [0,5,6,7,24] [0,1,2] (λq=>[(25,.int .i64 (q.1:Int))]) (λq=>[(3,Oe 1 232 Lj v q.2)]) (λq=>(q.1<=(dg U x).length-w)/\(q.2.length=(dg U x).length-w)/\(∀j,j<q.1->q.2.getD j 0=x/2^s/U^j%U)/\(∀j,q.1<=j->q.2.getD j 0=x/U^w/U^j%U)/\(∀d∈q.2,d<U)) (λq=>(dg U x).length-w-q.1) (0,(dg U x).drop w) ⟨bE _,O6,λj f=>absurd f (bD j),λj _=>Yd4 x w j,λd M=>Me Qh x d (lQ M)⟩ K1 K1 ?_;rintro⟨i,o⟩ ⟨hi,t,p,l,a⟩;dsimp only at hi t p l a;dsimp only;refine go 6<|Ze J (λB=>?_) (λB=>?_)
    .refine go 17 ⟨O3,O3,?_⟩;refine dt (Zo3 J J (n:=b) J J)<|go 1 ⟨O3,?_⟩;refine tt (Km 3 (enc:=Lj) J J J J J J pU J F.h O4 O3) (λ_ _=>?_);refine go 11 ⟨O1,?_⟩;refine Ze J (λg=>?_) (λg=>?_)
     .simp only [bK]at g;have c:∀j,((o.set i (o.getD i 0/2^b)).set i ((o.set i (o.getD i 0/2^b)).getD i 0 ||| ((dg U x).getD (w+i+1) 0*2^(64-b))%U)).getD j 0=if i=j then x/2^s/U^i%U else o.getD j 0:=λj=>by
       rw [Nj O9,Nj O1,Nj O1];split
       .rw [aM rfl,l i (aF _),Hz Qh,Zbm m k,Zxh,show x/U^(w+i+1)=x/U^w/U^i/U by rw [aQ,aQ,<-cJ,<-bW];rfl,Zu2 _ _ O1]
       .rfl
      have h:=Kk (Kk a i (d:=o.getD i 0/2^b) (aV (dS _ _) (Qg Qk a _))) i (d:=(o.set i (o.getD i 0/2^b)).getD i 0 ||| ((dg U x).getD (w+i+1) 0*2^(64-b))%U) (jG (n:=64) (Qg Qk (Kk a _ (aV (dS _ _) (Qg Qk a _))) _) (bI _ Qk));refine Qb (λ_=>False) [(0,0),(1,0),(2,0),(3,0),(4,0),(5,0),(6,0),(7,0),(8,0),(9,0),(10,0),(11,0),(12,0),(13,0),(14,0),(15,0),(16,3)]<|go 9 ⟨O3,O3,O1,O1,?_⟩;refine Xc J J (Xl (Zv 1 (w+i+1) J J J J Zr Oi Ii O1 O3))<|go 3 ⟨O3,O1,?_⟩;refine Xc J J (Xl (Zo4 J J (n:=64-b) J O1))<|Xc J J (Xl (Ypt J J J (Qg Qk (Kk a _ (aV (dS _ _) (Qg Qk a _))) _) (bI _ Qk)))<|go 1 ⟨O3,?_⟩;refine r3' J (Km 3 (enc:=Lj) J J J J J J pU J F.h O4 O3) (λ_ _=>?_);refine go 7 ⟨O1,?_⟩;exact Yh (i+1,_) ⟨O2,O9,λj f=>by dsimp only;rw [c j];split;(· rename_i e;rw [<-e]);exact p j (by have:j<i+1:=f;omega),λj f=>by dsimp only;rw [c j,aK (by have:i+1<=j:=f;omega)];exact l j (by have:i+1<=j:=f;omega),h⟩ O2 K1 K1
     .have c:∀j,(o.set i (o.getD i 0/2^b)).getD j 0=if i=j then x/2^s/U^i%U else o.getD j 0:=λj=>by
       rw [Nj O1];split
       .rw [l i (aF _),Zbm m k,Zxh,Yfv O1];rw [aQ,<-cJ];exact cT (Ydb (by simp only [bK]at g;omega))
       .rfl
      have h:=Kk a i (d:=o.getD i 0/2^b) (aV (dS _ _) (Qg Qk a _));refine go 7 ⟨O1,?_⟩;exact Yh (i+1,_) ⟨O2,O9,λj f=>by dsimp only;rw [c j];split;(· rename_i e;rw [<-e]);exact p j (by have:j<i+1:=f;omega),λj f=>by dsimp only;rw [c j,aK (by have:i+1<=j:=f;omega)];exact l j (by have:i+1<=j:=f;omega),h⟩ O2 K1 K1
    .refine go 4 ?_;exact Oc _ ⟨O1,by intro j f;rw [p j O1]⟩ aA K1
   .refine go 1 ?_;exact Oc _ ⟨O6,by intro j f;rw [Yd4,Zbm m k,show b=0 by omega,gG,lW]⟩ aA K1
  .rintro o ⟨t,P⟩;refine go 3 ?_;refine cl 3 [3] Ot λ_ _=>?_;refine Xg (Zbp 3 J J pU)<|go 4 ?_;have I:tz o=dg U (x/2^s):=Zyn Qh P (by rw [t,Zbm m k];exact aV (dS _ _) (Ydb O1));exact Xh D _ results295 J aA (gow 3 Za I)
theorem Zp0(t:bl x<=4294967296:=by omega):Qe prog 233 #[v] [Dm v x] (.string (Qp x)):=by
 refine Zg func233 ntmps233 λz u h g=>?_;have s:=Mv x;have p:=Zjc x;have r:=lenU x;have m:(List.replicate (dg 256 x).length (0:Nat)).length=(dg 256 x).length:=aR;refine go 8 ?_;refine cl 1 [1] Zm4 λ_ _=>?_;refine go 1 ⟨O1,?_⟩;refine dt (Zff J J J O1 O1 O1)<|tt (Hl 2 ((dg 256 x).length) 1 (enc:=Zkq) 0 J J J J Zjq ti5 J pB.cells pB.pos J J J h.h) λv _=>go 12 ?_;refine lp (G:=Nat×List Nat) [0,3,12] [0,1] (λq=>[(13,.int .i64 (q.1:Int))]) (λq=>[(2,Oe 1 5 Zkq v q.2)]) (λq=>(q.1<=(dg 256 x).length)/\(q.2.length=(dg 256 x).length)/\(∀j,j<q.1->q.2.getD j 0=x/256^((dg 256 x).length-1-j)%256)) (λq=>(dg 256 x).length-q.1) (0,List.replicate (dg 256 x).length 0) ⟨O2,O6,λj d=>absurd d (bD j)⟩ K1 K1 ?_;rintro⟨i,o⟩ ⟨hi,f,b⟩;dsimp only at hi f b;dsimp only;refine go 6<|Ze J (λc=>?_) (λc=>?_)
 .refine go 20 ⟨O1,O1,?_⟩;refine Zf (Kn 5 (v':= .int .i64 (((dg 256 x).length-1-i:Nat):Int)) J (by congr 1;omega)) ?_;have a:=Ztz x ((dg 256 x).length-1-i);rw [<-Hz Qh]at a;refine go 5 ?_;refine dt (Zff J J J O1 O1 O1)<|dt (Zv 1 (((dg 256 x).length-1-i)/8) J J J J Zr Oi Ii)<|go 2 ⟨O1,?_⟩;refine dt (Zny J J J O1 O1)<|go 1 ⟨O1,?_⟩;refine dt (Zo3 J J (n:=((dg 256 x).length-1-i)%8*8) J O1)<|dt (Zfg J J Zbi uT5)<|go 1 ⟨O3,?_⟩;refine tt (Km 2 (enc:=Zkq) J J J J J J pB J h.h O4 O3) (λ_ _=>?_);refine go 7 ⟨O1,?_⟩;exact Yh (i+1,_) ⟨O2,O9,λj d=>by dsimp only;rw [Nj O1];split;(· rename_i e;rw [<-e];exact a);exact b j O1⟩ O2 K1 K1
 .refine go 8 ?_;refine dt (d_b2s J J (i:=2) J (Zz pB) Zjq uT9 uT5)<|go 4 ?_;have k:Qp x=⟨(o.map UInt8.ofNat).toArray⟩:=by
   have l:o=(dg 256 x).reverse:=by refine Zf1 O9 (λj d=>?_);rw [b j O1,Zst O1,Hz O1]
   rw [l];rfl
  exact Xh g () results233 (by rw [k]) aA Za
theorem Zeb(D:bl x<=4294967296:=by omega):Cal prog 219 #[.string (Qp x)] [] false (G:=Value) (λr=>True) (λr=>r) (λr=>[Dm r x]):=by
 refine Zg func219 ntmps219 λH F b m=>?_;have B:=Mv x;have u:=Zjc x;have z:=lenU x;have p:=Ej x;refine go 10 ⟨O1,?_⟩;refine dt (Zff J J J O1 O1 O1)<|tt (Hl 1 ((dg U x).length) 8 (enc:=Lj) 0 J J J J Oi ti232 J pU.cells pU.pos J J J b.h) λv _=>go 12 ?_;refine lp (G:=Nat×List Nat) [0,3,12] [0] (λq=>[(13,.int .i64 (q.1:Int))]) (λq=>[(1,Oe 1 232 Lj v q.2)]) (λq=>(q.1<=(dg 256 x).length)/\(q.2.length=(dg U x).length)/\(∀w,w<q.2.length->q.2.getD w 0=hi x ((dg 256 x).length-q.1) w)) (λq=>(dg 256 x).length-q.1) (0,List.replicate (dg U x).length 0) ⟨O2,O6,λw b=>by dsimp only at *;rw [aR]at b;rw [Iv,hi_top O1]⟩ K1 K1 ?_;rintro⟨i,o⟩ ⟨l,f,a⟩;dsimp only at l f a;dsimp only;refine go 6<|Ze J (λk=>?_) (λk=>?_)
 .refine go 20 ⟨O1,O1,?_⟩;refine Zf (Kn 5 (v':= .int .i64 (((dg 256 x).length-1-i:Nat):Int)) J (by congr 1;omega)) ?_;have c:=Zoa x i O1;have h:=a (((dg 256 x).length-1-i)/8) O1;have d:o.getD (((dg 256 x).length-1-i)/8) 0<U:=by rw [h];exact bI _ Qk
  have g:∀w,w<o.length->(o.set (((dg 256 x).length-1-i)/8) (o.getD (((dg 256 x).length-1-i)/8) 0 ||| (((Qp x).data.toList.getD i 0).toNat*2^(((dg 256 x).length-1-i)%8*8))%U)).getD w 0=hi x ((dg 256 x).length-(i+1)) w:=λw b=>by
   rw [c,h,show(dg 256 x).length-i=(dg 256 x).length-1-i+1 by omega,Ysi,Nj O1,show(dg 256 x).length-(i+1)=(dg 256 x).length-1-i by omega];split
   .rename_i e;rw [e]
   .rename_i e;rw [a w b,show(dg 256 x).length-i=(dg 256 x).length-1-i+1 by omega];exact Ymk e
  refine Qb (λ_=>False) [(0,0),(1,0),(2,0),(3,0),(4,0),(5,0),(6,0),(7,0),(8,0),(9,0),(10,0),(11,0),(12,0),(13,0),(14,0),(15,3)]<|go 2 ?_;refine Xc J J (Xl (Zff J J J O1 O1 O1))<|Xc J J (Xl (Zv 1 (((dg 256 x).length-1-i)/8) J J J J (Zz pU) Oi Ii))<|go 3 ⟨O3,?_⟩;refine Xc J J (Xl (Zxt J J J uT9 J O1))<|Xc J J (Xl (Ztj J J uT5 Zbi (by have:=(((Qp x).data.toList.getD i 0).toNat_lt);simp only [U];omega)))<|go 1 ?_;refine Xc J J (Xl (Zny J J J O1 O1))<|go 1 ⟨O1,?_⟩;refine Xc J J (Xl (Zo4 J J (n:=((dg 256 x).length-1-i)%8*8) J O1))<|Xc J J (Xl (Ypt J J J d (bI _ Qk)))<|Xc J J (Xl (Zv 1 (((dg 256 x).length-1-i)/8) J J J J (Zz pU) Oi Ii))<|r3' J (Km 1 (enc:=Lj) J J J J J J pU J b.h O4 O3) (λ_ _=>?_);refine go 7 ⟨O1,?_⟩;exact Yh (i+1,_) ⟨O2,O9,λw b=>g w (by simpa using b)⟩ O2 K1 K1
 .refine go 12 ?_;have t:o=dg U x:=Zf1 f (λj s=>by rw [a j s,Hz Qh,hi_ge O1]);exact Xh m _ results219 J aA (gow 1 Za t)
theorem Yc2(hx:bl x<=4000000000)(e0:bl y<=4000000000)(hy:0<y):Cal prog 267 #[v,w] [Dm v x,Dm w y] true (G:=Value×Value) (λr=>True) (λr=> .tuple #[r.1,r.2]) (λr=>[Dm r.1 (x/y),Dm r.2 (x%y)]):=by
 refine Zg func267 ntmps267 λw0 sc p P=>?_;have hX:=Mv x;have hY:=Mv y;refine go 11 ?_;refine cl 2 [1,2] (Zdo O1 O1) λr hr=>go 3<|Ze J (λS=>?_) (λS=>?_)
 .have o:x<y:=hr.1.1 O1;refine go 9<|Zp (Qt 9 1 232 Lj) ?_;exact Nm P (.slice none 0 0,v) results267 J aA (gow 9 (Ph 1 Za (by rw [bJ o])) (by rw [cT o];rfl))
 .have c4:y<=x:=by have:=hr.1;omega
  have d9:=Pz c4;refine go 10<|Ze J (λV=>?_) (λV=>?_)
  .have Q:y<U:=by have:=(Xw Qh 1 y).1 O1;simpa using this
   have m:(dg U y).getD 0 0=y:=by rw [Hz Qh];simp [bJ Q]
   refine go 6 ⟨O1,O3,?_⟩;refine cl 3 [1] (Ygk O1 (by rw [m];exact hy) (by rw [m];exact Q)) λv _=>go 11 ?_;refine tt (Xx [(0,_)] 4 (enc:=Lj) [x%(dg U y).getD 0 0] J J K2 Oi ti232 J J J J J pU.cells J J p.h) λe2 _=>cl 4 [4] Ot λ_ _=>?_;refine Xg (Zbp 4 J J pU)<|go 6 ?_;exact Nm P (_,_) results267 J aA (Ph 3 (gow 4 Za (by rw [Zin (jL (bI _ (by rw [m];exact hy)) (by rw [m];exact Q)),m])) (by rw [m]<;>rfl))
  .refine go 3 ?_;obtain⟨k,hk⟩:∃k,k=(dg U y).length:=⟨_,rfl⟩;have d8:k<=(dg U x).length:=O1;obtain⟨b,hb⟩:∃b,b=64-bl ((dg U y).getD (k-1) 0):=⟨_,rfl⟩;obtain⟨b2,_,b1,a2,a9,B⟩:=Yry hy hk hb;obtain⟨D,c⟩:∃D,D=y*2^b:=⟨_,rfl⟩;have c5:(dg U D).length=k:=by rw [c];exact b2
   have a1:D<U^k:=by rw [c];exact a2
   have a0:U^(k-1)*9223372036854775808<=D:=by rw [c];exact B
   have l:0<D:=by rw [c];exact iK hy (dK b)
   have d7:bl D<=4000000064:=by rw [c,Ya1 hy];omega
   refine go 5 ⟨O1,?_⟩;refine dt (Zv 2 ((dg U y).length-1) J J J J Zr Oi Ii)<|go 1 ⟨O3,?_⟩;refine cl 4 [] (Zt6 (Qg Qk (Me Qh y) _)) λ_ _=>?_;refine Xg (Kn 44 (v':= .int .i64 (b:Int)) J (by rw [hb,hk]))<|go 3 ?_;refine jn (G:=Value×Value) [0,8] [0,1,2] (λq=>[(9,q.1),(10,q.2)]) (λq=>[(81,Dm q.1 D),(82,Oe 1 232 Lj q.2 (List.replicate ((dg U x).length+1) 0))]) (λq=>True) ?_ ?_
   .refine Lo (λ_=>False) [8]<|Zj 4 [(0,0),(1,0),(3,0),(4,0),(5,0)]<|go 6 ⟨O1,?_⟩;refine Qq 3 2 6 ?_ ?_
    .refine Px (Zl 81 [2] Zsa) λe3 _=>?_;refine Zj 0 [(7,0),(6,1),(8,3)]<|go 1 ?_;refine Kp J (Hl 82 ((dg U x).length+1) 8 (enc:=Lj) 0 J J J J Oi ti232 J pU.cells pU.pos J J J p.h) λe4 _=>go 2 ?_;exact Zo<|Oc (_,_) aA K2 ⟨by rw [c];rfl,rfl,aA⟩
    .refine Lq J J (Hl 82 ((dg U x).length+1) 8 (enc:=Lj) 0 J J J J Oi ti232 J pU.cells pU.pos J J J p.h) (λe5 _=>?_);refine Zj 0 [(2,1),(7,0),(8,3)]<|Yn (Zl 81 [2] Zsa) λe6 _=>go 3 ?_;exact Zo<|Oc (_,_) aA K2 ⟨by rw [c];rfl,rfl,aA⟩
   .rintro⟨vd,vr⟩ -;dsimp only;refine go 1 ?_;have c7:(dg U (x*2^b)).length<=(dg U x).length+1:=(Xw Qh _ _).2 (by rw [cJ];exact iN ((Xw Qh _ x).1 (aF _)) (by rw [Ypc];exact cY O1 O1) Qk);refine go 4 ?_;refine cl 5 [1] Zsa λe7 _=>?_;refine tt (t_cpy 82 5 0 J J J J J J O4 J Zr Ynh (by rw [aR];exact c7) (by rw [aR];omega) (by rw [aR];omega) Oi pU J p.h) λ_ _=>go 3 ?_;have a4:(spl (List.replicate ((dg U x).length+1) 0) 0 (dg U (x*2^b))).length=(dg U x).length+1:=by rw [He _ _ _ (by rw [aR];omega),aR]
    refine go 7 ?_;have d2:(List.replicate ((dg U x).length+1-k) (0:Nat)).length=(dg U x).length+1-k:=aR;refine Zf (Kn 11 (v':= .int .i64 (k:Int)) J (by rw [c5]))<|go 5 ⟨O1,?_⟩;refine tt (Hl 6 ((dg U x).length+1-k) 8 (enc:=Lj) 0 J J J J Oi ti232 J pU.cells pU.pos J J J p.h) (λd1 _=>?_);refine go 13 ⟨O1,?_⟩;refine lp (G:=Nat×List Nat×List Nat) [8,9,10,11,12] [0,81,1,2,5] (λq=>[(13,.int .i64 ((q.1:Int)-1))]) (λq=>[(82,Oe 1 232 Lj vr q.2.1),(6,Oe 1 232 Lj d1 q.2.2)]) (λq=>(q.1<=(dg U x).length+1-k)/\(q.2.1.length=(dg U x).length+1)/\(∀d∈q.2.1,d<U)/\(q.2.2.length=(dg U x).length+1-k)/\(∀d∈q.2.2,d<U)/\(Yt U q.2.1<D*U^q.1)/\(Yt U (q.2.2.drop q.1)*U^q.1*D+Yt U q.2.1=x*2^b)) (λq=>q.1) ((dg U x).length+1-k,spl (List.replicate ((dg U x).length+1) 0) 0 (dg U (x*2^b)),List.replicate ((dg U x).length+1-k) 0) ⟨aF _,a4,Zua (Nr Qk) (Me Qh _) 0,O6,Nr Qk,by rw [Zul,Lr Qh];exact Ynl ((Xw Qh _ x).1 (aF _)) a9 b1 O1 a0,by rw [Zul,Lr Qh];simp [Yt]⟩ ⟨by rw [aR];rfl,aA⟩ K2 ?_;rintro⟨a,R,q⟩ ⟨hj,a5,e,c8,M,H,hN⟩;dsimp only at hj a5 e c8 M H hN;dsimp only;refine go 7<|Ze J (λW=>?_) (λW=>?_)
    .refine go 5 ?_;have I:Yt U R<U^(a-1+k+1):=by refine dX H ?_;rw [show a-1+k+1=k+a by omega,bW];exact aJ _ (dH a1)
     have s:tz ((R.drop (a-1)).take (a-1+k+1-(a-1)))=dg U (Yt U R/U^(a-1)):=Ypm e O1 (by rw [show a-1+(a-1+k+1-(a-1))=a-1+k+1 by omega];exact I);have a7:Yt U R/U^(a-1)<D*U:=by rw [bP (cD Qk),eH,<-mH,show(a-1).succ=a by omega];exact H
     have a8:bl (Yt U R/U^(a-1))<=4294967296:=by have h1:=Pz (dH a7);have h2:=Zof D U;have h3:bl U<=65:=(Qs 65 U).2 (by simp [U]);omega
     have b5:=Ypz e (j:=a-1) b1 I O1;have b7:(dg U D).getD (k-1) 0*U^(k-1)<=D:=by rw [Hz Qh];exact aB (aJ _ (Nat.mod_le _ _)) (mD _ _)
     have c0:Yt U R/U^(a-1)/D<=18446744073709551615:=by have:=(bP l).2 (show _<U*D by rw [bQ];exact a7);simp only [U]at this ⊢;omega
     refine go 4 ?_;refine jn (G:=Nat) [8,9,10,11,12,13] [0,82,6,81,1,2,5] (λg=>[(14,.int .u64 (g:Int))]) (λg=>[]) (λg=>(Yt U R/U^(a-1)/D<=g)/\(g<U)) ?_ ?_
     .refine go 1<|Qb (λ_=>False) [(0,0),(1,0),(2,0),(3,0),(4,0),(5,0),(6,0),(7,0),(8,0),(9,0),(10,0),(11,0)]<|go 4 ⟨O1,?_⟩;refine Xc J J (Xl (Zv 82 (a-1+k) J J J J (Zz pU) Oi Ii))<|go 4 ⟨O3,O1,?_⟩;refine Xc J J (Xl (Zv 81 (k-1) J J J J Zr Oi Ii))<|go 4 ⟨O3,?_⟩;refine Ze J (λY=>?_) (λY=>?_)
      .refine Qb (λ_=>False) [(0,0),(1,0),(2,0),(3,0),(4,0),(5,0),(6,0),(7,0),(8,0),(9,0),(10,0),(11,0),(12,0),(13,0),(14,0),(15,0),(16,0),(17,0),(18,1),(19,0),(20,0),(21,0),(22,0)]<|go 4 ⟨O1,?_⟩;refine Xc J J (Xl (Zv 82 (a-1+k) J J J J (Zz pU) Oi Ii))<|go 6 ⟨O3,O1,O1,?_⟩;refine Xc J J (Xl (Zv 82 (a-1+k-1) J J J J (Zz pU) Oi Ii))<|go 4 ⟨O3,O1,?_⟩;refine Xc J J (Xl (Zv 81 (k-1) J J J J Zr Oi Ii))<|go 1 ⟨O3,?_⟩;refine Yn (Zl 6 [] (Zya (Qg Qk e _) (Qg Qk (Me Qh _) _) O1)) λ_ _=>go 5 ?_;exact Oc _ ⟨Ymm b7 O1 b5,Zxe (Qg Qk e _) O1⟩ K1 aA
      .refine go 1 ?_;exact Oc 18446744073709551615 ⟨c0,O4⟩ K1 aA
     .rintro g ⟨hg,f⟩;refine go 8 ⟨O1,O1,?_⟩;refine dt (d_mid (ii:=82) (i:=a-1) (j:=a-1+k+1) J J J J J (Zz pU) Oi Ii O1 O1 O1 O1)<|go 7 ?_;refine tt (Xx [(0,_)] 7 (enc:=Lj) [g] J J K2 Oi ti232 J J J J J pU.cells J J p.h) λe8 _=>cl 7 [7] Ot λ_ _=>?_;refine Xg (Zbp 7 J J pU)<|Xg (Ze8 7 (Zin f) J J)<|cl 83 [81,7] (Yc1 O1 (aB ((Qs 64 g).2 f) O1)) λd3 _=>go 5 ?_;refine lp (G:=Nat×Value) [8,9,10,11,12,13,15] [0,82,6,81,1,2,5,7] (λq=>[(14,.int .u64 (q.1:Int)),(16,q.2)]) (λq=>[(83,Dm q.2 (D*q.1))]) (λq=>(Yt U R/U^(a-1)/D<=q.1)/\(q.1<U)) (λq=>q.1) (g,_) ⟨O2,O2⟩ ⟨J,J,aA⟩ ⟨J,aA⟩ ?_;rintro⟨g,vp⟩ ⟨hg,f⟩;dsimp only at hg f;dsimp only;have a3:bl (D*g)<=4294967296:=by have h1:=Zof D g;have h2:=(Qs 64 g).2 f;omega
      refine go 4 ?_;refine tt (Xe 7 Ot J J J K1 call183 (Zem 82 J J pU (Zk5 (a-1) (a-1+k+1)) Zlt Zn) J p.h) λ_ _=>go 1 ?_;refine tt (Xe 7 (Zdo a8 a3) J J J K2 call223 (Zem 82 J J pU (Yju s (by rw [s]) (Zk5 (a-1) (a-1+k+1))) (by rw [Fb];exact(Zlt)) (Zm 83 J J J Zn)) J p.h) λe1 t=>go 3 ?_;refine Ze J (λZ=>?_) (λZ=>?_)
      .have o:Yt U R/U^(a-1)<D*g:=t.1.1 O1;have b0:1<=g:=by rcases aU g with h|h;(rw [h,gW]at o;exact absurd o (bD _));exact h
       have b6:D<=D*g:=dJ _ b0;have c1:Yt U R/U^(a-1)/D<=g-1:=by have:=(bP l).2 (show _<g*D by rw [bQ];exact o);omega
       refine go 6 ?_;refine dt (Ze7 (n:=1) J J J)<|go 3 ?_;refine Zf (Kn 14 (v':= .int .u64 ((g-1:Nat):Int)) J (Zcb (Zxn b0 f)))<|go 3 ?_;refine cl 8 [83,81] (Zhg a3 b6) λd4 _=>go 3<|Zp (Xs 8 83 J J J) ?_;exact Yh (g-1,_) ⟨c1,O10⟩ O2 K2 ⟨by rw [Nat.mul_sub_one];rfl,aA⟩
      .refine go 6 ?_;have hQ:g=Yt U R/U^(a-1)/D:=by have h1:=t.1;have h2:D*g<=Yt U R/U^(a-1):=O1;exact jT ((jM l).2 (by rw [bQ];exact h2)) hg
       refine go 2 ?_;refine tt (Xe 8 Ot J J J K1 call183 (Zem 82 J J pU (Zk5 (a-1) (a-1+k+1)) Zlt Zn) J p.h) λ_ _=>go 1 ?_;refine tt (Xe 9 (Zhg a8) J J J K2 call224 (Zem 82 J J pU (Yju s (by rw [s]) (Zk5 (a-1) (a-1+k+1))) (by rw [Fb];exact(Zlt)) (Zm 83 J J J Zn)) J p.h) λd5 _=>go 4 ?_;have b3:(dg U (Yt U R/U^(a-1)-D*g)).length<=a-1+k+1-(a-1):=by
        have:Yt U R/U^(a-1)-D*g<D:=by rw [hQ];have h3:=cP (Yt U R/U^(a-1)) D;have h4:=bI (Yt U R/U^(a-1)) l;omega
        have:=(Xw Qh k _).2 (jL this a1);omega
       refine go 2 ?_;refine tt (t_clr (zv:= .bool false) (i:=82) (z:=0) (a-1) J J J J O4 (Yd2 O1) O1 O1 Oi pU (λw=>zeroValue232 w) J J p.h) λ_ _=>go 6 ?_;refine tt (t_cpy 82 9 (a-1) J J J J J J O4 J Zr (Yd2 (by rw [He _ _ _ (by rw [aR];omega)];omega)) b3 (by rw [He _ _ _ (by rw [aR];omega)];omega) (by rw [He _ _ _ (by rw [aR];omega)];omega) Oi pU J p.h) λ_ _=>go 2 ?_;have b8:a-1+(List.replicate (a-1+k+1-(a-1)) 0).length<=R.length:=by rw [aR];omega
       have c6:=He R (a-1) _ b8;have b9:a-1+(dg U (Yt U R/U^(a-1)-D*g)).length<=(spl R (a-1) (List.replicate (a-1+k+1-(a-1)) 0)).length:=O1;have u:=Yps e (j:=a-1) (n:=a-1+k+1-(a-1)) O1 (by rw [show a-1+(a-1+k+1-(a-1))=a-1+k+1 by omega];exact I) b3;rw [Lr Qh]at u;have b4:=Ynj (j:=a-1) (N:=x*2^b) (Vq:=Yt U (q.drop a)) l hQ (by rw [show a-1+1=a by omega];exact hN);have a6:=b4.1;have F:=b4.2;rw [<-u]at a6 F;have c3:Yt U ((q.set (a-1) g).drop (a-1))=g+U*Yt U (q.drop a):=by rw [drop_set O1,show a-1+1=a by omega];rfl
       rw [<-c3]at F;refine go 4 ?_;refine dt (Zv 6 (a-1) J J J J (Zz pU) Oi Ii)<|tt (Km 6 (enc:=Lj) J J J J J J pU J p.h O4 O3) (λ_ _=>?_);refine go 8 ⟨O1,?_⟩;exact Yh (a-1,_,_) ⟨O2,(He _ _ _ b9).trans (c6.trans a5),Zua (Zua e (Nr Qk) _) (Me Qh _) _,O9,Kk M _ f,a6,F⟩ O2 ⟨by rw [show(((a-1:Nat):Int)-1)=(a:Int)-1-1 by omega];rfl,aA⟩ K2
    .refine go 6 ?_;obtain rfl:a=0:=O1;rw [gG,kN]at H;have c2:bl (Yt U R)<=8589934592:=by have:=Pz (dH H);omega
     refine go 2 ?_;refine cl 9 [6] Ot λ_ _=>?_;refine Xg (Zbp 6 J J pU)<|go 1 ?_;refine cl 9 [82] Ot λ_ _=>?_;refine Xg (Zbp 82 J J pU)<|Xg (Ze8 82 (Ih Qh R e).symm J J)<|go 1 ?_;refine cl 10 [82] (Yr1 c2 O1) λd6 _=>go 5 ?_;rw [gO,gG,kN]at hN;have c9:tz q=dg U (x/y):=by rw [<-Ih Qh _ M,<-Zpf x y b,<-c,<-hN,bQ,iB l,cT H,eJ]
     have d0:Yt U R/2^b=x%y:=by rw [<-Zpe x y b,<-c,<-hN,bQ,jB,bJ H]
     exact Nm P (_,_) results267 J aA (gow 6 (Ph 10 Za (by rw [d0])) c9)
theorem Zsb(l:bl x<=4000000000:=by omega)(m:bl y<=4000000000:=by omega):Cal prog 217 #[v,w] [Dm v x,Dm w y] true (G:=Value) (λr=>True) (λr=>r) (λr=>[Dm r (Nat.gcd x y)]):=by
 refine Zg func217 ntmps217 λz s p j=>?_;have n:=Mv x;have o:=Mv y;refine go 7<|Zf (Xs 1 91 J J J)<|Zf (Xs 2 92 J J J) ?_;refine lp (G:=Value×Value×Nat×Nat) [] [0,1,2] (λq=>[(0,q.1),(1,q.2.1)]) (λq=>[(91,Dm q.1 q.2.2.1),(92,Dm q.2.1 q.2.2.2)]) (λq=>(Nat.gcd q.2.2.1 q.2.2.2=Nat.gcd x y)/\(bl q.2.2.1<=4000000000)/\(bl q.2.2.2<=4000000000)) (λq=>q.2.2.2) (v,w,x,y) ⟨J,l,m⟩ K2 K2 ?_;rintro⟨t,u,a,b⟩ ⟨i,k,f⟩;dsimp only at i k f;dsimp only;refine go 8<|Ze J (λd=>?_) (λd=>?_)
 .have c:0<b:=by rcases aU b with h|h;(subst h;simp [Gu]at d);exact h
  refine go 7 ?_;refine cl 3 [91,92] (Yc2 k f c) λg _=>go 14 ?_;have e:a%b<b:=bI _ c;exact Zp (Xs 92 91 J J J)<|Zp (Xs 4 92 J J J)<|Yh (_,_,b,a%b) ⟨by dsimp only;rw [<-i,kX b,<-Nat.gcd_rec,kX],f,aB (Pz (dH e)) f⟩ e K2 K2
 .have c:b=0:=(Om Qh b).1 O1;refine go 12 ?_;exact Xh j _ results217 J aA (Ph 91 Za (by rw [<-i,c,mQ]))
end Go.Sky

