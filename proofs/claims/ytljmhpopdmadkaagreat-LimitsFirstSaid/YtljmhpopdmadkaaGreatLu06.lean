/- Rules, arithmetic and contracts: part 7. No conditions but those that each theorem names. -/
import Derived.Test.YtljmhpopdmadkaaGreatLu05
set_option linter.all false
namespace Go.Sky
theorem Sqn.mem{P:R2→R2→Prop}{hi:Rat} : ∀{lo:Rat} {l:List (R2×R2)},Sqn P hi lo l→∀c∈l,P c.1 c.2
 | _,[],_,c,hc=>by cases hc
 | lo,d :: r,h,c,hc=>by
  rcases List.mem_cons.1 hc with rfl | hc
  ·exact h.2.2.1
  ·exact Sqn.mem h.2.2.2 c hc
theorem en_bl{K Q d B:Nat}{z:R2}(h:En K Q d z)(hQ:0<Q)(h1:Q*2^d<2^B)(h2:K*(Q*2^d)<2^B):bl z.1.natAbs≤B∧bl z.2.natAbs≤B:=by
 obtain⟨hp,hd,hl,hu⟩:=h
 have hpos:0<Q*2^d:=Nat.mul_pos hQ (Nat.pow_pos O3)
 have hz2:z.2.natAbs≤Q*2^d:=by
  have:=Int.natAbs_dvd_natAbs.2 hd
  rw [Int.natAbs_natCast]at this
  exact Nat.le_of_dvd hpos this
 have hz1:z.1.natAbs≤K*z.2.natAbs:=by
  have r:=Iq hp
  have e:(z.1:Rat)=qv z*z.2:=by unfold qv;grind
  have t1:=Rat.mul_nonneg (a:=(K:Rat)-qv z) (b:=(z.2:Rat)) O4 O4
  have t2:=Rat.mul_nonneg (a:=(K:Rat)+qv z) (b:=(z.2:Rat)) O4 O4
  have hn:((K*z.2.natAbs:Nat):Int)=(K:Int)*z.2:=by push_cast;rw [Int.natAbs_of_nonneg O]
  have u1:((z.1:Int):Rat)≤(((K:Int)*z.2:Int):Rat):=by push_cast;grind
  have u2:((-((K:Int)*z.2):Int):Rat)≤((z.1:Int):Rat):=by push_cast;grind
  have v1:z.1≤(K:Int)*z.2:=by exact_mod_cast u1
  have v2:-((K:Int)*z.2)≤z.1:=by exact_mod_cast u2
  omega
 have hz3:K*z.2.natAbs≤K*(Q*2^d):=Nat.mul_le_mul_left _ hz2
 exact⟨Zcb O,Zcb O⟩
theorem Yef{n e w Q B:Nat}{z:R2}(h:En (2^n) Q (e+w) z)(hQ:0<Q)(hQ1:Q<2^(2*n))(hB:3*n+1+(e+w)≤B):bl z.1.natAbs≤B∧bl z.2.natAbs≤B:=by
 have hpow:∀m,m≤B→2^m≤2^B:=fun m h=>Nat.pow_le_pow_right O3 h
 have hPP:0<2^(e+w):=Nat.pow_pos O3
 have h1:Q*2^(e+w)<2^(2*n)*2^(e+w):=Nat.mul_lt_mul_of_pos_right hQ1 hPP
 have h2:2^n*(Q*2^(e+w))<2^n*(2^(2*n)*2^(e+w)):=Nat.mul_lt_mul_of_pos_left h1 (Nat.pow_pos O3)
 have e1:2^(2*n)*2^(e+w)=2^(2*n+(e+w)):=(Nat.pow_add _ _ _).symm
 have e2:2^n*(2^(2*n)*2^(e+w))=2^(n+(2*n+(e+w))):=by rw [e1,←Nat.pow_add]
 rw [e1]at h1
 rw [e2]at h2
 exact en_bl h hQ (Nat.lt_of_lt_of_le h1 (hpow _ O)) (Nat.lt_of_lt_of_le h2 (hpow _ O))
theorem Ed.const{g a:List Int}(h:Ed g a)(hg:Tr g)(ha:Tr a)(h0:a≠[])(hl:g.length=a.length):∃k c:Int,k≠0∧c≠0∧∀x:Rat,(k:Rat)*Zf a x=(c:Rat)*Zf g x:=by
 obtain⟨k,s,hk,h⟩:=h
 obtain⟨a1,a2,a3⟩:=Zt5 hk hg ha h0 h
 have hl1:=List.length_pos_iff.2 a2
 match hs:tzl s,hl1,a3 with
 | [c],_,_=>
  have hc:c≠0:=by have:=(Po s).mem a2;rw [hs]at this;exact this
  refine⟨k,c,hk,hc,fun x=>?_⟩
  rw [h x,←Mf s,hs,Ps]
 | c :: d :: r,_,h9=>simp at h9;omega
theorem Zja(p:List Int)(c:Int)(x:Rat):Zf (Zv p c) x=(c:Rat)*Zf p x:=by
 rw [←Zm];exact Mg x _ _ fun i=>by rw [Yk,Qj,Int.mul_comm]
theorem Zl8{p:List Int}{c:Int}(hp:Tr p)(h0:p≠[])(hc:c≠0):Zv p c≠[]:=fun e=>by
 have h1:=Yk p c (p.length-1)
 rw [e,Za2]at h1
 exact Int.mul_ne_zero (hp.mem h0) hc h1.symm
theorem Ed.dv{g a:List Int}(h:Ed g a):Dv g a:=by
 obtain⟨k,s,hk,h⟩:=h
 refine⟨k,s,hk,fun t=>?_⟩
 have:=Nw (p:=a.map fun c=>k*c) (q:=Xr s g) (fun x=>by rw [Zm,Yb];exact h x) t
 rw [Qj,Kt]at this
 exact this
theorem ed_cop{t u w s:List Int}{k:Int}(hk:k≠0)(ht:Tr t)(hw:Tr w)(t0:t≠[])(hc:∀d,Tr d→Ed d t→Ed d w→d.length≤1)(h:∀x:Rat,(k:Rat)*(Zf u x*Zf w x)=Zf s x*Zf t x):Ed t u:=by
 obtain⟨g,A,B,hg,g1,g2,hb⟩:=Zkz w.length t w ht hw (Nat.le_refl _)
 have hl:=hc g hg g1 g2
 have hgn:=(g1.len hg ht t0).1
 match hgg:g,hl,hgn with
 | [c],_,_=>
  have hc0:c≠0:=by have:=hg.mem O5;exact this
  refine⟨k*c,Mu ((Xr A u).map fun a=>k*a) (Xr B s),Int.mul_ne_zero hk hc0,fun x=>?_⟩
  rw [Xh,Zm,Yb,Yb]
  have h1:=hb x
  rw [Ps]at h1
  have h2:=h x
  push_cast
  rw [show(k:Rat)*c*Zf u x=k*(Zf u x*(c:Rat)) by grind,h1]
  have h3:(k:Rat)*(Zf u x*(Zf A x*Zf t x+Zf B x*Zf w x))=k*Zf A x*Zf u x*Zf t x+Zf B x*(k*(Zf u x*Zf w x)):=O4
  rw [h3,h2];grind
 | c :: d :: r,h9,_=>simp at h9
def Pt(F:Nat)(p:List Int):List Int:=Ou F (Yo p) (Yj (Yo p))
def Gr(F:Nat)(p:List Int):Prop:=eok F (gA (Yo p) (Yj (Yo p))) (gB (Yo p) (Yj (Yo p)))
theorem Qx{F:Nat}{p:List Int}(hp:Tr p)(h0:p≠[])(hok:Gr F p):Tr (Pt F p)∧Pt F p≠[]∧Yo (Pt F p)=Pt F p∧Yo p=Xr (sqf F p) (Pt F p)∧(sqf F p).length+(Pt F p).length=p.length+1:=by
 obtain⟨f1,f2,f3,f4,f5,f6⟩:=Og (F:=F) hp h0 hok
 have ht:Tr (Yo p):=On (Yi hp)
 have hd:Tr (Yj (Yo p)):=Oh ht
 have hg:=Zch (F:=F) ht hd
 have hl:=Pn f2 hg f3 f5
 rw [←f4,Pd hp]at hl
 have l1:=List.length_pos_iff.2 f3
 have l2:=List.length_pos_iff.2 f5
 refine⟨hg,f5,Ztm hg (Zjn ht hd f5) (Cq (Zkl F (Zg1 ht hd) (Zg0 ht hd)) (fun e=>f5 (by unfold Ou;rw [e];rfl))),f4,?_⟩
 unfold Pt;omega
theorem Ygo{a b h:List Int}(hh:Tr h)(h0:h≠[]){k m:Int}(e:∀x:Rat,(k:Rat)*(Zf a x*Zf h x)=(m:Rat)*(Zf b x*Zf h x))(x:Rat):(k:Rat)*Zf a x=(m:Rat)*Zf b x:=by
 have hz:=Gm (v:=h) (f:=Mu (a.map fun c=>k*c) (b.map fun c=>(-m)*c)) (by rw [Zac hh];exact h0) (fun x=>by
  rw [Xh,Zm,Zm];have:=e x;push_cast;grind) x
 rw [Xh,Zm,Zm]at hz
 push_cast at hz;grind
theorem Zv3{F:Nat}{p:List Int}(hp:Tr p)(h0:p≠[])(hok:Gr F p)(hok2:Gr F (Pt F p)):Ed (sqf F (Pt F p)) (sqf F p):=by
 obtain⟨a1,a2,a3,a4,a5⟩:=Qx hp h0 hok
 obtain⟨b1,b2,b3,b4,b5⟩:=Qx a1 a2 hok2
 obtain⟨-,u2,u3,-,-,-⟩:=Og (F:=F) hp h0 hok
 obtain⟨-,t2,t3,-,-,-⟩:=Og (F:=F) a1 a2 hok2
 have ht:Tr (Yo p):=On (Yi hp)
 have e1:Ed (Pt F p) (Yj (Yo p)):=(Zcv ht (Oh ht) hok).2.ed
 have e2:Ed (Pt F (Pt F p)) (Yj (Pt F p)):=by
  have:=(Zcv (F:=F) (p:=Yo (Pt F p)) (q:=Yj (Yo (Pt F p))) (by rw [a3];exact a1) (Oh (by rw [a3];exact a1)) hok2).2.ed
  have h9:Pt F (Pt F p)=Ou F (Yo (Pt F p)) (Yj (Yo (Pt F p))):=rfl
  rw [←h9,a3]at this
  exact this
 have hgr:∀d,Tr d→Ed d (Pt F p)→Ed d (Yj (Pt F p))→Ed d (Pt F (Pt F p)):=fun d hd h1 h2=>by
  unfold Pt at *
  have:=Zjl (F:=F) (d:=d) (p:=Yo (Ou F (Yo p) (Yj (Yo p)))) (q:=Yj (Yo (Ou F (Yo p) (Yj (Yo p))))) (by rw [a3];exact a1) (Oh (by rw [a3];exact a1)) (by rw [a3];exact h1) (by rw [a3];exact h2)
  exact this
 rw [a3]at b4
 generalize hg:Pt F p=g at *
 generalize hh:Pt F g=h at *
 generalize hu:sqf F p=u at *
 generalize htt:sqf F g=t at *
 obtain⟨k,s,hk,hks⟩:=e1
 obtain⟨m,w,hm,hmw⟩:=e2
 have hP:∀x:Rat,Zf (Yo p) x=Zf (Pa u g) x:=fun x=>by rw [a4,Yb,Zu]
 have hG:∀x:Rat,Zf g x=Zf (Pa t h) x:=fun x=>by
  have:Zf g x=Zf (Xr t h) x:=by rw [←b4]
  rw [this,Yb,Zu]
 have hd1:∀x:Rat,Zf (Yj (Yo p)) x=Zf (ld u) x*Zf g x+Zf u x*Zf (ld g) x:=fun x=>by rw [Lp,Ec hP,Dj]
 have hd2:∀x:Rat,(m:Rat)*Zf (ld g) x=Zf w x*Zf h x:=fun x=>by rw [←Lp];exact hmw x
 have key:∀x:Rat,(k:Rat)*(Zf (Xr u w) x*Zf h x)=(m:Rat)*(Zf (Xr (Mu s ((ld u).map fun c=>(-k)*c)) t) x*Zf h x):=fun x=>by
  rw [Yb,Yb,Xh,Zm]
  have h1:=hks x;have h2:=hd1 x;have h3:=hd2 x;have h4:=hG x
  rw [Zu]at h4
  rw [h2]at h1
  have:(k:Rat)*(Zf u x*Zf w x*Zf h x)=Zf u x*k*(Zf w x*Zf h x):=O4
  rw [this,←h3]
  push_cast
  have:Zf u x*(k:Rat)*(m*Zf (ld g) x)=m*(k*(Zf (ld u) x*Zf g x+Zf u x*Zf (ld g) x)-k*Zf (ld u) x*Zf g x):=O4
  rw [this,h1,h4];grind
 have key2:=Ygo b1 b2 key
 refine ed_cop (s:=(Xr (Mu s ((ld u).map fun c=>(-k)*c)) [m])) hk t2 (w:=tzl w) (Po w) t3 (fun d hd h1 h2=>?_) (fun x=>?_)
 ·have h2':Ed d w:=h2.congr fun x=>Mf w x
  have hdh:Ed (Xr d h) h:=hgr _ (Qd _ _) (by
   obtain⟨k1,s1,hk1,e1⟩:=h1
   exact⟨k1,s1,hk1,fun x=>by rw [hG x,Zu,Yb];have:=e1 x;grind⟩) (by
   obtain⟨k1,s1,hk1,e1⟩:=h2'
   exact⟨k1*m,s1,Int.mul_ne_zero hk1 hm,fun x=>by rw [Lp,Yb];have:=e1 x;have:=hd2 x;push_cast;grind⟩)
  have d0:=(h1.len hd t2 t3).1
  have hl:=Pn hd b1 d0 b2
  have:=(hdh.len (Qd _ _) b1 b2).2
  have l2:=List.length_pos_iff.2 b2
  omega
 ·rw [Mf,Yb,Ps]
  have:=key2 x
  rw [Yb,Yb]at this
  rw [this];grind
theorem Zy1{u t:List Int}(hu:Tr u)(u0:u≠[])(ht:Tr t)(t0:t≠[])(hn:Yo t=t)(h:Ed t u):pdv u t∧u=Xr (Mq u t) t∧Tr (Mq u t)∧Mq u t≠[]:=by
 have hc:Yn t=1:=by have:=Ah ht t0;rwa [hn]at this
 obtain⟨k,s,hk,h⟩:=h.dv
 obtain⟨q,hq⟩:=gauss hc _ k s rfl hk h
 have hqe:u=Xr (tzl q) t:=hu.ext (Qd _ _) fun i=>by rw [Kt,hq,Yce]
 obtain⟨p1,p2⟩:=Znx (Po q) ht t0
 rw [←hqe]at p1 p2
 rw [p2]
 exact⟨p1,hqe,Po q,fun e=>u0 (by rw [hqe,e,Ib])⟩
theorem Zkf{F:Nat}{p:List Int}(hp:Tr p)(h0:p≠[])(hok:Gr F p)(h2:2≤p.length):(Pt F p).length<p.length:=by
 obtain⟨a1,a2,-⟩:=Qx hp h0 hok
 have ht:Tr (Yo p):=On (Yi hp)
 have e1:Ed (Pt F p) (Yj (Yo p)):=(Zcv ht (Oh ht) hok).2.ed
 have hl:=Pm (Yo p)
 have hn:=Pd hp
 have:=(e1.len a1 (Oh ht) (fun e=>by rw [e]at hl;simp at hl;omega)).2
 omega
theorem Yg9{p:List Int}(hp:Tr p)(hn:Yo p=p)(hl:p.length=1):p=[1]:=by
 have h0:p≠[]:=fun e=>by rw [e]at hl;simp at hl
 have hc:=Ah hp h0
 have hd:0<cf (Yo p) ((Yo p).length-1):=Cq (Yi hp) (fun e=>h0 (List.eq_nil_of_length_eq_zero (by rw [←Zq,e];rfl)))
 rw [hn]at hc hd
 match p,hl with
 | [c],_=>
  have hd':0<c:=hd
  have h1:c∣Yn [c]:=Gg fun i=>by
   match i with
   | 0=>exact Int.dvd_refl c
   | i+1=>rw [Yd O5];exact Int.dvd_zero c
  rw [hc]at h1
  have:=Int.le_of_dvd O3 h1
  rw [show c=1 by omega]
def Dp(p q:List Int):Prop:=Tr q∧q≠[]∧Yo q=q∧∃a,Tr a∧Yo p=Xr a q
theorem Dp.start{p:List Int}(hp:Tr p)(h0:p≠[]):Dp p (Yo p):=
 ⟨On (Yi hp),Zgl hp h0,Ztm (On (Yi hp)) (Ah hp h0) (Cq (Yi hp) (fun e=>h0 (List.eq_nil_of_length_eq_zero (by rw [←Zq,e];rfl)))),[1],.inr (show cf [1] 0≠0 by decide),by
  refine(On (Yi hp)).ext (Qd _ _) fun i=>?_
  rw [Kt,Zq2];rfl⟩
theorem Dp.sz{p q:List Int}{n:Nat}(hp:Tr p)(h0:p≠[])(hs:Sz n p)(hl:p.length≤13)(h:Dp p q):Sz (n+130) q∧q.length≤p.length:=by
 obtain⟨h1,h2,h3,a,ha,e⟩:=h
 have hK:kkR 24 13*(24+1)^13<2^130:=O9
 have hln:=Pd hp
 have hn0:=Zgl hp h0
 have ht:Tr (Yo p):=On (Yi hp)
 have a0:a≠[]:=fun e2=>hn0 (by rw [e,e2,Ib])
 refine⟨Ga (L:=13) (R:=24) h1 ha (Zm9 hs) hn0 ht O O3 hK (by rw [Dx];exact e),?_⟩
 have hlq:=Pn ha h1 a0 h2
 rw [←e,hln]at hlq
 have:=List.length_pos_iff.2 a0
 omega
theorem Dp.ok{p q:List Int}{n F:Nat}(hp:Tr p)(h0:p≠[])(hs:Sz n p)(hn:n≤220)(hl:p.length≤11)(hF:p.length≤F+1)(h:Dp p q):Ct F q∧Gr F q:=by
 obtain⟨s1,s2⟩:=h.sz hp h0 hs O
 have:=(chG F h.1 h.2.1 s1 O O O).1
 exact⟨this,this.1.2.2.1⟩
theorem Dp.next{p q:List Int}{F:Nat}(h:Dp p q)(hok:Gr F q):Dp p (Pt F q):=by
 obtain⟨h1,h2,h3,a,ha,e⟩:=h
 obtain⟨a1,a2,a3,a4,a5⟩:=Qx h1 h2 hok
 refine⟨a1,a2,a3,Xr a (sqf F q),Qd _ _,?_⟩
 rw [h3]at a4
 refine e.trans ((congrArg (Xr a) a4).trans ?_)
 refine(Qd _ _).ext (Qd _ _) fun i=>Nw (fun x=>?_) i
 rw [Yb,Yb,Yb,Yb];grind
def Ep(F:Nat):Nat→List Int→List Int
 | 0,p=>sqf F p
 | f+1,p=>if(sqf F p).length=1 then sqf F p else Xr (Mq (sqf F p) (sqf F (Pt F p))) (Ep F f (Pt F (Pt F p)))
def Zn2(F:Nat):Nat→List Int→List Int→List Int
 | 0,out,_=>out
 | f+1,out,q=>if(sqf F q).length=1 then out else if(sqf F (Pt F q)).length=1 then Xr out (Mq (sqf F q) (sqf F (Pt F q)))else Zn2 F f (Xr out (Mq (sqf F q) (sqf F (Pt F q)))) (Pt F (Pt F q))
theorem Zes{F:Nat}{q:List Int}(hq:Tr q)(h0:q≠[])(hok:Gr F q)(h:(sqf F q).length=1):sqf F q=[1]∧q.length=1∧(Pt F q).length=1:=by
 obtain⟨f1,f2,f3,f4,f5,f6⟩:=Og (F:=F) hq h0 hok
 obtain⟨a1,a2,a3,a4,a5⟩:=Qx hq h0 hok
 have l0:=List.length_pos_iff.2 h0
 have hl:q.length=1:=by
  rcases Nat.lt_or_ge q.length 2 with h2 | h2
  ·omega
  ·have:=Zkf hq h0 hok h2;omega
 exact⟨Yg9 f2 f6 h,hl,O⟩
theorem Znv{p:List Int}(hp:Tr p):Xr p [1]=p:=by
 refine(Qd _ _).ext hp fun i=>Nw (fun x=>?_) i
 rw [Yb,Ps];push_cast;grind
theorem Ycn{F:Nat}{q:List Int}(hq:Tr q)(h0:q≠[])(hok:Gr F q)(h:q.length=1):∀f,Ep F f q=[1]:=fun f=>by
 obtain⟨f1,f2,f3,f4,f5,f6⟩:=Og (F:=F) hq h0 hok
 obtain⟨a1,a2,a3,a4,a5⟩:=Qx hq h0 hok
 have l1:=List.length_pos_iff.2 f3
 have l2:=List.length_pos_iff.2 a2
 have hs:(sqf F q).length=1:=O
 have:=(Zes hq h0 hok hs).1
 cases f with
 | zero=>exact this
 | succ f=>unfold Ep;rw [if_pos hs];exact this
theorem Zh9{F:Nat}{p:List Int}{f:Nat}{q:List Int}(hq:Tr q)(h0:q≠[])(hok:Gr F q):Tr (Ep F f q):=by
 obtain⟨f1,f2,f3,f4,f5,f6⟩:=Og (F:=F) hq h0 hok
 cases f with
 | zero=>exact f2
 | succ f=>unfold Ep;split;exact f2;exact Qd _ _
theorem Zv5{F n:Nat}{p:List Int}(hp:Tr p)(h0:p≠[])(hs:Sz n p)(hn:n≤220)(hl:p.length≤11)(hF:p.length≤F+1):∀(f:Nat) (out q:List Int),Tr out→Dp p q→q.length≤f→Zn2 F f out q=Xr out (Ep F f q):=by
 intro f
 induction f with
 | zero=>intro out q _ hq hlq;have:=List.length_pos_iff.2 hq.2.1;omega
 | succ f ih=>
  intro out q ho hq hlq
  have hok:=(hq.ok hp h0 hs hn hl hF).2
  have hg:=hq.next hok
  have hok2:=(hg.ok hp h0 hs hn hl hF).2
  have hg2:=hg.next hok2
  have hok3:=(hg2.ok hp h0 hs hn hl hF).2
  unfold Zn2 Ep
  by_cases c1:(sqf F q).length=1
  ·rw [if_pos c1,if_pos c1,(Zes hq.1 hq.2.1 hok c1).1,Znv ho]
  ·rw [if_neg c1,if_neg c1]
   have lq:2≤q.length:=by
    obtain⟨f1,f2,f3,f4,f5,f6⟩:=Og (F:=F) hq.1 hq.2.1 hok
    obtain⟨a1,a2,a3,a4,a5⟩:=Qx hq.1 hq.2.1 hok
    have l1:=List.length_pos_iff.2 f3
    have l2:=List.length_pos_iff.2 a2
    omega
   have lt1:=Zkf hq.1 hq.2.1 hok lq
   obtain⟨-,-,-,-,b5⟩:=Qx hg.1 hg.2.1 hok2
   obtain⟨-,b2,b3,-,-,-⟩:=Og (F:=F) hg.1 hg.2.1 hok2
   have lb:=List.length_pos_iff.2 b3
   by_cases c2:(sqf F (Pt F q)).length=1
   ·obtain⟨s1,s2,s3⟩:=Zes hg.1 hg.2.1 hok2 c2
    rw [if_pos c2,Ycn hg2.1 hg2.2.1 hok3 s3]
    refine(Qd _ _).ext (Qd _ _) fun i=>Nw (fun x=>?_) i
    rw [Yb,Yb,Yb,Ps];push_cast;grind
   ·rw [if_neg c2,ih _ _ (Qd _ _) hg2 O]
    refine(Qd _ _).ext (Qd _ _) fun i=>Nw (fun x=>?_) i
    rw [Yb,Yb,Yb,Yb];grind
theorem Ztj{q:List Int}{e:Int}(he:e=1∨e=-1)(h:Yn q=1):Yn (Zv q e)=1:=by
 have h1:Yn (Zv q e)∣Yn q:=Gg fun i=>by
  have:=Mn (Zv q e) i
  rw [Yk]at this
  rcases he with rfl | rfl
  ·rwa [Int.mul_one]at this
  ·rw [Int.mul_neg_one]at this;exact(Int.dvd_neg.1 this)
 rw [h]at h1
 have h2:=Ny (Zv q e)
 have h3:=Int.le_of_dvd O3 h1
 rcases(show Yn (Zv q e)=0∨Yn (Zv q e)=1 by omega)with h4 | h4
 ·rw [h4]at h1;exact absurd (Int.zero_dvd.1 h1) O3
 ·exact h4
theorem Ycj{q:List Int}(h:Yn q=1):Zr q=q:=by
 unfold Zr;rw [h];simp
theorem Zqc{F:Nat}{q:List Int}{e:Int}(hq:Tr q)(q0:q≠[])(hn:Yo q=q)(hok:Gr F q)(he:e=1∨e=-1) :
  Tr (Zv q e)∧Zv q e≠[]∧Yo (Zv q e)=q∧Zr (Zv q e)=Zv q e∧pdv (Zv q e) (sqf F q)∧Mq (Zv q e) (sqf F q)=Zv (Pt F q) e:=by
 have e0:e≠0:=by rcases he with rfl | rfl<;>decide
 obtain⟨f1,f2,f3,f4,f5,f6⟩:=Og (F:=F) hq q0 hok
 obtain⟨a1,a2,a3,a4,a5⟩:=Qx hq q0 hok
 have hc:Yn q=1:=by have:=Ah hq q0;rwa [hn]at this
 rw [hn]at a4
 have hw:Zv q e=Xr (Zv (Pt F q) e) (sqf F q):=by
  refine(Xq _ _).ext (Qd _ _) fun i=>Nw (fun x=>?_) i
  have:Zf q x=Zf (Xr (sqf F q) (Pt F q)) x:=by rw [←a4]
  rw [Zja,Yb,Zja,this,Yb];grind
 obtain⟨p1,p2⟩:=Znx (Xq (Pt F q) e) f2 f3
 rw [←hw]at p1 p2
 exact⟨Xq _ _,Zl8 hq q0 e0,by rw [Zn4 (Xq _ _) hq (Zdy q e0).symm,hn],Ycj (Ztj he hc),p1,p2⟩
theorem Yci{p:List Int}(hp:Tr p)(h0:p≠[]):∃e:Int,(e=1∨e=-1)∧Zr p=Zv (Yo p) e:=by
 by_cases h:cf (Zr p) ((Zr p).length-1)<0
 ·refine⟨-1,.inr rfl,?_⟩
  rw [Zic (fun e=>h0 (List.eq_nil_of_length_eq_zero (by rw [←Zq,e]))) h]
  refine(Yi hp).ext (Xq _ _) fun i=>?_
  rw [Yk,Yk];omega
 ·refine⟨1,.inl rfl,?_⟩
  rw [Zib h]
  refine(Yi hp).ext (Xq _ _) fun i=>?_
  rw [Yk];omega
def Oq(F:Nat)(p:List Int):List Int:=Mq (Zv (Zr p) 1) (sqf F p)
def Ch(F:Nat)(p:List Int):List Int:=Mq (Zr (Oq F p)) (sqf F (Oq F p))
def Zbn(F:Nat):Nat→List Int→List Int
 | 0,p=>sqf F p
 | f+1,p=>if(sqf F p).length=1 then sqf F p else Xr (Mq (sqf F p) (sqf F (Oq F p))) (Zbn F f (Ch F p))
theorem Fr{F:Nat}{p q:List Int}(h:Yo p=Yo q):sqf F p=sqf F q:=by unfold sqf;rw [h]
theorem Zif{F:Nat}{p q:List Int}(h:Yo p=Yo q):Pt F p=Pt F q:=by unfold Pt;rw [h]
theorem Zjk{F:Nat}{p q:List Int}(h:Yo p=Yo q):∀f,Ep F f p=Ep F f q
 | 0=>Fr h
 | f+1=>by unfold Ep;rw [Fr h,Zif h]
theorem Zi8{F:Nat}{p:List Int}(hp:Tr p)(h0:p≠[])(hok:Gr F p)(hok2:Gr F (Pt F p)) :
  (∃e:Int,(e=1∨e=-1)∧Zv (Zr p) 1=Zv (Yo p) e∧pdv (Zv (Yo p) e) (sqf F p)∧Oq F p=Zv (Pt F p) e∧Zr (Oq F p)=Oq F p∧pdv (Oq F p) (sqf F (Pt F p))∧Ch F p=Zv (Pt F (Pt F p)) e)∧
  Yo (Oq F p)=Pt F p∧Yo (Ch F p)=Pt F (Pt F p)∧Tr (Oq F p)∧Oq F p≠[]∧Tr (Ch F p)∧Ch F p≠[]:=by
 obtain⟨b1,b2,b3,-⟩:=Dp.start hp h0
 have hok':Gr F (Yo p):=by unfold Gr;rw [b3];exact hok
 have hgn:Pt F (Yo p)=Pt F p:=Zif b3
 have hsn:sqf F (Yo p)=sqf F p:=Fr b3
 obtain⟨e,he,hpe⟩:=Yci hp h0
 have hp1:Zv (Zr p) 1=Zv (Yo p) e:=by
  rw [hpe];refine(Xq _ _).ext (Xq _ _) fun i=>?_
  rw [Yk,Int.mul_one]
 obtain⟨-,-,-,-,c5,c6⟩:=Zqc b1 b2 b3 hok' he
 rw [hgn,hsn]at c6
 rw [hsn]at c5
 have hl:Oq F p=Zv (Pt F p) e:=by unfold Oq;rw [hp1,c6]
 obtain⟨a1,a2,a3,-,-⟩:=Qx hp h0 hok
 obtain⟨d1,d2,d3,d4,d5,d6⟩:=Zqc a1 a2 a3 hok2 he
 rw [←hl]at d1 d2 d3 d4 d5 d6
 have hsl:sqf F (Oq F p)=sqf F (Pt F p):=Fr (by rw [d3,a3])
 have hr:Ch F p=Zv (Pt F (Pt F p)) e:=by unfold Ch;rw [d4,hsl,d6]
 obtain⟨g1,g2,g3,-,-⟩:=Qx a1 a2 hok2
 have e0:e≠0:=by rcases he with rfl | rfl<;>decide
 refine⟨⟨e,he,hp1,c5,hl,d4,d5,hr⟩,d3,?_,d1,d2,?_,?_⟩
 ·rw [hr,Zn4 (Xq _ _) g1 (Zdy _ e0).symm,g3]
 ·rw [hr];exact Xq _ _
 ·rw [hr];exact Zl8 g1 g2 e0
theorem Zvi{F n:Nat}{p:List Int}(hp:Tr p)(h0:p≠[])(hs:Sz n p)(hn:n≤220)(hl:p.length≤11)(hF:p.length≤F+1):∀(f:Nat) (q:List Int),Tr q→q≠[]→Dp p (Yo q)→Zbn F f q=Ep F f q:=by
 intro f
 induction f with
 | zero=>intro q _ _ _;rfl
 | succ f ih=>
  intro q hq q0 hD
  have hok:=(hD.ok hp h0 hs hn hl hF).2
  have hok':Gr F q:=by unfold Gr at hok ⊢;rwa [hD.2.2.1]at hok
  have hg:=hD.next hok
  rw [Zif hD.2.2.1]at hg
  have hok2:=(hg.ok hp h0 hs hn hl hF).2
  have hg2:=hg.next hok2
  obtain⟨-,r1,r2,r3,r4,r5,r6⟩:=Zi8 hq q0 hok' hok2
  unfold Zbn Ep
  have a3:=hg.2.2.1
  rw [Fr (show Yo (Oq F q)=Yo (Pt F q) by rw [r1,a3]),ih _ r5 r6 (by rw [r2];exact hg2),Zjk (show Yo (Ch F q)=Yo (Pt F (Pt F q)) by rw [r2,hg2.2.2.1])]
def Eu(F:Nat)(q:List Int):List Int:=Mq (sqf F q) (sqf F (Pt F q))
theorem Eg{F:Nat}{q:List Int}(hq:Tr q)(q0:q≠[])(hok:Gr F q)(hok2:Gr F (Pt F q)):pdv (sqf F q) (sqf F (Pt F q))∧sqf F q=Xr (Eu F q) (sqf F (Pt F q))∧Tr (Eu F q)∧Eu F q≠[]:=by
 obtain⟨f1,f2,f3,f4,f5,f6⟩:=Og (F:=F) hq q0 hok
 obtain⟨a1,a2,a3,a4,a5⟩:=Qx hq q0 hok
 obtain⟨-,t2,t3,-,-,t6⟩:=Og (F:=F) a1 a2 hok2
 exact Zy1 f2 f3 t2 t3 t6 (Zv3 hq q0 hok hok2)
theorem Zty{p a b:List Int}{n:Nat}(hp:Tr p)(h0:p≠[])(hs:Sz n p)(hl:p.length≤13)(ha:Tr a)(hb:Tr b)(e:Yo p=Xr a b):Sz (n+130) b∧b.length≤p.length∧b≠[]:=by
 have hK:kkR 24 13*(24+1)^13<2^130:=O9
 have hln:=Pd hp
 have hn0:=Zgl hp h0
 have ht:Tr (Yo p):=On (Yi hp)
 have a0:a≠[]:=fun e2=>hn0 (by rw [e,e2,Ib])
 have b0:b≠[]:=fun e2=>hn0 (by rw [e,e2,Zaq])
 refine⟨Ga (L:=13) (R:=24) hb ha (Zm9 hs) hn0 ht O O3 hK (by rw [Dx];exact e),?_,b0⟩
 have hlq:=Pn ha hb a0 b0
 rw [←e,hln]at hlq
 have:=List.length_pos_iff.2 a0
 omega
def Op(p out q:List Int):Prop:=∃a,Tr a∧Yo p=Xr a (Xr out q)
theorem Op.start{p:List Int}(hp:Tr p):Op p [1] (Yo p):=⟨[1],.inr (show cf [1] 0≠0 by decide),by
 refine(On (Yi hp)).ext (Qd _ _) fun i=>Nw (fun x=>?_) i
 rw [Yb,Yb,Ps];push_cast;show Zf (Yo p) x=_;grind⟩
theorem Op.next{p out q:List Int}{F:Nat}(hq:Tr q)(q0:q≠[])(hn:Yo q=q)(hok:Gr F q)(hok2:Gr F (Pt F q))(h:Op p out q):Op p (Xr out (Eu F q)) (Pt F (Pt F q)):=by
 obtain⟨a,ha,e⟩:=h
 obtain⟨-,o2,o3,o4⟩:=Eg hq q0 hok hok2
 obtain⟨a1,a2,a3,a4,a5⟩:=Qx hq q0 hok
 obtain⟨-,-,-,b4,-⟩:=Qx a1 a2 hok2
 rw [hn]at a4
 rw [a3]at b4
 refine⟨Xr a (Xr (sqf F (Pt F q)) (sqf F (Pt F q))),Qd _ _,e.trans ?_⟩
 refine(Qd _ _).ext (Qd _ _) fun i=>Nw (fun x=>?_) i
 have e1:Zf q x=Zf (sqf F q) x*Zf (Pt F q) x:=by rw [←Yb,←a4]
 have e2:Zf (sqf F q) x=Zf (Eu F q) x*Zf (sqf F (Pt F q)) x:=by rw [←Yb,←o2]
 have e3:Zf (Pt F q) x=Zf (sqf F (Pt F q)) x*Zf (Pt F (Pt F q)) x:=by rw [←Yb,←b4]
 simp only [Yb]
 rw [e1,e2]
 rw [e3]
 generalize Zf (sqf F (Pt F q)) x=A
 generalize Zf (Pt F (Pt F q)) x=B
 grind
theorem Op.sz{p out q:List Int}{n:Nat}(hp:Tr p)(h0:p≠[])(hs:Sz n p)(hl:p.length≤13)(ho:Tr out)(hq:Tr q)(h:Op p out q):Sz (n+130) out∧out.length≤p.length∧out≠[]:=by
 obtain⟨a,ha,e⟩:=h
 exact Zty hp h0 hs hl (Qd a q) ho (e.trans ((Qd _ _).ext (Qd _ _) fun i=>Nw (fun x=>by rw [Yb,Yb,Yb,Yb];grind) i))
theorem Zvz{p:List Int}(hp:Tr p):Xr [1] p=p:=by rw [Dx];exact Znv hp
theorem Yc3{F n:Nat}{p:List Int}(hp:Tr p)(h0:p≠[])(hs:Sz n p)(hn:n≤220)(hl:p.length≤11)(hF:p.length≤F+1):Zn2 F p.length [1] (Yo p)=Zbn F p.length p:=by
 have hD:=Dp.start hp h0
 have hok:=(hD.ok hp h0 hs hn hl hF).2
 rw [Zv5 hp h0 hs hn hl hF p.length [1] (Yo p) (.inr (show cf [1] 0≠0 by decide)) hD (by rw [Pd hp];exact Nat.le_refl _),Zvz (Zh9 (p:=p) hD.1 hD.2.1 hok),Zvi hp h0 hs hn hl hF p.length p hp h0 hD]
 exact Zjk hD.2.2.1 _
theorem Zis{xs:List Int}{F:Nat}(hx:Tr xs)(h0:xs≠[])(hC:Ct F xs){s t:Rat}(hst:s≤t):Bv F xs t≤Bv F xs s:=Zkt hx h0 hC hst
theorem Sqn.imp{P P':R2→R2→Prop}{hi:Rat}(hp:∀x y,P x y→P' x y):∀{lo:Rat} {l:List (R2×R2)},Sqn P hi lo l→Sqn P' hi lo l
 | _,[],h=>h
 | _,_ :: _,h=>⟨h.1,h.2.1,hp _ _ h.2.2.1,Sqn.imp hp h.2.2.2⟩
def oe(f:Nat→Int):Nat→Int
 | 0=>0
 | k+1=>err (oe f k) (f k)
def mon(d n:Nat):List Int:=mono d ((2:Int)^n)
variable {P:Program} {N:Nat} {sc:Nat→Prop} {env:Py} {H:Hp}
end Go.Sky
namespace Go.Sky
def HD(xs ys:List Int):Prop:=Vp ys∧ys≠[]∧Ac ys∧Ct 13 ys∧Bt 13 ys=Bt 13 xs
def PH(xs:List Int)(x y:R2):Prop:=(0<x.2∧bl x.1.natAbs≤506∧bl x.2.natAbs≤506)∧(0<y.2∧bl y.1.natAbs≤506∧bl y.2.natAbs≤506)∧cvc 13 xs x-cvc 13 xs y=1
def DR:R2×R2:=((0,0),(0,0))
theorem Zf0(d:Rat){h:Rat}(h1:0<h):∃n:Nat,d≤(n:Rat)*h:=by
 have h4:0<h⁻¹:=Rat.inv_pos.2 h1
 refine⟨(d*h⁻¹).ceil.toNat,?_⟩
 have h5:=@Rat.le_ceil (d*h⁻¹)
 have h6:(((d*h⁻¹).ceil:Int):Rat)≤(((d*h⁻¹).ceil.toNat:Nat):Rat):=by
  have:(d*h⁻¹).ceil≤(((d*h⁻¹).ceil.toNat:Nat):Int):=Int.self_le_toNat _
  exact_mod_cast this
 have h7:=Rat.mul_le_mul_of_nonneg_right (Rat.le_trans h5 h6) (show 0≤h by grind)
 have h8:d*h⁻¹*h=d:=O4
 grind
theorem Zoy{f:Rat→Rat}{u v:Rat}(h:crs f u v≤0)(h0:f u≠0):0<f u*f v:=by
 unfold crs at h
 by_cases h1:f u≠0∧f u*f v≤0
 ·rw [if_pos h1]at h;exact absurd h O3
 ·have:¬f u*f v≤0:=fun h2=>h1 ⟨h0,h2⟩
  grind
theorem Zc3{xs:List Int}{F:Nat}(hx:Tr xs)(h0:xs≠[])(hC:Ct F xs){s t:Rat}(hst:s≤t)(hV:Bv F xs s≤Bv F xs t)(hs:Zf (sqf F xs) s≠0):∀y,s≤y→y≤t→0<Zf (sqf F xs) s*Zf (sqf F xs) y:=by
 obtain⟨h,h1,h2⟩:=Zks hx h0 hC s t
 have hcv:∀u v,s≤u→u≤v→v≤t→v-u≤h→crs (Zf (sqf F xs)) u v≤0:=fun u v a b c d=>by
  have e:=h2 u v a b c d
  have m1:vat ((Bt F xs).map Zf) u≤vat ((Bt F xs).map Zf) s:=Zkt hx h0 hC a
  have m2:vat ((Bt F xs).map Zf) t≤vat ((Bt F xs).map Zf) v:=Zkt hx h0 hC c
  have m3:vat ((Bt F xs).map Zf) s≤vat ((Bt F xs).map Zf) t:=hV
  omega
 generalize Zf (sqf F xs)=f at *
 have key:∀n:Nat,∀y,s≤y→y≤t→y-s≤(n:Rat)*h→0<f s*f y:=fun n=>by
  induction n with
  | zero=>
   intro y a b c
   have:y=s:=by push_cast at c;grind
   subst this
   exact Zoy (hcv _ _ a O4 b O4) hs
  | succ n ih=>
   intro y a b c
   push_cast at c
   by_cases hy:y-s≤h
   ·exact Zoy (hcv s y O4 a b hy) hs
   ·have i1:=ih (y-h) O4 O4 O4
    have hz:f (y-h)≠0:=fun e=>by rw [e]at i1;grind
    have i2:=Zoy (hcv (y-h) y O4 O4 b O4) hz
    have i3:=Rat.mul_pos i1 i2
    have e1:f s*f (y-h)*(f (y-h)*f y)=(f (y-h)*f (y-h))*(f s*f y):=O4
    rw [e1]at i3
    have i4:0<f (y-h)*f (y-h):=by
     rcases(show 0<f (y-h)∨f (y-h)<0 by grind)with q | q
     ·exact Rat.mul_pos q q
     ·have:=Rat.mul_pos (a:=-f (y-h)) (b:=-f (y-h)) O4 O4;grind
    rcases(show 0<f s*f y∨f s*f y≤0 by grind)with q | q
    ·exact q
    ·have:=Rat.mul_nonneg (a:=f (y-h)*f (y-h)) (b:=-(f s*f y)) O4 O4;grind
 intro y a b
 obtain⟨n,hn⟩:∃n:Nat,y-s≤(n:Rat)*h:=by
  obtain⟨n,hn⟩:=Zf0 (y-s) h1
  exact⟨n,hn⟩
 exact key n y a b hn
theorem Zff{p:List Int}{s t:Rat}(hst:s≤t)(hd:∀u,s≤u→u≤t→0≤Zf (ld p) u):Zf p s≤Zf p t:=by
 rcases(show Zf p s≤Zf p t∨Zf p t<Zf p s by grind)with h | h
 ·exact h
 ·exfalso
  obtain⟨M,m1,m2⟩:=Zh6 s t p
  have hlt:s<t:=by
   rcases(show s<t∨s=t by grind)with h9 | h9
   ·exact h9
   ·rw [h9]at h;grind
  obtain⟨n,hn⟩:=Zf0 (M*(t-s)*(t-s)+1) (show 0<Zf p s-Zf p t by grind)
  have hn0:(0:Rat)<(n:Rat):=by
   rcases Nat.eq_zero_or_pos n with h9 | h9
   ·subst h9
    have:=Rat.mul_nonneg (a:=M*(t-s)) (b:=t-s) (Rat.mul_nonneg O4 O4) O4
    push_cast at hn;grind
   ·exact_mod_cast h9
  have hn1:(n:Rat)≠0:=fun e=>by rw [e]at hn0;exact absurd hn0 O3
  have hnn0:(n:Rat)*((t-s)/n)=t-s:=by
   rw [Rat.div_def,←Rat.mul_assoc,Rat.mul_comm (n:Rat),Rat.mul_assoc,Rat.mul_inv_cancel _ hn1,Rat.mul_one]
  have key:∀k:Nat,(k:Rat)≤(n:Rat)→-(M*((t-s)/n)*((t-s)/n))*k≤Zf p (s+k*((t-s)/n))-Zf p s:=fun k=>by
   induction k with
   | zero=>intro _;push_cast;rw [show s+0*((t-s)/n)=s by grind];grind
   | succ k ih=>
    intro hk
    push_cast at hk ⊢
    have i1:=ih O4
    have hh:0≤(t-s)/n:=by
     rw [Rat.div_def];exact Rat.mul_nonneg O4 (Rat.le_of_lt (Rat.inv_pos.2 hn0))
    have hnn:=hnn0
    generalize (t-s)/(n:Rat)=h at *
    have k0:(0:Rat)≤(k:Rat):=by exact_mod_cast Nat.zero_le k
    have b1:=Rat.mul_nonneg (a:=(k:Rat)) (b:=h) k0 hh
    have b2:=Rat.mul_nonneg (a:=(n:Rat)-(k+1)) (b:=h) O4 hh
    have j:=(m2 (s+k*h) (s+(k+1)*h) O4 O4 O4).1
    have e:=hd (s+k*h) O4 O4
    have e2:=Rat.mul_nonneg hh e
    rw [show s+(k+1)*h-(s+k*h)=h by grind]at j
    grind
  have k1:=key n O4
  have hnn:=hnn0
  rw [hnn,show s+(t-s)=t by grind]at k1
  have k2:-(M*((t-s)/n)*((t-s)/n))*n=-(M*((t-s)/n)*(t-s)):=O4
  rw [k2]at k1
  have k3:M*((t-s)/n)*(t-s)*n=M*(t-s)*(t-s):=O4
  have k4:=Rat.mul_nonneg (a:=Zf p t-Zf p s+M*((t-s)/n)*(t-s)) (b:=(n:Rat)) O4 O4
  grind
theorem Ze0(p:List Int)(x:Rat):Zf (p.map fun a=>-1*a) x=-Zf p x:=by rw [Zm];push_cast;grind
theorem Zm0{p:List Int}{s t:Rat}(hst:s<t)(hd:∀u,s<u→u≤t→0<Zf (ld p) u)(h0:0≤Zf (ld p) s):Zf p s<Zf p t:=by
 have hm:s<(s+t)/2∧(s+t)/2<t:=by constructor<;>grind
 generalize (s+t)/2=m at *
 have a1:=Zff (p:=p) (s:=s) (t:=m) O4 (fun u a b=>by
  rcases(show s<u∨u=s by grind)with h | h
  ·exact Rat.le_of_lt (hd u h O4)
  ·rw [h];exact h0)
 obtain⟨M,m1,m2⟩:=Zh6 m t p
 have hp:=hd m hm.1 O4
 obtain⟨η,q1,q2,q3⟩:=Ij (show 0<t-m by grind) m1 (show 0<Zf (ld p) m/2 by grind)
 have b:=(m2 m (m+η) O4 O4 O4).1
 rw [show m+η-m=η by grind]at b
 have a2:=Zff (p:=p) (s:=m+η) (t:=t) O4 (fun u a b=>Rat.le_of_lt (hd u O4 b))
 have c:=Rat.mul_nonneg (a:=η) (b:=Zf (ld p) m/2-η*M) O4 O4
 have d:=Rat.mul_pos q1 hp
 grind
def Gw:Nat→List Int→Rat→Int
 | 0,_,_=>0
 | n+1,p,x=>if Zf p x≠0 then Gj (Zf p x)else Gw n (Yj p) x
theorem Zvg{x:Rat}(h:0<x):Gj x=1:=Cy h
theorem Zlz{x:Rat}(h:x<0):Gj x=-1:=Cz h
theorem Zqi{x:Rat}(h:x=0):Gj x=0:=by subst h;rfl
theorem Qv(x:Rat):(0<x∧Gj x=1)∨(x<0∧Gj x=-1)∨(x=0∧Gj x=0):=by
 rcases(show 0<x∨x<0∨x=0 by grind)with h | h | h
 ·exact .inl ⟨h,Zvg h⟩
 ·exact .inr (.inl ⟨h,Zlz h⟩)
 ·exact .inr (.inr ⟨h,Zqi h⟩)
theorem Zuq(n:Nat)(p:List Int)(x:Rat)(h:Zf p x≠0)(hl:p.length≤n):Gw n p x=Gj (Zf p x):=by
 cases n with
 | zero=>have:p=[]:=List.eq_nil_of_length_eq_zero O;subst this;exact absurd rfl h
 | succ n=>unfold Gw;rw [if_pos h]
theorem Zmf(p:List Int)(x:Rat)(h:Zf p x≠0):∃δ:Rat,0<δ∧∀y,x<y→y≤x+δ→Gj (Zf p y)=Gj (Zf p x):=by
 obtain⟨L,l1,l2⟩:=Dg x (x+1) p
 have ha:0<(if 0<Zf p x then Zf p x else -Zf p x):=by split<;>grind
 obtain⟨δ,d1,d2,d3⟩:=Ij (show(0:Rat)<1 by decide) (show 0<L+1 by grind) (show 0<(if 0<Zf p x then Zf p x else -Zf p x)/2 by grind)
 refine⟨δ,d1,fun y h1 h2=>?_⟩
 have l:=l2 x y O4 O4 O4
 have b:=Rat.mul_nonneg (a:=L) (b:=δ-(y-x)) O4 O4
 have c:L*(y-x)≤δ*(L+1):=O4
 rcases Qv (Zf p x)with⟨h3,h4⟩ | ⟨h3,h4⟩ | ⟨h3,h4⟩
 ·rw [if_pos h3]at d3 ha;rw [h4];exact Zvg O4
 ·rw [if_neg O4]at d3 ha;rw [h4];exact Zlz O4
 ·exact absurd h3 h
theorem Cu:∀(n:Nat) (p:List Int) (x:Rat),p.length≤n→∃δ:Rat,0<δ∧∀y,x<y→y≤x+δ→Gj (Zf p y)=Gw n p x
 | 0,p,x,hl=>⟨1,O3,fun y _ _=>by
  have:p=[]:=List.eq_nil_of_length_eq_zero O
  subst this;exact Zqi rfl⟩
 | n+1,p,x,hl=>by
  by_cases h:Zf p x≠0
  ·rw [Zuq (n+1) p x h hl];exact Zmf p x h
  ·have h0:Zf p x=0:=Classical.not_not.1 h
   have ld':=Pm p
   obtain⟨δ,d1,d2⟩:=Cu n (Yj p) x O
   have hu:Gw (n+1) p x=Gw n (Yj p) x:=by unfold Gw;rw [if_neg h];cases n<;>rfl
   have hx:Zf (ld p) x≠0→Gj (Zf (ld p) x)=Gw n (Yj p) x:=fun h9=>by
    rw [←Lp]at h9 ⊢;exact(Zuq n (Yj p) x h9 O).symm
   refine⟨δ,d1,fun y h1 h2=>?_⟩
   rw [hu]
   have hd:∀u,x<u→u≤y→Gj (Zf (ld p) u)=Gw n (Yj p) x:=fun u a b=>by rw [←Lp];exact d2 u a O4
   have hyy:=hd y h1 O4
   generalize Gw n (Yj p) x=σ at *
   rcases Qv (Zf (ld p) y)with⟨h3,h4⟩ | ⟨h3,h4⟩ | ⟨h3,h4⟩
   ·rw [h4]at hyy;subst hyy
    refine Zvg ?_
    have:=Zm0 (p:=p) h1 (fun u a b=>by
     rcases Qv (Zf (ld p) u)with⟨h5,h6⟩ | ⟨h5,h6⟩ | ⟨h5,h6⟩
     ·exact h5
     ·have:=hd u a b;rw [h6]at this;exact absurd this O3
     ·have:=hd u a b;rw [h6]at this;exact absurd this O3) (by
     rcases Qv (Zf (ld p) x)with⟨h5,h6⟩ | ⟨h5,h6⟩ | ⟨h5,h6⟩
     ·exact Rat.le_of_lt h5
     ·have:=hx O4;rw [h6]at this;exact absurd this O3
     ·grind)
    grind
   ·rw [h4]at hyy;subst hyy
    refine Zlz ?_
    have hn:∀u,Zf (ld (p.map fun a=>-1*a)) u=-Zf (ld p) u:=fun u=>by rw [Bb];push_cast;grind
    have:=Zm0 (p:=p.map fun a=>-1*a) h1 (fun u a b=>by
     rw [hn]
     rcases Qv (Zf (ld p) u)with⟨h5,h6⟩ | ⟨h5,h6⟩ | ⟨h5,h6⟩
     ·have:=hd u a b;rw [h6]at this;exact absurd this O3
     ·grind
     ·have:=hd u a b;rw [h6]at this;exact absurd this O3) (by
     rw [hn]
     rcases Qv (Zf (ld p) x)with⟨h5,h6⟩ | ⟨h5,h6⟩ | ⟨h5,h6⟩
     ·have:=hx O4;rw [h6]at this;exact absurd this O3
     ·grind
     ·grind)
    rw [Ze0,Ze0]at this
    grind
   ·rw [h4]at hyy;subst hyy
    refine Zqi ?_
    have hz:∀u,x≤u→u≤y→Zf (ld p) u=0:=fun u a b=>by
     rcases(show x<u∨u=x by grind)with h9 | h9
     ·rcases Qv (Zf (ld p) u)with⟨h5,h6⟩ | ⟨h5,h6⟩ | ⟨h5,h6⟩
      ·have:=hd u h9 b;rw [h6]at this;exact absurd this O3
      ·have:=hd u h9 b;rw [h6]at this;exact absurd this O3
      ·exact h5
     ·subst h9
      rcases Qv (Zf (ld p) u)with⟨h5,h6⟩ | ⟨h5,h6⟩ | ⟨h5,h6⟩
      ·have:=hx O4;rw [h6]at this;exact absurd this O3
      ·have:=hx O4;rw [h6]at this;exact absurd this O3
      ·exact h5
    have a1:=Zff (p:=p) (s:=x) (t:=y) O4 (fun u a b=>by rw [hz u a b];grind)
    have a2:=Zff (p:=p.map fun a=>-1*a) (s:=x) (t:=y) O4 (fun u a b=>by rw [Bb,hz u a b];push_cast;grind)
    rw [Ze0,Ze0]at a2
    grind
theorem Ed.mul_l{a b c:List Int}(h:Ed a b):Ed (Xr c a) (Xr c b):=by
 obtain⟨k,s,hk,e⟩:=h
 exact⟨k,s,hk,fun x=>by rw [Yb,Yb];have:=e x;grind⟩
theorem Gf{F n:Nat}{p:List Int}(hp:Tr p)(h0:p≠[])(hs:Sz n p)(hn:n≤220)(hl:p.length≤11)(hF:p.length≤F+1):∀(f:Nat) (q:List Int),Dp p q→q.length≤f→
  (∃B:List Int,∀x:Rat,Zf q x=Zf (Ep F f q) x*(Zf B x*Zf B x))∧Ed (Ep F f q) (sqf F q):=by
 intro f
 induction f with
 | zero=>intro q hq hlq;have:=List.length_pos_iff.2 hq.2.1;omega
 | succ f ih=>
  intro q hq hlq
  have hok:=(hq.ok hp h0 hs hn hl hF).2
  have hg:=hq.next hok
  have hok2:=(hg.ok hp h0 hs hn hl hF).2
  have hg2:=hg.next hok2
  unfold Ep
  by_cases c1:(sqf F q).length=1
  ·rw [if_pos c1]
   obtain⟨s1,s2,s3⟩:=Zes hq.1 hq.2.1 hok c1
   refine⟨⟨[1],fun x=>?_⟩,Ed.refl _⟩
   rw [s1,Yg9 hq.1 hq.2.2.1 s2,Ps];push_cast;grind
  ·rw [if_neg c1]
   have lq:2≤q.length:=by
    obtain⟨f1,f2,f3,f4,f5,f6⟩:=Og (F:=F) hq.1 hq.2.1 hok
    obtain⟨a1,a2,a3,a4,a5⟩:=Qx hq.1 hq.2.1 hok
    have l1:=List.length_pos_iff.2 f3
    have l2:=List.length_pos_iff.2 a2
    omega
   have lt1:=Zkf hq.1 hq.2.1 hok lq
   obtain⟨a1,a2,a3,a4,a5⟩:=Qx hq.1 hq.2.1 hok
   obtain⟨b1,b2,b3,b4,b5⟩:=Qx hg.1 hg.2.1 hok2
   obtain⟨-,t2,t3,-,-,-⟩:=Og (F:=F) hg.1 hg.2.1 hok2
   have lb:=List.length_pos_iff.2 t3
   obtain⟨⟨B,hB⟩,hE⟩:=ih _ hg2 O
   obtain⟨-,o2,o3,o4⟩:=Eg hq.1 hq.2.1 hok hok2
   have hok3:=(hg2.ok hp h0 hs hn hl hF).2
   rw [hq.2.2.1]at a4
   rw [a3]at b4
   have e1:∀x,Zf q x=Zf (sqf F q) x*Zf (Pt F q) x:=fun x=>by rw [←Yb,←a4]
   have e2:∀x,Zf (sqf F q) x=Zf (Eu F q) x*Zf (sqf F (Pt F q)) x:=fun x=>by rw [←Yb,←o2]
   have e3:∀x,Zf (Pt F q) x=Zf (sqf F (Pt F q)) x*Zf (Pt F (Pt F q)) x:=fun x=>by rw [←Yb,←b4]
   refine⟨⟨Xr (sqf F (Pt F q)) B,fun x=>?_⟩,?_⟩
   ·rw [Yb,Yb,e1 x,e2 x,e3 x,hB x]
    show _=Zf (Eu F q) x*_*_
    generalize Zf (sqf F (Pt F q)) x=S
    generalize Zf B x=C
    grind
   ·have h9:Ed (Ep F f (Pt F (Pt F q))) (sqf F (Pt F q)):=hE.trans (Zv3 hg.1 hg.2.1 hok2 hok3)
    have h8:=h9.mul_l (c:=Eu F q)
    rw [←o2]at h8
    exact h8
theorem Zq0{F n:Nat}{p:List Int}(hp:Tr p)(h0:p≠[])(hs:Sz n p)(hn:n≤220)(hl:p.length≤11)(hF:p.length≤F+1){o:List Int}(ho:Tr o)(o0:o≠[])(hok:Gr F o)(hpk:Gr F p)(h:Ed o (sqf F p)):(Pt F o).length=1∧sqf F o=Yo o:=by
 obtain⟨a1,a2,a3,a4,a5⟩:=Qx ho o0 hok
 obtain⟨f1,f2,f3,f4,f5,f6⟩:=Og (F:=F) hp h0 hpk
 obtain⟨-,s2,s3,s4,s5,s6⟩:=Og (F:=F) ho o0 hok
 have ht:Tr (Yo o):=On (Yi ho)
 have hd:=Zcv ht (Oh ht) hok
 have e1:Ed (Pt F o) (Yo o):=hd.1.ed
 have e2:Ed (Pt F o) (ld (Yo o)):=(hd.2.ed:Ed (Pt F o) (Yj (Yo o))).congr fun x=>Lp _ x
 have hsim:Sim (Yo o) o:=(Ko (Zr o)).trans (Xx ho)
 obtain⟨k,w,hk,hkw⟩:Ed (Yo o) (sqf F p):=by
  obtain⟨k,w,hk,e⟩:=h
  obtain⟨c,d,hc,hd',hcd⟩:=hsim
  have hcd':∀x:Rat,(c:Rat)*Zf (Yo o) x=(d:Rat)*Zf o x:=fun x=>by
   rw [←Zm,←Zm];exact Mg x _ _ fun i=>by rw [Qj,Qj];exact hcd i
  exact⟨d*k,w.map fun a=>c*a,Int.mul_ne_zero hd' hk,fun x=>by
   rw [Zm];have a:=e x;have b:=hcd' x;push_cast;grind⟩
 have hlen:(Pt F o).length≤1:=by
  refine Zet hp h0 hpk a1 (e1.trans ⟨k,w,hk,hkw⟩) ?_
  have h1:Ed (Pt F o) (Pa w (ld (Yo o))):=by
   obtain⟨m,z,hm,e⟩:=e2
   exact⟨m,Pa w z,hm,fun x=>by rw [Zu,Zu];have:=e x;grind⟩
  have h2:Ed (Pt F o) (ld (sqf F p)):=Ed.lin e1 h1 (ld w) k hk fun x=>by
   have:=Ec (p:=(sqf F p).map fun a=>k*a) (q:=Pa w (Yo o)) (fun y=>by rw [Zm,Zu];exact hkw y) x
   rw [Bb,Dj]at this
   rw [Zu,this]
  exact h2.congr fun x=>(Lp _ x).symm
 have hl1:(Pt F o).length=1:=by have:=List.length_pos_iff.2 a2;omega
 refine⟨hl1,?_⟩
 rw [Yg9 a1 a3 hl1,Znv s2]at a4
 exact a4.symm
theorem Zeu{a b:List Int}(h:Sim a b):∃c d:Int,c≠0∧d≠0∧∀x:Rat,(c:Rat)*Zf a x=(d:Rat)*Zf b x:=by
 obtain⟨c,d,hc,hd,e⟩:=h
 exact⟨c,d,hc,hd,fun x=>by rw [←Zm,←Zm];exact Mg x _ _ fun i=>by rw [Qj,Qj];exact e i⟩
theorem Hg{x:Rat}(h:x≠0):0<x*x:=by
 rcases(show 0<x∨x<0 by grind)with q | q
 ·exact Rat.mul_pos q q
 ·have:=Rat.mul_pos (a:=-x) (b:=-x) O4 O4;grind
theorem Pp{c:Int}(h:c≠0):(c:Rat)≠0:=fun e=>h (by exact_mod_cast e)
theorem Ze9{a b a' b' c d:Rat}(hc:c≠0)(hd:d≠0)(e1:c*a'=d*a)(e2:c*b'=d*b)(h:a*b<0):a'*b'<0:=by
 have h1:(c*c)*(a'*b')=(d*d)*(a*b):=O4
 have h2:=Hg hc
 have h3:=Hg hd
 rcases(show a'*b'<0∨0≤a'*b' by grind)with q | q
 ·exact q
 ·have h4:=Rat.mul_nonneg (a:=c*c) (b:=a'*b') O4 q
  have h5:=Rat.mul_pos (a:=d*d) (b:=-(a*b)) h3 O4
  grind
theorem Ycx{o1 o2 B1 B2:Rat}(h:o1*(B1*B1)*(o2*(B2*B2))<0):o1*o2<0:=by
 rcases(show o1*o2<0∨0≤o1*o2 by grind)with q | q
 ·exact q
 ·have h1:0≤B1*B2*(B1*B2):=by
   by_cases hz:B1*B2=0
   ·rw [hz];grind
   ·exact Rat.le_of_lt (Hg hz)
  have h2:=Rat.mul_nonneg q h1
  grind
theorem Zme{F n:Nat}{p o:List Int}(hp:Tr p)(h0:p≠[])(hs:Sz n p)(hn:n≤220)(hl:p.length≤11)(hF:p.length≤F+1)(ho:o=Ep F p.length (Yo p))(hot:Tr o)(o0:o≠[])(hC:Ct F o){a b:Rat}(hab:a<b)(h1:Gw p.length p a=1)(h2:Zf p b<0):Bv F o b<Bv F o a:=by
 have hD:=Dp.start hp h0
 have hokn:=(hD.ok hp h0 hs hn hl hF).2
 have hokp:Gr F p:=by unfold Gr at hokn ⊢;rwa [hD.2.2.1]at hokn
 obtain⟨⟨B,hB⟩,hE⟩:=Gf hp h0 hs hn hl hF p.length (Yo p) hD (by rw [Pd hp];exact Nat.le_refl _)
 rw [←ho]at hB hE
 rw [Fr hD.2.2.1]at hE
 obtain⟨-,hsq⟩:=Zq0 hp h0 hs hn hl hF hot o0 hC.1.2.2.1 hokp hE
 obtain⟨δ,d1,d2⟩:=Cu p.length p a (Nat.le_refl _)
 obtain⟨s,s1,s2,s3⟩:∃s,a<s∧s≤a+δ∧s<b:=by
  rcases(show a+δ<b∨b≤a+δ by grind)with q | q
  ·exact⟨a+δ,O4,O4,q⟩
  ·exact⟨(a+b)/2,O4,O4,O4⟩
 have hps:0<Zf p s:=by
  have:=d2 s s1 s2
  rw [h1]at this
  rcases Qv (Zf p s)with⟨h5,h6⟩ | ⟨h5,h6⟩ | ⟨h5,h6⟩
  ·exact h5
  ·rw [h6]at this;exact absurd this O3
  ·rw [h6]at this;exact absurd this O3
 have k1:Zf p s*Zf p b<0:=by have:=Rat.mul_pos (a:=Zf p s) (b:=-Zf p b) hps O4;grind
 obtain⟨c,d,hc,hd,e⟩:=Zeu ((Ko (Zr p)).trans (Xx hp):Sim (Yo p) p)
 have k2:Zf (Yo p) s*Zf (Yo p) b<0:=Ze9 (Pp hc) (Pp hd) (e s) (e b) k1
 rw [hB s,hB b]at k2
 have k3:=Ycx k2
 obtain⟨c',d',hc',hd',e'⟩:=Zeu ((Ko (Zr o)).trans (Xx hot):Sim (Yo o) o)
 have k4:Zf (Yo o) s*Zf (Yo o) b<0:=Ze9 (Pp hc') (Pp hd') (e' s) (e' b) k3
 rw [←hsq]at k4
 have m1:=Zis hot o0 hC (Rat.le_of_lt s1)
 rcases Int.lt_or_le (Bv F o b) (Bv F o s)with q | q
 ·exact Int.lt_of_lt_of_le q m1
 ·exfalso
  have hz:Zf (sqf F o) s≠0:=fun e9=>by rw [e9]at k4;grind
  have:=Zc3 hot o0 hC (Rat.le_of_lt s3) q hz b (Rat.le_of_lt s3) O4
  grind
theorem Zf1:∀(n:Nat) (p:List Int) (x:Rat),Tr p→p≠[]→p.length≤n→Gw n p x≠0
 | 0,p,x,_,h0,hl=>absurd (List.eq_nil_of_length_eq_zero O) h0
 | n+1,p,x,hp,h0,hl=>by
  unfold Gw
  by_cases h:Zf p x≠0
  ·rw [if_pos h]
   rcases Qv (Zf p x)with⟨h5,h6⟩ | ⟨h5,h6⟩ | ⟨h5,h6⟩
   ·rw [h6];decide
   ·rw [h6];decide
   ·exact absurd h5 h
  ·rw [if_neg h]
   have hz:Zf p x=0:=Classical.not_not.1 h
   have ld':=Pm p
   refine Zf1 n (Yj p) x (Oh hp) (fun e=>?_) O
   rw [e]at ld'
   have l0:=List.length_pos_iff.2 h0
   have hl1:p.length=1:=by simp at ld';omega
   match p,hl1 with
   | [c],_=>
    have hc:c≠0:=hp.mem O5
    rw [Ps]at hz
    exact Pp hc hz
theorem Zpo(n:Nat)(p:List Int)(x:Rat):-1≤Gw n p x∧Gw n p x≤1:=by
 induction n generalizing p with
 | zero=>show -1≤(0:Int)∧(0:Int)≤1;decide
 | succ n ih=>unfold Gw;split;exact Ybp _;exact ih _
def Bk(F:Nat)(o:List Int)(a b:Rat):Prop:=0<Bv F o a-Bv F o b-(if Zf o b=0 then 1 else 0)
theorem Yc8{F n:Nat}{p o:List Int}(hp:Tr p)(h0:p≠[])(hs:Sz n p)(hn:n≤220)(hl:p.length≤11)(hF:p.length≤F+1)(ho:o=Ep F p.length (Yo p))(hot:Tr o)(o0:o≠[])(hC:Ct F o){a b:Rat}(hab:a<b) :
  (Zf p a<0∨Zf p b<0∨Gw p.length p a<0∨Bk F o a b)↔(Gw p.length p a<0∨Bk F o a b):=by
 constructor
 ·rintro(h | h | h | h)
  ·left
   rw [Zuq p.length p a O4 (Nat.le_refl _),Zlz h];decide
  ·have r:=Zpo p.length p a
   have r0:=Zf1 p.length p a hp h0 (Nat.le_refl _)
   rcases(show Gw p.length p a<0∨Gw p.length p a=1 by omega)with h1 | h1
   ·exact .inl h1
   ·right
    have hv:=Zme hp h0 hs hn hl hF ho hot o0 hC hab h1 h
    have hD:=Dp.start hp h0
    obtain⟨⟨B,hB⟩,-⟩:=Gf hp h0 hs hn hl hF p.length (Yo p) hD (by rw [Pd hp];exact Nat.le_refl _)
    rw [←ho]at hB
    obtain⟨c,d,hc,hd,e⟩:=Zeu ((Ko (Zr p)).trans (Xx hp):Sim (Yo p) p)
    have hob:Zf o b≠0:=fun e9=>by
     have h5:(c:Rat)*Zf (Yo p) b=(d:Rat)*Zf p b:=e b
     rw [hB b,e9]at h5
     have h6:=Pp hd
     have h7:(d:Rat)*Zf p b=0:=by rw [←h5];grind
     rcases Rat.mul_eq_zero.1 h7 with q | q
     ·exact h6 q
     ·rw [q]at h;grind
    unfold Bk
    rw [if_neg hob]
    omega
  ·exact .inl h
  ·exact .inr h
 ·rintro(h | h)
  ·exact .inr (.inr (.inl h))
  ·exact .inr (.inr (.inr h))
theorem Zzp(p:List Int)(x:Rat)(h:Zf p x≠0):∃δ:Rat,0<δ∧∀y,x-δ≤y→y≤x→Gj (Zf p y)=Gj (Zf p x):=by
 obtain⟨L,l1,l2⟩:=Dg (x-1) x p
 have ha:0<(if 0<Zf p x then Zf p x else -Zf p x):=by split<;>grind
 obtain⟨δ,d1,d2,d3⟩:=Ij (show(0:Rat)<1 by decide) (show 0<L+1 by grind) (show 0<(if 0<Zf p x then Zf p x else -Zf p x)/2 by grind)
 refine⟨δ,d1,fun y h1 h2=>?_⟩
 have l:=l2 y x O4 O4 O4
 have b:=Rat.mul_nonneg (a:=L) (b:=δ-(x-y)) O4 O4
 have c:L*(x-y)≤δ*(L+1):=O4
 rcases Qv (Zf p x)with⟨h3,h4⟩ | ⟨h3,h4⟩ | ⟨h3,h4⟩
 ·rw [if_pos h3]at d3 ha;rw [h4];exact Zvg O4
 ·rw [if_neg O4]at d3 ha;rw [h4];exact Zlz O4
 ·exact absurd h3 h
theorem rsg_1{x:Rat}(h:Gj x=1):0<x:=by
 rcases Qv x with⟨h5,h6⟩ | ⟨h5,h6⟩ | ⟨h5,h6⟩
 ·exact h5
 ·rw [h6]at h;exact absurd h O3
 ·rw [h6]at h;exact absurd h O3
theorem Znf{x:Rat}(h:Gj x=-1):x<0:=by
 rcases Qv x with⟨h5,h6⟩ | ⟨h5,h6⟩ | ⟨h5,h6⟩
 ·rw [h6]at h;exact absurd h O3
 ·exact h5
 ·rw [h6]at h;exact absurd h O3
def Yaf(p:List Int)(a b:Rat):Prop:=∃x,a≤x∧x≤b∧Zf p x<0
theorem Yeb {xs:List Int} {F:Nat} (hx:Tr xs) (h0:xs≠[]) (hC:Ct F xs) {a b σ:Rat} (hσ:σ≠0) (hab:a<b)
  (hpos:∀x,a≤x→x<b→∃δ:Rat,0<δ∧∀y,x<y→y≤x+δ→y≤b→0<σ*Zf (sqf F xs) y) :
  Bv F xs a-Bv F xs b≤(if Zf (sqf F xs) b=0 then 1 else 0):=by
 obtain⟨h,h1,h2⟩:=Zks hx h0 hC a b
 have hge:∀x,a≤x→x<b→0≤σ*Zf (sqf F xs) x:=fun x ha hb=>by
  rcases(show 0≤σ*Zf (sqf F xs) x∨σ*Zf (sqf F xs) x<0 by grind)with q | q
  ·exact q
  ·exfalso
   have hz:Zf (sqf F xs) x≠0:=fun e=>by rw [e]at q;grind
   obtain⟨δ,d1,d2⟩:=hpos x ha hb
   obtain⟨ε,e1,e2⟩:=Zmf (sqf F xs) x hz
   obtain⟨y,y1,y2,y3,y4⟩:∃y,x<y∧y≤x+δ∧y≤x+ε∧y≤b:=by
    rcases(show δ≤ε∨ε≤δ by grind)with w | w
    ·rcases(show x+δ≤b∨b≤x+δ by grind)with v | v
     ·exact⟨x+δ,O4,O4,O4,v⟩
     ·exact⟨b,O4,O4,O4,O4⟩
    ·rcases(show x+ε≤b∨b≤x+ε by grind)with v | v
     ·exact⟨x+ε,O4,O4,O4,v⟩
     ·exact⟨b,O4,O4,O4,O4⟩
   have k1:=d2 y y1 y2 y4
   have k2:=e2 y y1 y3
   rcases Qv (Zf (sqf F xs) x)with⟨h5,h6⟩ | ⟨h5,h6⟩ | ⟨h5,h6⟩
   ·rw [h6]at k2
    have k3:=rsg_1 k2
    rcases(show σ<0∨0<σ by grind)with s | s
    ·have:=Rat.mul_pos (a:=-σ) (b:=Zf (sqf F xs) y) O4 k3;grind
    ·have:=Rat.mul_pos s h5;grind
   ·rw [h6]at k2
    have k3:=Znf k2
    rcases(show σ<0∨0<σ by grind)with s | s
    ·have:=Rat.mul_pos (a:=-σ) (b:=-Zf (sqf F xs) x) O4 O4;grind
    ·have:=Rat.mul_pos (a:=σ) (b:=-Zf (sqf F xs) y) s O4;grind
   ·exact hz h5
 have hgb:0≤σ*Zf (sqf F xs) b:=by
  rcases(show 0≤σ*Zf (sqf F xs) b∨σ*Zf (sqf F xs) b<0 by grind)with q | q
  ·exact q
  ·exfalso
   have hz:Zf (sqf F xs) b≠0:=fun e=>by rw [e]at q;grind
   obtain⟨ε,e1,e2⟩:=Zzp (sqf F xs) b hz
   obtain⟨y,y1,y2,y3⟩:∃y,a≤y∧y<b∧b-ε≤y:=by
    rcases(show a≤b-ε∨b-ε≤a by grind)with v | v
    ·exact⟨b-ε,v,O4,O4⟩
    ·exact⟨a,O4,hab,v⟩
   obtain⟨δ,d1,d2⟩:=hpos y y1 y2
   obtain⟨z,z1,z2,z3⟩:∃z,y<z∧z≤y+δ∧z≤b:=by
    rcases(show y+δ≤b∨b≤y+δ by grind)with v | v
    ·exact⟨y+δ,O4,O4,v⟩
    ·exact⟨b,y2,O4,O4⟩
   have k1:=d2 z z1 z2 z3
   have k2:=e2 z O4 z3
   rcases Qv (Zf (sqf F xs) b)with⟨h5,h6⟩ | ⟨h5,h6⟩ | ⟨h5,h6⟩
   ·rw [h6]at k2
    have k3:=rsg_1 k2
    rcases(show σ<0∨0<σ by grind)with s | s
    ·have:=Rat.mul_pos (a:=-σ) (b:=Zf (sqf F xs) z) O4 k3;grind
    ·have:=Rat.mul_pos s h5;grind
   ·rw [h6]at k2
    have k3:=Znf k2
    rcases(show σ<0∨0<σ by grind)with s | s
    ·have:=Rat.mul_pos (a:=-σ) (b:=-Zf (sqf F xs) b) O4 O4;grind
    ·have:=Rat.mul_pos (a:=σ) (b:=-Zf (sqf F xs) z) s O4;grind
   ·exact hz h5
 have hstep:∀u v,a≤u→u≤v→v≤b→v-u≤h/2→Bv F xs u-Bv F xs v≤(if v=b∧Zf (sqf F xs) b=0 then 1 else 0):=fun u v c1 c2 c3 c4=>by
  have e:=h2 u v c1 c2 c3 O4
  have e':Bv F xs u-Bv F xs v=crs (Zf (sqf F xs)) u v:=e
  rw [e']
  unfold crs
  by_cases hc:Zf (sqf F xs) u≠0∧Zf (sqf F xs) u*Zf (sqf F xs) v≤0
  ·rw [if_pos hc]
   have hub:u<b:=by
    rcases(show u<b∨u=b by grind)with q | q
    ·exact q
    ·exfalso
     have:v=u:=O4
     subst this
     have:=Hg hc.1;grind
   have g1:=hge u c1 hub
   have g2:0≤σ*Zf (sqf F xs) v:=by
    rcases(show v<b∨v=b by grind)with q | q
    ·exact hge v O4 q
    ·rw [q];exact hgb
   have hv0:Zf (sqf F xs) v=0:=by
    rcases(show Zf (sqf F xs) v=0∨Zf (sqf F xs) v≠0 by grind)with q | q
    ·exact q
    ·exfalso
     have m1:=Rat.mul_nonneg g1 g2
     have m2:=Hg hσ
     have m3:(σ*σ)*(Zf (sqf F xs) u*Zf (sqf F xs) v)≥0:=O4
     rcases(show Zf (sqf F xs) u*Zf (sqf F xs) v<0∨Zf (sqf F xs) u*Zf (sqf F xs) v=0 by grind)with w | w
     ·have:=Rat.mul_pos m2 (show 0 < -(Zf (sqf F xs) u*Zf (sqf F xs) v) by grind);grind
     ·rcases Rat.mul_eq_zero.1 w with z | z
      ·exact hc.1 z
      ·exact q z
   rcases(show v<b∨v=b by grind)with q | q
   ·exfalso
    obtain⟨δ,d1,d2⟩:=hpos v O4 q
    obtain⟨z,z1,z2,z3,z4⟩:∃z,v<z∧z≤v+δ∧z≤b∧z-v≤h/2:=by
     rcases(show δ≤h/2∨h/2≤δ by grind)with w | w
     ·rcases(show v+δ≤b∨b≤v+δ by grind)with t | t
      ·exact⟨v+δ,O4,O4,t,O4⟩
      ·exact⟨b,q,O4,O4,O4⟩
     ·rcases(show v+h/2≤b∨b≤v+h/2 by grind)with t | t
      ·exact⟨v+h/2,O4,O4,t,O4⟩
      ·exact⟨b,q,O4,O4,O4⟩
    have k1:=d2 z z1 z2 z3
    have a1:=h2 u z c1 O4 z3 O4
    have a2:=h2 v z O4 O4 z3 O4
    have r1:crs (Zf (sqf F xs)) u z=0:=by
     unfold crs
     rw [if_neg]
     rintro⟨w1,w2⟩
     have g3:0<σ*Zf (sqf F xs) u:=by
      rcases(show σ*Zf (sqf F xs) u=0∨0<σ*Zf (sqf F xs) u by grind)with t | t
      ·rcases Rat.mul_eq_zero.1 t with t | t
       ·exact absurd t hσ
       ·exact absurd t w1
      ·exact t
     have m1:=Rat.mul_pos g3 k1
     have m2:=Hg hσ
     have m3:0<(σ*σ)*(Zf (sqf F xs) u*Zf (sqf F xs) z):=O4
     have m4:=Rat.mul_nonneg (a:=σ*σ) (b:=-(Zf (sqf F xs) u*Zf (sqf F xs) z)) O4 O4
     grind
    have r2:crs (Zf (sqf F xs)) v z=0:=by unfold crs;rw [if_neg];rintro⟨w1,w2⟩;exact w1 hv0
    have r3:crs (Zf (sqf F xs)) u v=1:=by unfold crs;rw [if_pos hc]
    rw [r1]at a1;rw [r2]at a2;rw [r3]at e
    omega
   ·rw [q]at hv0
    rw [if_pos ⟨q,hv0⟩];decide
  ·rw [if_neg hc]
   split<;>decide
 have key:∀n:Nat,∀u,a≤u→u≤b→b-u≤(n:Rat)*(h/2)→Bv F xs u-Bv F xs b≤(if Zf (sqf F xs) b=0 then 1 else 0):=fun n=>by
  induction n with
  | zero=>
   intro u c1 c2 c3
   have:u=b:=by push_cast at c3;grind
   subst this
   rw [Int.sub_self]
   split<;>decide
  | succ n ih=>
   intro u c1 c2 c3
   push_cast at c3
   by_cases hy:b-u≤h/2
   ·have:=hstep u b c1 c2 O4 hy
    by_cases hz:Zf (sqf F xs) b=0
    ·rw [if_pos ⟨rfl,hz⟩]at this;rw [if_pos hz];exact this
    ·rw [if_neg (fun e=>hz e.2)]at this;rw [if_neg hz];exact this
   ·have i1:=ih (u+h/2) O4 O4 O4
    have i2:=hstep u (u+h/2) c1 O4 O4 O4
    rw [if_neg (fun e=>by have:=e.1;grind)]at i2
    generalize (if Zf (sqf F xs) b=0 then(1:Int)else 0)=t at *
    omega
 obtain⟨n,hn⟩:=Zf0 (b-a) (show 0<h/2 by grind)
 exact key n a O4 O4 hn
structure Odp (F n:Nat) (p o:List Int):Prop where
 tr:Tr p
 ne:p≠[]
 sz:Sz n p
 hn:n≤220
 hl:p.length≤11
 hF:p.length≤F+1
 eq:o=Ep F p.length (Yo p)
 otr:Tr o
 one:o≠[]
 ok:Ct F o
theorem Odp.sq{F n:Nat}{p o:List Int}(h:Odp F n p o):∃(c d:Int) (B:List Int),c≠0∧d≠0∧∀x:Rat,(d:Rat)*Zf p x=(c:Rat)*(Zf o x*(Zf B x*Zf B x)):=by
 have hD:=Dp.start h.tr h.ne
 obtain⟨⟨B,hB⟩,-⟩:=Gf h.tr h.ne h.sz h.hn h.hl h.hF p.length (Yo p) hD (by rw [Pd h.tr];exact Nat.le_refl _)
 rw [←h.eq]at hB
 obtain⟨c,d,hc,hd,e⟩:=Zeu ((Ko (Zr p)).trans (Xx h.tr):Sim (Yo p) p)
 exact⟨c,d,B,hc,hd,fun x=>by rw [←hB x];exact(e x).symm⟩
theorem Odp.sqf{F n:Nat}{p o:List Int}(h:Odp F n p o):Go.Sky.sqf F o=Yo o:=by
 have hD:=Dp.start h.tr h.ne
 have hokn:=(hD.ok h.tr h.ne h.sz h.hn h.hl h.hF).2
 have hokp:Gr F p:=by unfold Gr at hokn ⊢;rwa [hD.2.2.1]at hokn
 obtain⟨-,hE⟩:=Gf h.tr h.ne h.sz h.hn h.hl h.hF p.length (Yo p) hD (by rw [Pd h.tr];exact Nat.le_refl _)
 rw [←h.eq]at hE
 rw [Fr hD.2.2.1]at hE
 exact(Zq0 h.tr h.ne h.sz h.hn h.hl h.hF h.otr h.one h.ok.1.2.2.1 hokp hE).2
theorem Odp.srt{F n:Nat}{p o:List Int}(h:Odp F n p o):∃c d:Int,c≠0∧d≠0∧∀x:Rat,(c:Rat)*Zf (Go.Sky.sqf F o) x=(d:Rat)*Zf o x:=by
 rw [h.sqf]
 exact Zeu ((Ko (Zr o)).trans (Xx h.otr):Sim (Yo o) o)
theorem Odp.zero{F n:Nat}{p o:List Int}(h:Odp F n p o)(x:Rat):Zf (Go.Sky.sqf F o) x=0↔Zf o x=0:=by
 obtain⟨c,d,hc,hd,e⟩:=h.srt
 have e1:=e x
 constructor
 ·intro z;rw [z]at e1;rcases Rat.mul_eq_zero.1 (show(d:Rat)*Zf o x=0 by grind)with q | q
  ·exact absurd q (Pp hd)
  ·exact q
 ·intro z;rw [z]at e1;rcases Rat.mul_eq_zero.1 (show(c:Rat)*Zf (Go.Sky.sqf F o) x=0 by grind)with q | q
  ·exact absurd q (Pp hc)
  ·exact q
theorem Odp.nz{F n:Nat}{p o:List Int}(h:Odp F n p o){x:Rat}(hx:Zf p x≠0):Zf o x≠0:=fun z=>by
 obtain⟨c,d,B,hc,hd,e⟩:=h.sq
 have e1:=e x
 rw [z]at e1
 rcases Rat.mul_eq_zero.1 (show(d:Rat)*Zf p x=0 by grind)with q | q
 ·exact Pp hd q
 ·exact hx q
theorem Odp.opp{F n:Nat}{p o:List Int}(h:Odp F n p o){x y:Rat}(hxy:Zf p x*Zf p y<0):Zf o x*Zf o y<0∧Zf (Go.Sky.sqf F o) x*Zf (Go.Sky.sqf F o) y<0:=by
 obtain⟨c,d,B,hc,hd,e⟩:=h.sq
 have k1:(Zf o x*(Zf B x*Zf B x))*(Zf o y*(Zf B y*Zf B y))<0:=Ze9 (Pp hc) (Pp hd) (e x).symm (e y).symm hxy
 have k2:=Ycx k1
 obtain⟨c',d',hc',hd',e'⟩:=h.srt
 exact⟨k2,Ze9 (Pp hc') (Pp hd') (e' x) (e' y) k2⟩
theorem Odp.sem{F n:Nat}{p o:List Int}(h:Odp F n p o){a b:Rat}(hab:a<b):(Gw p.length p a<0∨Bk F o a b)↔Yaf p a b:=by
 have hsame:=Yc8 h.tr h.ne h.sz h.hn h.hl h.hF h.eq h.otr h.one h.ok hab
 constructor
 ·rintro(h1 | h1)
  ·obtain⟨δ,d1,d2⟩:=Cu p.length p a (Nat.le_refl _)
   have r:=Zpo p.length p a
   have hm:Gw p.length p a=-1:=O
   rcases(show a+δ≤b∨b≤a+δ by grind)with q | q
   ·exact⟨a+δ,O4,q,Znf (by rw [d2 (a+δ) O4 O4,hm])⟩
   ·exact⟨b,O4,O4,Znf (by rw [d2 b hab q,hm])⟩
  ·rcases Classical.em (Yaf p a b)with q | q
   ·exact q
   ·exfalso
    have hge:∀x,a≤x→x≤b→0≤Zf p x:=fun x u v=>by
     rcases(show 0≤Zf p x∨Zf p x<0 by grind)with w | w
     ·exact w
     ·exact absurd ⟨x,u,v,w⟩ q
    have haft:∀x,a≤x→x<b→∃δ:Rat,0<δ∧∀y,x<y→y≤x+δ→y≤b→0<Zf p y:=fun x u v=>by
     obtain⟨δ,d1,d2⟩:=Cu p.length p x (Nat.le_refl _)
     have r:=Zpo p.length p x
     have r0:=Zf1 p.length p x h.tr h.ne (Nat.le_refl _)
     refine⟨δ,d1,fun y c1 c2 c3=>?_⟩
     have s:=d2 y c1 c2
     rcases Qv (Zf p y)with⟨h5,h6⟩ | ⟨h5,h6⟩ | ⟨h5,h6⟩
     ·exact h5
     ·have:=hge y O4 c3;grind
     ·rw [h6]at s;exact absurd s.symm r0
    obtain⟨δ,d1,d2⟩:=haft a O4 hab
    obtain⟨z,z1,z2,z3⟩:∃z,a<z∧z≤a+δ∧z≤b:=by
     rcases(show a+δ≤b∨b≤a+δ by grind)with w | w
     ·exact⟨a+δ,O4,O4,w⟩
     ·exact⟨b,hab,w,O4⟩
    have hz:=d2 z z1 z2 z3
    have hσ:Zf (Go.Sky.sqf F o) z≠0:=fun e=>h.nz (x:=z) O4 ((h.zero z).1 e)
    have hf:=Yeb h.otr h.one h.ok (σ:=Zf (Go.Sky.sqf F o) z) hσ hab (fun x u v=>by
     obtain⟨ε,e1,e2⟩:=haft x u v
     refine⟨ε,e1,fun y c1 c2 c3=>?_⟩
     have hy:=e2 y c1 c2 c3
     have hyn:Zf (Go.Sky.sqf F o) y≠0:=fun e=>h.nz (x:=y) O4 ((h.zero y).1 e)
     rcases(show 0<Zf (Go.Sky.sqf F o) z*Zf (Go.Sky.sqf F o) y∨Zf (Go.Sky.sqf F o) z*Zf (Go.Sky.sqf F o) y<0∨Zf (Go.Sky.sqf F o) z*Zf (Go.Sky.sqf F o) y=0 by grind)with w | w | w
     ·exact w
     ·exfalso
      obtain⟨c,d,B,hc,hd,e⟩:=h.sq
      obtain⟨c',d',hc',hd',e'⟩:=h.srt
      have w1:Zf o z*Zf o y<0:=Ze9 (Pp hd') (Pp hc') (e' z).symm (e' y).symm w
      have p1:=Rat.mul_pos hz hy
      have q1:((d:Rat)*(d:Rat))*(Zf p z*Zf p y)=((c:Rat)*(c:Rat))*((Zf o z*Zf o y)*((Zf B z*Zf B y)*(Zf B z*Zf B y))):=by
       have a1:=e z
       have a2:=e y
       have:((d:Rat)*Zf p z)*((d:Rat)*Zf p y)=((c:Rat)*(Zf o z*(Zf B z*Zf B z)))*((c:Rat)*(Zf o y*(Zf B y*Zf B y))):=by rw [a1,a2]
       grind
      have q2:=Rat.mul_pos (Hg (Pp hd)) p1
      have q3:0≤(Zf B z*Zf B y)*(Zf B z*Zf B y):=by
       by_cases t:Zf B z*Zf B y=0
       ·rw [t];grind
       ·exact Rat.le_of_lt (Hg t)
      have q4:=Rat.mul_nonneg (Rat.le_of_lt (Hg (Pp hc))) (Rat.mul_nonneg (show 0≤-(Zf o z*Zf o y) by grind) q3)
      grind
     ·rcases Rat.mul_eq_zero.1 w with t | t
      ·exact absurd t hσ
      ·exact absurd t hyn)
    unfold Bk at h1
    by_cases hb0:Zf o b=0
    ·rw [if_pos hb0]at h1;rw [if_pos ((h.zero b).2 hb0)]at hf;omega
    ·rw [if_neg hb0]at h1;rw [if_neg (fun e=>hb0 ((h.zero b).1 e))]at hf;omega
 ·rintro⟨x,x1,x2,x3⟩
  rcases(show x=a∨x=b∨(a<x∧x<b) by grind)with q | q | ⟨q1,q2⟩
  ·subst q;exact hsame.1 (.inl x3)
  ·subst q;exact hsame.1 (.inr (.inl x3))
  ·have r:=Zpo p.length p a
   have r0:=Zf1 p.length p a h.tr h.ne (Nat.le_refl _)
   rcases(show Gw p.length p a<0∨Gw p.length p a=1 by omega)with h1 | h1
   ·exact .inl h1
   ·right
    have hv:=Zme h.tr h.ne h.sz h.hn h.hl h.hF h.eq h.otr h.one h.ok q1 h1 x3
    have m1:=Zis h.otr h.one h.ok (Rat.le_of_lt q2)
    unfold Bk
    by_cases hb0:Zf o b=0
    ·rw [if_pos hb0]
     have hx:Zf (Go.Sky.sqf F o) x≠0:=fun e=>h.nz (x:=x) O4 ((h.zero x).1 e)
     rcases Int.lt_or_le (Bv F o b) (Bv F o x)with w | w
     ·omega
     ·exfalso
      have:=Zc3 h.otr h.one h.ok (Rat.le_of_lt q2) w hx b (Rat.le_of_lt q2) O4
      rw [(h.zero b).2 hb0]at this
      grind
    ·rw [if_neg hb0];omega
theorem Zrn(g:Rat→Rat){h:Rat}(hh:0<h):∀(n:Nat) (u v:Rat),u<v→v-u≤(n:Rat)*h→g u*g v<0→∃x y,u≤x∧x<y∧y≤v∧y-x≤h∧g x≠0∧g x*g y≤0
 | 0,u,v,a,b,_=>by push_cast at b;grind
 | n+1,u,v,a,b,c=>by
  push_cast at b
  have hu:g u≠0:=fun e=>by rw [e]at c;grind
  by_cases hd:v-u≤h
  ·exact⟨u,v,O4,a,O4,hd,hu,O4⟩
  ·rcases(show g u*g (u+h)≤0∨0<g u*g (u+h) by grind)with q | q
   ·exact⟨u,u+h,O4,O4,O4,O4,hu,q⟩
   ·have hz:g (u+h)*g v<0:=by
     have s1:=Hg hu
     rcases(show g (u+h)*g v<0∨0≤g (u+h)*g v by grind)with w | w
     ·exact w
     ·have m1:=Rat.mul_pos q (show 0 < -(g u*g v) by grind)
      have m2:=Rat.mul_nonneg (Rat.le_of_lt s1) w
      grind
    obtain⟨x,y,i1,i2,i3,i4,i5,i6⟩:=Zrn g hh n (u+h) v O4 O4 hz
    exact⟨x,y,O4,i2,i3,i4,i5,i6⟩
theorem Zmd{a b c:Rat}(h:a*b<0)(h1:a-b≤c)(h2:b-a≤c):-c≤a∧a≤c:=by
 rcases(show 0<a∨a<0∨a=0 by grind)with q | q | q
 ·have:b<0:=by
   rcases(show b<0∨0≤b by grind)with w | w
   ·exact w
   ·have:=Rat.mul_nonneg (Rat.le_of_lt q) w;grind
  grind
 ·have:0<b:=by
   rcases(show 0<b∨b≤0 by grind)with w | w
   ·exact w
   ·have:=Rat.mul_nonneg (show 0≤-a by grind) (show 0≤-b by grind);grind
  grind
 ·rw [q]at h;grind
theorem Zrz{xs o:List Int}{F:Nat}(hx:Tr xs)(h0:xs≠[])(hC:Ct F xs)(ho:Tr o)(o0:o≠[])(hE:Ed o (sqf F xs)){u v:Rat}(huv:u<v)(hu:Zf (sqf F xs) u≠0)(h:Zf o u*Zf o v<0):Bv F xs v<Bv F xs u:=by
 rcases Int.lt_or_le (Bv F xs v) (Bv F xs u)with q | q
 ·exact q
 ·exfalso
  have hk:=Zc3 hx h0 hC (Rat.le_of_lt huv) q hu
  obtain⟨k,w,k0,hw⟩:=hE
  have hkr:=Pp k0
  have hcop:∀d,Tr d→Ed d o→Ed d (tzl w)→d.length≤1:=fun d hd e1 e2=>by
   obtain⟨k1,s1,c1,r1⟩:=e1
   obtain⟨k2,s2,c2,r2⟩:=e2
   refine Zet hx h0 hC.1.2.2.1 hd ⟨k*k1,Pa w s1,Int.mul_ne_zero k0 c1,fun x=>?_⟩ ⟨k*k1*k2,Mu ((Pa (ld w) s1).map fun a=>k2*a) ((Pa s2 (ld o)).map fun a=>k1*a),Int.mul_ne_zero (Int.mul_ne_zero k0 c1) c2,fun x=>?_⟩
   ·rw [Zu];have a1:=hw x;have a2:=r1 x;push_cast;grind
   ·rw [Xh,Zm,Zm,Zu,Zu,Lp]
    have a0:=Ec (p:=(sqf F xs).map fun a=>k*a) (q:=Pa w o) (fun y=>by rw [Zm,Zu];exact hw y) x
    rw [Bb,Dj]at a0
    have a2:=r1 x
    have a3:=r2 x
    rw [Mf]at a3
    push_cast
    have b1:(k:Rat)*k1*k2*Zf (ld (sqf F xs)) x=(k1:Rat)*k2*(Zf (ld w) x*Zf o x+Zf w x*Zf (ld o) x):=by rw [←a0];grind
    rw [b1]
    have b2:(k1:Rat)*k2*(Zf (ld w) x*Zf o x+Zf w x*Zf (ld o) x)=(k2:Rat)*(Zf (ld w) x*((k1:Rat)*Zf o x))+(k1:Rat)*(((k2:Rat)*Zf w x)*Zf (ld o) x):=O4
    rw [b2,a2,a3]
    grind
  obtain⟨ε,e1,e2⟩:=Zxi ho (Po w) o0 hcop u v
  obtain⟨L1,l1,l2⟩:=Dg u v o
  obtain⟨L2,m1,m2⟩:=Dg u v w
  obtain⟨h',d1,-,d3⟩:=Ij (show(0:Rat)<1 by decide) (show 0<L1+L2 by grind) (show 0<ε/2 by grind)
  obtain⟨n,hn⟩:=Zf0 (v-u) d1
  obtain⟨x,y,x1,x2,x3,x4,x5,x6⟩:=Zrn (Zf o) d1 n u v huv hn h
  have sx:=hk x x1 O4
  have sy:=hk y O4 x3
  have ox:=hw x
  have oy:=hw y
  have hy0:Zf o y≠0:=fun e=>by
   rw [e]at oy
   rcases Rat.mul_eq_zero.1 (show(k:Rat)*Zf (sqf F xs) y=0 by grind)with t | t
   ·exact hkr t
   ·rw [t]at sy;grind
  have hoo:Zf o x*Zf o y<0:=by
   rcases(show Zf o x*Zf o y<0∨Zf o x*Zf o y=0 by grind)with t | t
   ·exact t
   ·rcases Rat.mul_eq_zero.1 t with t | t
    ·exact absurd t x5
    ·exact absurd t hy0
  have sxy:0<Zf (sqf F xs) x*Zf (sqf F xs) y:=by
   have a1:=Rat.mul_pos sx sy
   have a2:=Hg hu
   rcases(show 0<Zf (sqf F xs) x*Zf (sqf F xs) y∨Zf (sqf F xs) x*Zf (sqf F xs) y≤0 by grind)with t | t
   ·exact t
   ·have:=Rat.mul_nonneg (Rat.le_of_lt a2) (show 0≤-(Zf (sqf F xs) x*Zf (sqf F xs) y) by grind);grind
  have hww:Zf w x*Zf w y<0:=by
   have a1:(k:Rat)*k*(Zf (sqf F xs) x*Zf (sqf F xs) y)=(Zf w x*Zf w y)*(Zf o x*Zf o y):=by
    have:((k:Rat)*Zf (sqf F xs) x)*((k:Rat)*Zf (sqf F xs) y)=(Zf w x*Zf o x)*(Zf w y*Zf o y):=by rw [ox,oy]
    grind
   have a2:=Rat.mul_pos (Hg hkr) sxy
   rcases(show Zf w x*Zf w y<0∨0≤Zf w x*Zf w y by grind)with t | t
   ·exact t
   ·have:=Rat.mul_nonneg t (show 0≤-(Zf o x*Zf o y) by grind);grind
  have c1:=l2 x y x1 O4 x3
  have c2:=m2 x y x1 O4 x3
  have n1:=Rat.mul_nonneg (a:=L1) (b:=h'-(y-x)) O4 O4
  have n2:=Rat.mul_nonneg (a:=L2) (b:=h'-(y-x)) O4 O4
  have n3:=Rat.mul_nonneg (a:=L1) (b:=h') O4 O4
  have n4:=Rat.mul_nonneg (a:=L2) (b:=h') O4 O4
  obtain⟨b1,b2⟩:=Zmd (c:=ε/2) hoo O4 O4
  obtain⟨b3,b4⟩:=Zmd (c:=ε/2) hww O4 O4
  rcases e2 x x1 O4 with t | t
  ·unfold Big at t;grind
  ·unfold Big at t;rw [Mf]at t;grind
theorem Zl1{xs:List Int}{F:Nat}(hx:Tr xs)(h0:xs≠[])(hC:Ct F xs){u v:Rat}(huv:u<v)(hu:Zf (sqf F xs) u≠0)(hv:Zf (sqf F xs) v=0):Bv F xs v<Bv F xs u:=by
 rcases Int.lt_or_le (Bv F xs v) (Bv F xs u)with q | q
 ·exact q
 ·exfalso
  have:=Zc3 hx h0 hC (Rat.le_of_lt huv) q hu v (Rat.le_of_lt huv) O4
  rw [hv]at this;grind
theorem Odp.ed{F n:Nat}{p o:List Int}(h:Odp F n p o):Ed o (Go.Sky.sqf F p):=by
 have hD:=Dp.start h.tr h.ne
 obtain⟨-,hE⟩:=Gf h.tr h.ne h.sz h.hn h.hl h.hF p.length (Yo p) hD (by rw [Pd h.tr];exact Nat.le_refl _)
 rw [←h.eq]at hE
 rwa [Fr hD.2.2.1]at hE
theorem Ya4{xs:List Int}{F:Nat}(hx:Tr xs)(h0:xs≠[])(hC:Ct F xs)(x:Rat):Zf xs x=0↔Zf (sqf F xs) x=0:=by
 constructor
 ·intro h
  have hd:(x.den:Int)≠0:=by exact_mod_cast x.den_nz
  have e:((x.num:Int):Rat)/((x.den:Int):Rat)=x:=by rw [←Rat.divInt_eq_div];exact Rat.num_divInt_den x
  have:=Ya6 hx h0 hC.1.2.2.1 hd (r:=x.num) (by rw [e];exact h)
  rwa [e]at this
 ·intro h
  obtain⟨g,hg⟩:=Ygn hx h0 hC.1.2.2.1
  rw [hg x,h];grind
theorem Yhc {F n:Nat} {p o:List Int} (h:Odp F n p o) (hC:Ct F p) {K:Nat} {e:Nat} (sep:∀u v:Rat,-(K:Rat)≤u→u≤v→v≤(K:Rat)→v-u≤1/((2^e:Nat):Rat)→Bv F p u-Bv F p v≤1)
  {s t:Rat} (h1:-(K:Rat)+1≤s) (h2:t≤(K:Rat)) (hs:0≤Zf p s) (ht:0≤Zf p t) (hn:Yaf p s t):1/((2^(e+1):Nat):Rat)<t-s:=by
 obtain⟨x,x1,x2,x3⟩:=hn
 have y1:s<x:=by rcases(show s<x∨s=x by grind)with q | q;exact q;subst q;grind
 have y2:x<t:=by rcases(show x<t∨x=t by grind)with q | q;exact q;subst q;grind
 obtain⟨f1,f2,f3,f4,f5,f6⟩:=Og (F:=F) h.tr h.ne hC.1.2.2.1
 have hx0:Zf (Go.Sky.sqf F p) x≠0:=fun z=>by have:=(Ya4 h.tr h.ne hC x).2 z;grind
 rcases(show 1/((2^(e+1):Nat):Rat)<t-s∨t-s≤1/((2^(e+1):Nat):Rat) by grind)with q | q
 ·exact q
 ·exfalso
  have hp:=two_pow_pos e
  have hp1:=two_pow_pos (e+1)
  have e2:((2^(e+1):Nat):Rat)=2*((2^e:Nat):Rat):=by rw [Nat.pow_succ];push_cast;grind
  have hi:0<((2^e:Nat):Rat)⁻¹:=Rat.inv_pos.2 hp
  have h2e:1/((2^(e+1):Nat):Rat)=((2^e:Nat):Rat)⁻¹/2:=by rw [e2];grind
  have h1e:1/((2^e:Nat):Rat)=((2^e:Nat):Rat)⁻¹:=O4
  have hle:((2^e:Nat):Rat)⁻¹≤1:=by
   have g1:(1:Rat)≤((2^e:Nat):Rat):=by have:1≤2^e:=Nat.two_pow_pos e;exact_mod_cast this
   have g2:=Rat.mul_nonneg (a:=((2^e:Nat):Rat)-1) (b:=((2^e:Nat):Rat)⁻¹) O4 O4
   have g3:((2^e:Nat):Rat)*((2^e:Nat):Rat)⁻¹=1:=Rat.mul_inv_cancel _ O4
   grind
  obtain⟨u,u1,u2,u3⟩:∃u,s-((2^e:Nat):Rat)⁻¹/2≤u∧u≤s∧Bv F p x<Bv F p u:=by
   by_cases z:Zf (Go.Sky.sqf F p) s=0
   ·obtain⟨δ,d1,d2⟩:=Cu (Go.Sky.sqf F p).length (Go.Sky.sqf F p) (s-((2^e:Nat):Rat)⁻¹/2) (Nat.le_refl _)
    have a0:=Zf1 (Go.Sky.sqf F p).length (Go.Sky.sqf F p) (s-((2^e:Nat):Rat)⁻¹/2) f2 f3 (Nat.le_refl _)
    obtain⟨u,w1,w2,w3⟩:∃u,s-((2^e:Nat):Rat)⁻¹/2<u∧u≤s-((2^e:Nat):Rat)⁻¹/2+δ∧u<s:=by
     rcases(show s-((2^e:Nat):Rat)⁻¹/2+δ<s∨s≤s-((2^e:Nat):Rat)⁻¹/2+δ by grind)with w | w
     ·exact⟨_,O4,Rat.le_refl,w⟩
     ·exact⟨s-((2^e:Nat):Rat)⁻¹/4,O4,O4,O4⟩
    have hu:Zf (Go.Sky.sqf F p) u≠0:=fun c=>by have:=d2 u w1 w2;rw [c]at this;exact a0 this.symm
    have m1:=Zl1 h.tr h.ne hC w3 hu z
    have m2:=Zis h.tr h.ne hC (Rat.le_of_lt y1)
    exact⟨u,O4,O4,O⟩
   ·have hp0:0<Zf p s:=by
     have:Zf p s≠0:=fun c=>z ((Ya4 h.tr h.ne hC s).1 c)
     grind
    have k:=h.opp (x:=s) (y:=x) (by have:=Rat.mul_pos hp0 (show 0 < -Zf p x by grind);grind)
    exact⟨s,O4,O4,Zrz h.tr h.ne hC h.otr h.one h.ed y1 z k.1⟩
  have u4:Bv F p t<Bv F p x:=by
   by_cases z:Zf (Go.Sky.sqf F p) t=0
   ·exact Zl1 h.tr h.ne hC y2 hx0 z
   ·have hp0:0<Zf p t:=by
     have:Zf p t≠0:=fun c=>z ((Ya4 h.tr h.ne hC t).1 c)
     grind
    have k:=h.opp (x:=x) (y:=t) (by have:=Rat.mul_pos hp0 (show 0 < -Zf p x by grind);grind)
    exact Zrz h.tr h.ne hC h.otr h.one h.ed y2 hx0 k.1
  have:=sep u t O4 O4 h2 O4
  omega
def Zbh(xs:List Int)(m:Nat):Prop:=xs.length=0∨(xs.length+2)*(xs.length+2)*(Xz xs+m+2*(xs.length-1)+32)≤65536
instance (xs:List Int) (m:Nat):Decidable (Zbh xs m):=by unfold Zbh;infer_instance
theorem sgf_t{xs:List Int}{m:Nat}(h:xs.length=0):Value.bool (decide (Zbh xs m))= .bool true:=congrArg Value.bool (decide_eq_true (.inl h))
theorem sgf_i{xs:List Int}{m:Nat}{n:Int}(h:xs.length≠0)(hn:n=(((xs.length+2)*(xs.length+2)*(Xz xs+m+2*(xs.length-1)+32):Nat):Int)):Value.bool (decide (Zbh xs m))= .bool (decide (n≤65536)):=congrArg Value.bool (decide_eq_decide.2 (by
 subst hn
 show(xs.length=0∨_≤65536)↔_
 constructor
 ·intro h1;rcases h1 with h1 | h1
  ·exact absurd h1 h
  ·exact Int.ofNat_le.2 h1
 ·intro h1;exact .inr (Int.ofNat_le.1 h1)))
def efit(z:R2):Bool:=decide (max (bl z.1.natAbs) (bl z.2.natAbs)≤512)
def Zhv:List Int→Int
 | []=>0
 | x :: r=>if x=0 then Zhv r else x
theorem Zrq{s:Int}(h:s≠0):∀{L:List Int} {i:Nat},i<L.length→(∀k,k<i→L.getD k 0=0)→L.getD i 0=s→Zhv L=s
 | [],i,hi,_,_=>absurd hi O5
 | x :: r,0,_,_,hs=>by have e:x=s:=hs;subst e;unfold Zhv;rw [if_neg h]
 | x :: r,i+1,hi,hz,hs=>by
  have e:x=0:=hz 0 O
  unfold Zhv;rw [if_pos e]
  exact Zrq h (L:=r) (i:=i) (by simpa using hi) (fun k hk=>hz (k+1) O) hs
theorem Zmp:∀{L:List Int},(∀k,k<L.length→L.getD k 0=0)→Zhv L=0
 | [],_=>rfl
 | x :: r,hz=>by
  have e:x=0:=hz 0 O5
  unfold Zhv;rw [if_pos e]
  exact Zmp fun k hk=>hz (k+1) (by simpa using hk)
def aft(Ls:List (List Int))(m:R2):Int:=Zhv (Ls.map (Fu m.1 m.2))
def vlu(Ls:List (List Int))(m:R2):Int:=if Ls.length=0 then 0 else Fu m.1 m.2 (Ls.getD 0 [])
def chv(Ls:List (List Int))(m:R2):Int:=chg (Ls.map (Fu m.1 m.2))
def crb(Ls:List (List Int))(a b:R2):Bool:=if Ls.length=0 then false else decide (0<chv Ls a-chv Ls b-if Fu b.1 b.2 (Ls.getD 0 [])=0 then 1 else 0)
def cmp(a b:R2):Int:=(a.1*b.2-b.1*a.2).sign
def ngb(ds cs:List (List Int))(a b:R2):Bool:=if cmp a b=0 then decide (vlu ds a<0)else(decide (aft ds a<0) || crb cs a b)
theorem Zya(ls:List (SL×List Int))(x y:Int):aft (ls.map Prod.snd) (x,y)=Zhv (sgx ls (Fu x y)):=by unfold aft;rw [Zu8 rfl]
theorem Yis(ls:List (SL×List Int))(x y:Int):chv (ls.map Prod.snd) (x,y)=chg (sgx ls (Fu x y)):=by unfold chv;rw [Zu8 rfl]
theorem Zf9(ls:List (SL×List Int)){i:Nat}(h:i<ls.length):(ls.map Prod.snd).getD i []=(ls.getD i Z0).2:=by
 rw [List.getD_eq_getElem?_getD,List.getD_eq_getElem?_getD,List.getElem?_map,List.getElem?_eq_getElem h];rfl
theorem Zxr(Ls:List (List Int))(m:R2):0≤chv Ls m∧chv Ls m≤(Ls.length:Int):=by
 have:=Ar (Ls.map (Fu m.1 m.2));rw [List.length_map]at this;exact this
theorem Zqh{x:Rat}(h:Gj x=0):x=0:=by
 rcases Qv x with⟨h5,h6⟩ | ⟨h5,h6⟩ | ⟨h5,h6⟩
 ·rw [h6]at h;exact absurd h O3
 ·rw [h6]at h;exact absurd h O3
 ·exact h5
theorem sgm_i{x l:Int}(hx:-1≤x∧x≤1)(hl:-1≤l∧l≤1):Pr (x*l):=by
 rcases(show x=-1∨x=0∨x=1 by omega)with h | h | h<;>subst h
 ·exact⟨O,O⟩
 ·exact⟨O,O⟩
 ·exact⟨O,O⟩
theorem Zva{x l:Int}(hx:-1≤x∧x≤1)(hl:-1≤l∧l≤1)(h:x*l<0):x=-l:=by
 rcases(show x=-1∨x=0∨x=1 by omega)with h | h | h<;>subst h<;>omega
theorem Zu9{x l:Int}(hx:-1≤x∧x≤1)(hl:-1≤l∧l≤1)(h:¬x*l<0)(h0:x≠0):¬x=-l:=by
 rcases(show x=-1∨x=0∨x=1 by omega)with h | h | h<;>subst h<;>omega
theorem Zvb{x l:Int}(h:x=0):¬x*l<0:=by subst h;omega
theorem crb_t{cs:List (SL×List Int)}{x y x2 y2:Int}(h:cs.length≠0)(h0:Fu x2 y2 (cs.getD 0 Z0).2=0):Value.bool (crb (cs.map Prod.snd) (x,y) (x2,y2))= .bool (decide (0<chv (cs.map Prod.snd) (x,y)-chv (cs.map Prod.snd) (x2,y2)-1)):=by
 unfold crb;rw [List.length_map,if_neg h,Zf9 _ O,if_pos h0]
theorem crb_f{cs:List (SL×List Int)}{x y x2 y2:Int}(h:cs.length≠0)(h0:¬Fu x2 y2 (cs.getD 0 Z0).2=0):Value.bool (crb (cs.map Prod.snd) (x,y) (x2,y2))= .bool (decide (0<chv (cs.map Prod.snd) (x,y)-chv (cs.map Prod.snd) (x2,y2))):=by
 unfold crb;rw [List.length_map,if_neg h,Zf9 _ O,if_neg h0,Int.sub_zero]
theorem ngb_t{ds cs:List (List Int)}{a b:R2}(h:¬cmp a b=0)(h0:aft ds a<0):Value.bool (ngb ds cs a b)= .bool true:=by
 unfold ngb;rw [if_neg h,decide_eq_true h0];rfl
theorem ngb_f{ds cs:List (List Int)}{a b:R2}(h:¬cmp a b=0)(h0:¬aft ds a<0):Value.bool (ngb ds cs a b)= .bool (crb cs a b):=by
 unfold ngb;rw [if_neg h,decide_eq_false h0];rfl
def Zec:Nat→List Int→List (List Int)
 | 0,_=>[]
 | n+1,p=>if p.length=0 then []else p :: Zec n (Yj p)
theorem Zr3{m:R2}(hm:0<m.2):∀(n:Nat) (p:List Int),p.length≤n→aft (Zec n p) m=Gw n p (qv m)
 | 0,p,hl=>rfl
 | n+1,p,hl=>by
  unfold Zec
  by_cases h0:p.length=0
  ·rw [if_pos h0]
   have:p=[]:=List.eq_nil_of_length_eq_zero h0
   subst this
   have hz:∀n,Gw n [] (qv m)=0:=fun n=>by
    induction n with
    | zero=>rfl
    | succ n ih=>unfold Gw;rw [if_neg (by show ¬(0:Rat)≠0;simp)];exact ih
   rw [hz];rfl
  ·rw [if_neg h0]
   have ld':=Pm p
   have ih:=Zr3 hm n (Yj p) O
   unfold aft at ih ⊢
   rw [List.map_cons]
   unfold Zhv Gw
   have hf:Fu m.1 m.2 p=Gj (Zf p (qv m)):=Zc6 hm p
   rw [hf]
   by_cases hz:Zf p (qv m)=0
   ·rw [if_pos (Zqi hz),if_neg (by simpa using hz)];exact ih
   ·rw [if_neg (fun e=>hz (Zqh e)),if_pos hz]
structure Cvd (xs:List Int):Prop where
 v:Vp xs
 s:Sz 185 xs
 l:xs.length≤9
theorem Zfq{xs r:List Int}(h:Cvd xs)(h0:xs≠[])(hr:Dp xs r):Sz 315 r∧r.length≤9:=by
 obtain⟨s1,s2⟩:=hr.sz h.v.tr h0 h.s (by have:=h.l;omega)
 exact⟨s1,by have:=h.l;omega⟩
theorem Zcq{xs r:List Int}(h:Cvd xs)(h0:xs≠[])(hr:Dp xs r) :
  Vp r∧r≠[]∧(∀i,bl (cf r (i+1)*((i:Int)+1)).natAbs≤65536)∧Vp (Yj r)∧¬Zmn r (Yj r)∧eok 13 (gA r (Yj r)) (gB r (Yj r))∧Ou 13 r (Yj r)=Pt 13 r∧Vp (Pt 13 r)∧
  Dq r (Pt 13 r)=0∧pdv r (Pt 13 r)∧Mq r (Pt 13 r)=sqf 13 r∧Vp (sqf 13 r)∧Sz 445 (sqf 13 r)∧(sqf 13 r).length≤9∧Dp xs (Pt 13 r)∧sqf 13 r≠[]∧((sqf 13 r).length≠1→(Pt 13 r).length<r.length)∧Gr 13 r:=by
 obtain⟨s1,s2⟩:=Zfq h h0 hr
 have hv:Vp r:=⟨s1.mono O,hr.1,O⟩
 have hok:=hr.ok h.v.tr h0 h.s O (by have:=h.l;omega) (show xs.length≤13+1 by have:=h.l;omega)
 obtain⟨⟨q1,q2,q3,q4,q5⟩,-,-⟩:=hok.1
 have hn:=hr.2.2.1
 have hs9:=(chG 13 hr.1 hr.2.1 s1 O O O).2.1
 have hl9:=(chG 13 hr.1 hr.2.1 s1 O O O).2.2.1
 have hvs:=Zip hv hr.2.1 hok.1.1
 have hg:Pt 13 r=Ou 13 r (Yj r):=by unfold Pt;rw [hn]
 have hd:=hr.next hok.2
 have hvg:Vp (Pt 13 r):=by obtain⟨t1,t2⟩:=Zfq h h0 hd;exact⟨t1.mono O,hd.1,O⟩
 have hsq:sqf 13 r=Mq r (Pt 13 r):=by unfold sqf Pt;rw [hn]
 obtain⟨f1,f2,f3,f4,f5,f6⟩:=Og (F:=13) hr.1 hr.2.1 hok.2
 have hq1:∀i,bl (cf r (i+1)*((i:Int)+1)).natAbs≤65536:=fun i=>by
  by_cases hi:i<r.length
  ·have:=q1 i hi;rwa [hn]at this
  ·rw [Yd O];simp [Lr]
 rw [hn]at q2 q3 q4 q5
 rw [←hg]at q4 q5
 refine⟨hv,hr.2.1,hq1,Zek hv (fun i _=>hq1 i),q2,q3,hg.symm,hvg,q4,q5,hsq.symm,hvs,hs9,O,hd,f3,fun hne=>?_,hok.2⟩
 refine Zkf hr.1 hr.2.1 hok.2 ?_
 have:=Qx hr.1 hr.2.1 hok.2
 have l1:=List.length_pos_iff.2 f3
 have l2:=List.length_pos_iff.2 this.2.1
 omega
def Mr(xs:List Int):List Int:=Zn2 13 xs.length [1] (Yo xs)
structure OddI (xs:List Int) (t:Nat) (rest out before:List Int):Prop where
 ex:∃f q,Dp xs q∧q.length≤f∧Zn2 13 f out q=Mr xs∧Tr out∧Op xs out q∧((t%2=1∧rest=q)∨(t%2=0∧rest=Pt 13 q∧before=sqf 13 q∧(sqf 13 q).length≠1))
theorem OddI.start{xs b:List Int}(h:Cvd xs)(h0:xs≠[]):OddI xs 1 (Yo xs) [1] b:=
 ⟨xs.length,Yo xs,Dp.start h.v.tr h0,by rw [Pd h.v.tr];exact Nat.le_refl _,rfl,.inr O3,Op.start h.v.tr,.inl ⟨rfl,rfl⟩⟩
theorem OddI.dp{xs:List Int}{t:Nat}{rest out before:List Int}(h:Cvd xs)(h0:xs≠[])(hI:OddI xs t rest out before):Dp xs rest:=by
 obtain⟨f,q,h1,h2,h3,h4,h5,h6 | ⟨-,rfl,-⟩⟩:=hI.ex
 ·rw [h6.2];exact h1
 ·exact(Zcq h h0 h1).2.2.2.2.2.2.2.2.2.2.2.2.2.2.1
theorem OddI.out{xs:List Int}{t:Nat}{rest out before:List Int}(h:Cvd xs)(h0:xs≠[])(hI:OddI xs t rest out before):Vp out∧Sz 315 out∧out.length≤9:=by
 obtain⟨f,q,h1,h2,h3,h4,h5,-⟩:=hI.ex
 obtain⟨s1,s2,s3⟩:=h5.sz h.v.tr h0 h.s (by have:=h.l;omega) h4 h1.1
 have:=h.l
 exact⟨⟨s1.mono O,h4,O⟩,s1,O⟩
theorem OddI.odd_end{xs:List Int}{t:Nat}{rest out before:List Int}(h:Cvd xs)(h0:xs≠[])(hI:OddI xs t rest out before)(ht:t%2=1)(hl:(sqf 13 rest).length=1):out=Mr xs:=by
 obtain⟨f,q,h1,h2,h3,h4,h5,⟨-,rfl⟩ | ⟨h7,-⟩⟩:=hI.ex
 ·cases f with
  | zero=>exact absurd (List.length_pos_iff.2 h1.2.1) O
  | succ f=>unfold Zn2 at h3;rw [if_pos hl]at h3;exact h3
 ·omega
theorem OddI.odd_next{xs:List Int}{t:Nat}{rest out before:List Int}(hI:OddI xs t rest out before)(ht:t%2=1)(hl:(sqf 13 rest).length≠1):OddI xs (t+1) (Pt 13 rest) out (sqf 13 rest):=by
 obtain⟨f,q,h1,h2,h3,h4,h5,⟨-,rfl⟩ | ⟨h7,-⟩⟩:=hI.ex
 ·exact⟨f,rest,h1,h2,h3,h4,h5,.inr ⟨O,rfl,rfl,hl⟩⟩
 ·omega
theorem OddI.even{xs:List Int}{t:Nat}{rest out before:List Int}(h:Cvd xs)(h0:xs≠[])(hI:OddI xs t rest out before)(ht:t%2=0) :
  Vp before∧Dq before (sqf 13 rest)=0∧pdv before (sqf 13 rest)∧Vp (Mq before (sqf 13 rest))∧¬Zat out (Mq before (sqf 13 rest))∧
  ((sqf 13 rest).length=1→Xr out (Mq before (sqf 13 rest))=Mr xs)∧((sqf 13 rest).length≠1→OddI xs (t+1) (Pt 13 rest) (Xr out (Mq before (sqf 13 rest))) (sqf 13 rest))∧Vp (Xr out (Mq before (sqf 13 rest))):=by
 obtain⟨f,q,h1,h2,h3,h4,h5,⟨h7,-⟩ | ⟨-,rfl,rfl,hq⟩⟩:=hI.ex
 ·omega
 obtain⟨a1,a2,a3,a4,a5,a6,a7,a8,a9,a10,a11,a12,a13,a14,a15,a16,a17,a18⟩:=Zcq h h0 h1
 obtain⟨b1,b2,b3,b4,b5,b6,b7,b8,b9,b10,b11,b12,b13,b14,b15,b16,b17,b18⟩:=Zcq h h0 a15
 obtain⟨c1,c2,c3,c4⟩:=Eg h1.1 h1.2.1 a18 b18
 have hO:=h5.next h1.1 h1.2.1 h1.2.2.1 a18 b18
 have ho:=h.l
 obtain⟨s1,s2,s3⟩:=hO.sz h.v.tr h0 h.s O (Qd _ _) b15.1
 obtain⟨o1,o2,o3⟩:=h5.sz h.v.tr h0 h.s O h4 h1.1
 have hol:(Eu 13 q).length≤9:=by
  have e:=congrArg List.length c2
  rw [Pn c3 b12.tr c4 b16]at e
  have:=List.length_pos_iff.2 b16
  omega
 have hos:Sz 450 (Eu 13 q):=by
  obtain⟨a,ha,e⟩:=hO
  have e2:Yo xs=Xr (Xr (Xr a (Pt 13 (Pt 13 q))) out) (Eu 13 q):=e.trans ((Qd _ _).ext (Qd _ _) fun i=>Nw (fun x=>by simp only [Yb];grind) i)
  exact(Zty h.v.tr h0 h.s O (Qd _ _) c3 e2).1.mono O
 have hd:Dq (sqf 13 q) (sqf 13 (Pt 13 q))=0:=by
  have m1:=Qp a13
  have m2:=Qp b13
  have l1:=List.length_pos_iff.2 b16
  unfold Dq
  rw [if_neg O]
  split
  ·rfl
  ·have:((sqf 13 q).length-(sqf 13 (Pt 13 q)).length+1)*(Xz (sqf 13 (Pt 13 q))+1)≤10*446:=Nat.mul_le_mul O O
   rw [if_neg O]
 have hvo:Vp (Eu 13 q):=⟨hos.mono O,c3,O⟩
 have hm:¬Zat out (Eu 13 q):=fun hF=>by
  have m1:=Qp o1
  have m2:=Qp hos
  rcases hF.2.2 with w | w<;>omega
 refine⟨a12,hd,c1,hvo,hm,fun hl=>?_,fun hl=>?_,⟨s1.mono O,Qd _ _,Nat.le_trans s2 O⟩⟩
 ·cases f with
  | zero=>exact absurd (List.length_pos_iff.2 h1.2.1) O
  | succ f=>unfold Zn2 at h3;rw [if_neg hq,if_pos hl]at h3;exact h3
 ·cases f with
  | zero=>exact absurd (List.length_pos_iff.2 h1.2.1) O
  | succ f=>
   unfold Zn2 at h3;rw [if_neg hq,if_neg hl]at h3
   have l1:=a17 hq
   have l2:=b17 hl
   exact⟨f,Pt 13 (Pt 13 q),b15,O,h3,Qd _ _,hO,.inl ⟨O,rfl⟩⟩
end Go.Sky

