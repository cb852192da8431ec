/- Rules, arithmetic and contracts: part 7. No conditions but those that each theorem names. -/
import Derived.Test.YtljmhpopdmadkaaGreatLw05
set_option linter.all false
namespace Go.Sky
theorem Sqn.mem{P:R2→R2→Prop}{hi:Rat} : ∀{lo:Rat} {l:List (R2×R2)},Sqn P hi lo l→∀c∈l,P c.1 c.2
 | _,[],_,c,hc=>by cases hc
 | lo,d :: r,h,c,hc=>by
  rcases List.mem_cons.1 hc with rfl | hc
  ·exact h.2.2.1
  ·exact Sqn.mem h.2.2.2 c hc
theorem en_bl{K Q d B:Nat}{z:R2}(h:En K Q d z)(hQ:0<Q)(h1:Q*2^d<2^B)(h2:K*(Q*2^d)<2^B):bl z.1.natAbs≤B∧bl z.2.natAbs≤B:=by
 obtain⟨hp,hd,hl,hu⟩:=h
 have hpos:0<Q*2^d:=Nat.mul_pos hQ (Nat.pow_pos O3)
 have hz2:z.2.natAbs≤Q*2^d:=by
  have:=Int.natAbs_dvd_natAbs.2 hd
  rw [Int.natAbs_natCast]at this
  exact Nat.le_of_dvd hpos this
 have hz1:z.1.natAbs≤K*z.2.natAbs:=by
  have r:=Iv hp
  have e:(z.1:Rat)=qv z*z.2:=by unfold qv;grind
  have t1:=Rat.mul_nonneg (a:=(K:Rat)-qv z) (b:=(z.2:Rat)) O4 O4
  have t2:=Rat.mul_nonneg (a:=(K:Rat)+qv z) (b:=(z.2:Rat)) O4 O4
  have hn:((K*z.2.natAbs:Nat):Int)=(K:Int)*z.2:=by push_cast;rw [Int.natAbs_of_nonneg O]
  have u1:((z.1:Int):Rat)≤(((K:Int)*z.2:Int):Rat):=by push_cast;grind
  have u2:((-((K:Int)*z.2):Int):Rat)≤((z.1:Int):Rat):=by push_cast;grind
  have v1:z.1≤(K:Int)*z.2:=by exact_mod_cast u1
  have v2:-((K:Int)*z.2)≤z.1:=by exact_mod_cast u2
  omega
 have hz3:K*z.2.natAbs≤K*(Q*2^d):=Nat.mul_le_mul_left _ hz2
 exact⟨Zb3 O,Zb3 O⟩
theorem Ye4{n e w Q B:Nat}{z:R2}(h:En (2^n) Q (e+w) z)(hQ:0<Q)(hQ1:Q<2^(2*n))(hB:3*n+1+(e+w)≤B):bl z.1.natAbs≤B∧bl z.2.natAbs≤B:=by
 have hpow:∀m,m≤B→2^m≤2^B:=fun m h=>Nat.pow_le_pow_right O3 h
 have hPP:0<2^(e+w):=Nat.pow_pos O3
 have h1:Q*2^(e+w)<2^(2*n)*2^(e+w):=Nat.mul_lt_mul_of_pos_right hQ1 hPP
 have h2:2^n*(Q*2^(e+w))<2^n*(2^(2*n)*2^(e+w)):=Nat.mul_lt_mul_of_pos_left h1 (Nat.pow_pos O3)
 have e1:2^(2*n)*2^(e+w)=2^(2*n+(e+w)):=(Nat.pow_add _ _ _).symm
 have e2:2^n*(2^(2*n)*2^(e+w))=2^(n+(2*n+(e+w))):=by rw [e1,←Nat.pow_add]
 rw [e1]at h1
 rw [e2]at h2
 exact en_bl h hQ (Nat.lt_of_lt_of_le h1 (hpow _ O)) (Nat.lt_of_lt_of_le h2 (hpow _ O))
theorem Ed.const{g a:List Int}(h:Ed g a)(hg:Tr g)(ha:Tr a)(h0:a≠[])(hl:g.length=a.length):∃k c:Int,k≠0∧c≠0∧∀x:Rat,(k:Rat)*Zb a x=(c:Rat)*Zb g x:=by
 obtain⟨k,s,hk,h⟩:=h
 obtain⟨a1,a2,a3⟩:=Zui hk hg ha h0 h
 have hl1:=List.length_pos_iff.2 a2
 match hs:tzl s,hl1,a3 with
 | [c],_,_=>
  have hc:c≠0:=by have:=(Qm s).mem a2;rw [hs]at this;exact this
  refine⟨k,c,hk,hc,fun x=>?_⟩
  rw [h x,←Ng s,hs,Qj]
 | c :: d :: r,_,h9=>simp at h9;omega
theorem Az(p:List Int)(c:Int)(x:Rat):Zb (Yb p c) x=(c:Rat)*Zb p x:=by
 rw [←Zg];exact Pr x _ _ fun i=>by rw [Yy,Xr,Int.mul_comm]
theorem Zl8{p:List Int}{c:Int}(hp:Tr p)(h0:p≠[])(hc:c≠0):Yb p c≠[]:=fun e=>by
 have h1:=Yy p c (p.length-1)
 rw [e,Zar]at h1
 exact Int.mul_ne_zero (hp.mem h0) hc h1.symm
theorem Ed.dv{g a:List Int}(h:Ed g a):Dv g a:=by
 obtain⟨k,s,hk,h⟩:=h
 refine⟨k,s,hk,fun t=>?_⟩
 have:=Od (p:=a.map fun c=>k*c) (q:=Xm s g) (fun x=>by rw [Zg,Zv];exact h x) t
 rw [Xr,Kv]at this
 exact this
theorem ed_cop{t u w s:List Int}{k:Int}(hk:k≠0)(ht:Tr t)(hw:Tr w)(t0:t≠[])(hc:∀d,Tr d→Ed d t→Ed d w→d.length≤1)(h:∀x:Rat,(k:Rat)*(Zb u x*Zb w x)=Zb s x*Zb t x):Ed t u:=by
 obtain⟨g,A,B,hg,g1,g2,hb⟩:=Zk1 w.length t w ht hw (Nat.le_refl _)
 have hl:=hc g hg g1 g2
 have hgn:=(g1.len hg ht t0).1
 match hgg:g,hl,hgn with
 | [c],_,_=>
  have hc0:c≠0:=by have:=hg.mem O5;exact this
  refine⟨k*c,Nj ((Xm A u).map fun a=>k*a) (Xm B s),Int.mul_ne_zero hk hc0,fun x=>?_⟩
  rw [Yw,Zg,Zv,Zv]
  have h1:=hb x
  rw [Qj]at h1
  have h2:=h x
  push_cast
  rw [show(k:Rat)*c*Zb u x=k*(Zb u x*(c:Rat)) by grind,h1]
  have h3:(k:Rat)*(Zb u x*(Zb A x*Zb t x+Zb B x*Zb w x))=k*Zb A x*Zb u x*Zb t x+Zb B x*(k*(Zb u x*Zb w x)):=O4
  rw [h3,h2];grind
 | c :: d :: r,h9,_=>simp at h9
def Pd(F:Nat)(p:List Int):List Int:=Nr F (Yt p) (Yo (Yt p))
def Fa(F:Nat)(p:List Int):Prop:=eok F (gA (Yt p) (Yo (Yt p))) (gB (Yt p) (Yo (Yt p)))
theorem Qb{F:Nat}{p:List Int}(hp:Tr p)(h0:p≠[])(hok:Fa F p):Tr (Pd F p)∧Pd F p≠[]∧Yt (Pd F p)=Pd F p∧Yt p=Xm (sqf F p) (Pd F p)∧(sqf F p).length+(Pd F p).length=p.length+1:=by
 obtain⟨f1,f2,f3,f4,f5,f6⟩:=Pu (F:=F) hp h0 hok
 have ht:Tr (Yt p):=Ob (Yq hp)
 have hd:Tr (Yo (Yt p)):=Oq ht
 have hg:=Zee (F:=F) ht hd
 have hl:=Pg f2 hg f3 f5
 rw [←f4,Qr hp]at hl
 have l1:=List.length_pos_iff.2 f3
 have l2:=List.length_pos_iff.2 f5
 refine⟨hg,f5,Zto hg (Zjk ht hd f5) (Ck (Zro F (Zim ht hd) (Zil ht hd)) (fun e=>f5 (by unfold Nr;rw [e];rfl))),f4,?_⟩
 unfold Pd;omega
theorem Yht{a b h:List Int}(hh:Tr h)(h0:h≠[]){k m:Int}(e:∀x:Rat,(k:Rat)*(Zb a x*Zb h x)=(m:Rat)*(Zb b x*Zb h x))(x:Rat):(k:Rat)*Zb a x=(m:Rat)*Zb b x:=by
 have hz:=Gw (v:=h) (f:=Nj (a.map fun c=>k*c) (b.map fun c=>(-m)*c)) (by rw [Aq hh];exact h0) (fun x=>by
  rw [Yw,Zg,Zg];have:=e x;push_cast;grind) x
 rw [Yw,Zg,Zg]at hz
 push_cast at hz;grind
theorem Zwf{F:Nat}{p:List Int}(hp:Tr p)(h0:p≠[])(hok:Fa F p)(hok2:Fa F (Pd F p)):Ed (sqf F (Pd F p)) (sqf F p):=by
 obtain⟨a1,a2,a3,a4,a5⟩:=Qb hp h0 hok
 obtain⟨b1,b2,b3,b4,b5⟩:=Qb a1 a2 hok2
 obtain⟨-,u2,u3,-,-,-⟩:=Pu (F:=F) hp h0 hok
 obtain⟨-,t2,t3,-,-,-⟩:=Pu (F:=F) a1 a2 hok2
 have ht:Tr (Yt p):=Ob (Yq hp)
 have e1:Ed (Pd F p) (Yo (Yt p)):=(Zci ht (Oq ht) hok).2.ed
 have e2:Ed (Pd F (Pd F p)) (Yo (Pd F p)):=by
  have:=(Zci (F:=F) (p:=Yt (Pd F p)) (q:=Yo (Yt (Pd F p))) (by rw [a3];exact a1) (Oq (by rw [a3];exact a1)) hok2).2.ed
  have h9:Pd F (Pd F p)=Nr F (Yt (Pd F p)) (Yo (Yt (Pd F p))):=rfl
  rw [←h9,a3]at this
  exact this
 have hgr:∀d,Tr d→Ed d (Pd F p)→Ed d (Yo (Pd F p))→Ed d (Pd F (Pd F p)):=fun d hd h1 h2=>by
  unfold Pd at *
  have:=Zji (F:=F) (d:=d) (p:=Yt (Nr F (Yt p) (Yo (Yt p)))) (q:=Yo (Yt (Nr F (Yt p) (Yo (Yt p))))) (by rw [a3];exact a1) (Oq (by rw [a3];exact a1)) (by rw [a3];exact h1) (by rw [a3];exact h2)
  exact this
 rw [a3]at b4
 generalize hg:Pd F p=g at *
 generalize hh:Pd F g=h at *
 generalize hu:sqf F p=u at *
 generalize htt:sqf F g=t at *
 obtain⟨k,s,hk,hks⟩:=e1
 obtain⟨m,w,hm,hmw⟩:=e2
 have hP:∀x:Rat,Zb (Yt p) x=Zb (lmul u g) x:=fun x=>by rw [a4,Zv,Zq]
 have hG:∀x:Rat,Zb g x=Zb (lmul t h) x:=fun x=>by
  have:Zb g x=Zb (Xm t h) x:=by rw [←b4]
  rw [this,Zv,Zq]
 have hd1:∀x:Rat,Zb (Yo (Yt p)) x=Zb (ld u) x*Zb g x+Zb u x*Zb (ld g) x:=fun x=>by rw [Mo,Hj hP,Dc]
 have hd2:∀x:Rat,(m:Rat)*Zb (ld g) x=Zb w x*Zb h x:=fun x=>by rw [←Mo];exact hmw x
 have key:∀x:Rat,(k:Rat)*(Zb (Xm u w) x*Zb h x)=(m:Rat)*(Zb (Xm (Nj s ((ld u).map fun c=>(-k)*c)) t) x*Zb h x):=fun x=>by
  rw [Zv,Zv,Yw,Zg]
  have h1:=hks x;have h2:=hd1 x;have h3:=hd2 x;have h4:=hG x
  rw [Zq]at h4
  rw [h2]at h1
  have:(k:Rat)*(Zb u x*Zb w x*Zb h x)=Zb u x*k*(Zb w x*Zb h x):=O4
  rw [this,←h3]
  push_cast
  have:Zb u x*(k:Rat)*(m*Zb (ld g) x)=m*(k*(Zb (ld u) x*Zb g x+Zb u x*Zb (ld g) x)-k*Zb (ld u) x*Zb g x):=O4
  rw [this,h1,h4];grind
 have key2:=Yht b1 b2 key
 refine ed_cop (s:=(Xm (Nj s ((ld u).map fun c=>(-k)*c)) [m])) hk t2 (w:=tzl w) (Qm w) t3 (fun d hd h1 h2=>?_) (fun x=>?_)
 ·have h2':Ed d w:=h2.congr fun x=>Ng w x
  have hdh:Ed (Xm d h) h:=hgr _ (Xq _ _) (by
   obtain⟨k1,s1,hk1,e1⟩:=h1
   exact⟨k1,s1,hk1,fun x=>by rw [hG x,Zq,Zv];have:=e1 x;grind⟩) (by
   obtain⟨k1,s1,hk1,e1⟩:=h2'
   exact⟨k1*m,s1,Int.mul_ne_zero hk1 hm,fun x=>by rw [Mo,Zv];have:=e1 x;have:=hd2 x;push_cast;grind⟩)
  have d0:=(h1.len hd t2 t3).1
  have hl:=Pg hd b1 d0 b2
  have:=(hdh.len (Xq _ _) b1 b2).2
  have l2:=List.length_pos_iff.2 b2
  omega
 ·rw [Ng,Zv,Qj]
  have:=key2 x
  rw [Zv,Zv]at this
  rw [this];grind
theorem Zy9{u t:List Int}(hu:Tr u)(u0:u≠[])(ht:Tr t)(t0:t≠[])(hn:Yt t=t)(h:Ed t u):pdv u t∧u=Xm (Ll u t) t∧Tr (Ll u t)∧Ll u t≠[]:=by
 have hc:Ys t=1:=by have:=Aa ht t0;rwa [hn]at this
 obtain⟨k,s,hk,h⟩:=h.dv
 obtain⟨q,hq⟩:=gauss hc _ k s rfl hk h
 have hqe:u=Xm (tzl q) t:=hu.ext (Xq _ _) fun i=>by rw [Kv,hq,Yck]
 obtain⟨p1,p2⟩:=Znz (Qm q) ht t0
 rw [←hqe]at p1 p2
 rw [p2]
 exact⟨p1,hqe,Qm q,fun e=>u0 (by rw [hqe,e,Ie])⟩
theorem Zka{F:Nat}{p:List Int}(hp:Tr p)(h0:p≠[])(hok:Fa F p)(h2:2≤p.length):(Pd F p).length<p.length:=by
 obtain⟨a1,a2,-⟩:=Qb hp h0 hok
 have ht:Tr (Yt p):=Ob (Yq hp)
 have e1:Ed (Pd F p) (Yo (Yt p)):=(Zci ht (Oq ht) hok).2.ed
 have hl:=Oi (Yt p)
 have hn:=Qr hp
 have:=(e1.len a1 (Oq ht) (fun e=>by rw [e]at hl;simp at hl;omega)).2
 omega
theorem Yib{p:List Int}(hp:Tr p)(hn:Yt p=p)(hl:p.length=1):p=[1]:=by
 have h0:p≠[]:=fun e=>by rw [e]at hl;simp at hl
 have hc:=Aa hp h0
 have hd:0<cf (Yt p) ((Yt p).length-1):=Ck (Yq hp) (fun e=>h0 (List.eq_nil_of_length_eq_zero (by rw [←Zt,e];rfl)))
 rw [hn]at hc hd
 match p,hl with
 | [c],_=>
  have hd':0<c:=hd
  have h1:c∣Ys [c]:=Gk fun i=>by
   match i with
   | 0=>exact Int.dvd_refl c
   | i+1=>rw [Yj O5];exact Int.dvd_zero c
  rw [hc]at h1
  have:=Int.le_of_dvd O3 h1
  rw [show c=1 by omega]
def Dp(p q:List Int):Prop:=Tr q∧q≠[]∧Yt q=q∧∃a,Tr a∧Yt p=Xm a q
theorem Dp.start{p:List Int}(hp:Tr p)(h0:p≠[]):Dp p (Yt p):=
 ⟨Ob (Yq hp),Zjo hp h0,Zto (Ob (Yq hp)) (Aa hp h0) (Ck (Yq hp) (fun e=>h0 (List.eq_nil_of_length_eq_zero (by rw [←Zt,e];rfl)))),[1],.inr (show cf [1] 0≠0 by decide),by
  refine(Ob (Yq hp)).ext (Xq _ _) fun i=>?_
  rw [Kv,Zqy];rfl⟩
theorem Dp.sz{p q:List Int}{n:Nat}(hp:Tr p)(h0:p≠[])(hs:Sz n p)(hl:p.length≤13)(h:Dp p q):Sz (n+130) q∧q.length≤p.length:=by
 obtain⟨h1,h2,h3,a,ha,e⟩:=h
 have hK:kkR 24 13*(24+1)^13<2^130:=O7
 have hln:=Qr hp
 have hn0:=Zjo hp h0
 have ht:Tr (Yt p):=Ob (Yq hp)
 have a0:a≠[]:=fun e2=>hn0 (by rw [e,e2,Ie])
 refine⟨Ft (L:=13) (R:=24) h1 ha (Zs1 hs) hn0 ht O O3 hK (by rw [Bz];exact e),?_⟩
 have hlq:=Pg ha h1 a0 h2
 rw [←e,hln]at hlq
 have:=List.length_pos_iff.2 a0
 omega
theorem Dp.ok{p q:List Int}{n F:Nat}(hp:Tr p)(h0:p≠[])(hs:Sz n p)(hn:n≤220)(hl:p.length≤11)(hF:p.length≤F+1)(h:Dp p q):Cv F q∧Fa F q:=by
 obtain⟨s1,s2⟩:=h.sz hp h0 hs O
 have:=(chG F h.1 h.2.1 s1 O O O).1
 exact⟨this,this.1.2.2.1⟩
theorem Dp.next{p q:List Int}{F:Nat}(h:Dp p q)(hok:Fa F q):Dp p (Pd F q):=by
 obtain⟨h1,h2,h3,a,ha,e⟩:=h
 obtain⟨a1,a2,a3,a4,a5⟩:=Qb h1 h2 hok
 refine⟨a1,a2,a3,Xm a (sqf F q),Xq _ _,?_⟩
 rw [h3]at a4
 refine e.trans ((congrArg (Xm a) a4).trans ?_)
 refine(Xq _ _).ext (Xq _ _) fun i=>Od (fun x=>?_) i
 rw [Zv,Zv,Zv,Zv];grind
def Eu(F:Nat):Nat→List Int→List Int
 | 0,p=>sqf F p
 | f+1,p=>if(sqf F p).length=1 then sqf F p else Xm (Ll (sqf F p) (sqf F (Pd F p))) (Eu F f (Pd F (Pd F p)))
def Zq1(F:Nat):Nat→List Int→List Int→List Int
 | 0,out,_=>out
 | f+1,out,q=>if(sqf F q).length=1 then out else if(sqf F (Pd F q)).length=1 then Xm out (Ll (sqf F q) (sqf F (Pd F q)))else Zq1 F f (Xm out (Ll (sqf F q) (sqf F (Pd F q)))) (Pd F (Pd F q))
theorem Zeg{F:Nat}{q:List Int}(hq:Tr q)(h0:q≠[])(hok:Fa F q)(h:(sqf F q).length=1):sqf F q=[1]∧q.length=1∧(Pd F q).length=1:=by
 obtain⟨f1,f2,f3,f4,f5,f6⟩:=Pu (F:=F) hq h0 hok
 obtain⟨a1,a2,a3,a4,a5⟩:=Qb hq h0 hok
 have l0:=List.length_pos_iff.2 h0
 have hl:q.length=1:=by
  rcases Nat.lt_or_ge q.length 2 with h2 | h2
  ·omega
  ·have:=Zka hq h0 hok h2;omega
 exact⟨Yib f2 f6 h,hl,O⟩
theorem Znx{p:List Int}(hp:Tr p):Xm p [1]=p:=by
 refine(Xq _ _).ext hp fun i=>Od (fun x=>?_) i
 rw [Zv,Qj];push_cast;grind
theorem Yct{F:Nat}{q:List Int}(hq:Tr q)(h0:q≠[])(hok:Fa F q)(h:q.length=1):∀f,Eu F f q=[1]:=fun f=>by
 obtain⟨f1,f2,f3,f4,f5,f6⟩:=Pu (F:=F) hq h0 hok
 obtain⟨a1,a2,a3,a4,a5⟩:=Qb hq h0 hok
 have l1:=List.length_pos_iff.2 f3
 have l2:=List.length_pos_iff.2 a2
 have hs:(sqf F q).length=1:=O
 have:=(Zeg hq h0 hok hs).1
 cases f with
 | zero=>exact this
 | succ f=>unfold Eu;rw [if_pos hs];exact this
theorem Znw{F:Nat}{p:List Int}{f:Nat}{q:List Int}(hq:Tr q)(h0:q≠[])(hok:Fa F q):Tr (Eu F f q):=by
 obtain⟨f1,f2,f3,f4,f5,f6⟩:=Pu (F:=F) hq h0 hok
 cases f with
 | zero=>exact f2
 | succ f=>unfold Eu;split;exact f2;exact Xq _ _
theorem Yia{F n:Nat}{p:List Int}(hp:Tr p)(h0:p≠[])(hs:Sz n p)(hn:n≤220)(hl:p.length≤11)(hF:p.length≤F+1):∀(f:Nat) (out q:List Int),Tr out→Dp p q→q.length≤f→Zq1 F f out q=Xm out (Eu F f q):=by
 intro f
 induction f with
 | zero=>intro out q _ hq hlq;have:=List.length_pos_iff.2 hq.2.1;omega
 | succ f ih=>
  intro out q ho hq hlq
  have hok:=(hq.ok hp h0 hs hn hl hF).2
  have hg:=hq.next hok
  have hok2:=(hg.ok hp h0 hs hn hl hF).2
  have hg2:=hg.next hok2
  have hok3:=(hg2.ok hp h0 hs hn hl hF).2
  unfold Zq1 Eu
  by_cases c1:(sqf F q).length=1
  ·rw [if_pos c1,if_pos c1,(Zeg hq.1 hq.2.1 hok c1).1,Znx ho]
  ·rw [if_neg c1,if_neg c1]
   have lq:2≤q.length:=by
    obtain⟨f1,f2,f3,f4,f5,f6⟩:=Pu (F:=F) hq.1 hq.2.1 hok
    obtain⟨a1,a2,a3,a4,a5⟩:=Qb hq.1 hq.2.1 hok
    have l1:=List.length_pos_iff.2 f3
    have l2:=List.length_pos_iff.2 a2
    omega
   have lt1:=Zka hq.1 hq.2.1 hok lq
   obtain⟨-,-,-,-,b5⟩:=Qb hg.1 hg.2.1 hok2
   obtain⟨-,b2,b3,-,-,-⟩:=Pu (F:=F) hg.1 hg.2.1 hok2
   have lb:=List.length_pos_iff.2 b3
   by_cases c2:(sqf F (Pd F q)).length=1
   ·obtain⟨s1,s2,s3⟩:=Zeg hg.1 hg.2.1 hok2 c2
    rw [if_pos c2,Yct hg2.1 hg2.2.1 hok3 s3]
    refine(Xq _ _).ext (Xq _ _) fun i=>Od (fun x=>?_) i
    rw [Zv,Zv,Zv,Qj];push_cast;grind
   ·rw [if_neg c2,ih _ _ (Xq _ _) hg2 O]
    refine(Xq _ _).ext (Xq _ _) fun i=>Od (fun x=>?_) i
    rw [Zv,Zv,Zv,Zv];grind
theorem Ztk{q:List Int}{e:Int}(he:e=1∨e=-1)(h:Ys q=1):Ys (Yb q e)=1:=by
 have h1:Ys (Yb q e)∣Ys q:=Gk fun i=>by
  have:=Mh (Yb q e) i
  rw [Yy]at this
  rcases he with rfl | rfl
  ·rwa [Int.mul_one]at this
  ·rw [Int.mul_neg_one]at this;exact(Int.dvd_neg.1 this)
 rw [h]at h1
 have h2:=Oe (Yb q e)
 have h3:=Int.le_of_dvd O3 h1
 rcases(show Ys (Yb q e)=0∨Ys (Yb q e)=1 by omega)with h4 | h4
 ·rw [h4]at h1;exact absurd (Int.zero_dvd.1 h1) O3
 ·exact h4
theorem Ycp{q:List Int}(h:Ys q=1):Zu q=q:=by
 unfold Zu;rw [h];simp
theorem Zqd{F:Nat}{q:List Int}{e:Int}(hq:Tr q)(q0:q≠[])(hn:Yt q=q)(hok:Fa F q)(he:e=1∨e=-1) :
  Tr (Yb q e)∧Yb q e≠[]∧Yt (Yb q e)=q∧Zu (Yb q e)=Yb q e∧pdv (Yb q e) (sqf F q)∧Ll (Yb q e) (sqf F q)=Yb (Pd F q) e:=by
 have e0:e≠0:=by rcases he with rfl | rfl<;>decide
 obtain⟨f1,f2,f3,f4,f5,f6⟩:=Pu (F:=F) hq q0 hok
 obtain⟨a1,a2,a3,a4,a5⟩:=Qb hq q0 hok
 have hc:Ys q=1:=by have:=Aa hq q0;rwa [hn]at this
 rw [hn]at a4
 have hw:Yb q e=Xm (Yb (Pd F q) e) (sqf F q):=by
  refine(Xi _ _).ext (Xq _ _) fun i=>Od (fun x=>?_) i
  have:Zb q x=Zb (Xm (sqf F q) (Pd F q)) x:=by rw [←a4]
  rw [Az,Zv,Az,this,Zv];grind
 obtain⟨p1,p2⟩:=Znz (Xi (Pd F q) e) f2 f3
 rw [←hw]at p1 p2
 exact⟨Xi _ _,Zl8 hq q0 e0,by rw [Zwh (Xi _ _) hq (Zdg q e0).symm,hn],Ycp (Ztk he hc),p1,p2⟩
theorem Yco{p:List Int}(hp:Tr p)(h0:p≠[]):∃e:Int,(e=1∨e=-1)∧Zu p=Yb (Yt p) e:=by
 by_cases h:cf (Zu p) ((Zu p).length-1)<0
 ·refine⟨-1,.inr rfl,?_⟩
  rw [Zn5 (fun e=>h0 (List.eq_nil_of_length_eq_zero (by rw [←Zt,e]))) h]
  refine(Yq hp).ext (Xi _ _) fun i=>?_
  rw [Yy,Yy];omega
 ·refine⟨1,.inl rfl,?_⟩
  rw [Zn4 h]
  refine(Yq hp).ext (Xi _ _) fun i=>?_
  rw [Yy];omega
def Nv(F:Nat)(p:List Int):List Int:=Ll (Yb (Zu p) 1) (sqf F p)
def Zaw(F:Nat)(p:List Int):List Int:=Ll (Zu (Nv F p)) (sqf F (Nv F p))
def Ztb(F:Nat):Nat→List Int→List Int
 | 0,p=>sqf F p
 | f+1,p=>if(sqf F p).length=1 then sqf F p else Xm (Ll (sqf F p) (sqf F (Nv F p))) (Ztb F f (Zaw F p))
theorem Ea{F:Nat}{p q:List Int}(h:Yt p=Yt q):sqf F p=sqf F q:=by unfold sqf;rw [h]
theorem Zh6{F:Nat}{p q:List Int}(h:Yt p=Yt q):Pd F p=Pd F q:=by unfold Pd;rw [h]
theorem Zqv{F:Nat}{p q:List Int}(h:Yt p=Yt q):∀f,Eu F f p=Eu F f q
 | 0=>Ea h
 | f+1=>by unfold Eu;rw [Ea h,Zh6 h]
theorem Zi5{F:Nat}{p:List Int}(hp:Tr p)(h0:p≠[])(hok:Fa F p)(hok2:Fa F (Pd F p)) :
  (∃e:Int,(e=1∨e=-1)∧Yb (Zu p) 1=Yb (Yt p) e∧pdv (Yb (Yt p) e) (sqf F p)∧Nv F p=Yb (Pd F p) e∧Zu (Nv F p)=Nv F p∧pdv (Nv F p) (sqf F (Pd F p))∧Zaw F p=Yb (Pd F (Pd F p)) e)∧
  Yt (Nv F p)=Pd F p∧Yt (Zaw F p)=Pd F (Pd F p)∧Tr (Nv F p)∧Nv F p≠[]∧Tr (Zaw F p)∧Zaw F p≠[]:=by
 obtain⟨b1,b2,b3,-⟩:=Dp.start hp h0
 have hok':Fa F (Yt p):=by unfold Fa;rw [b3];exact hok
 have hgn:Pd F (Yt p)=Pd F p:=Zh6 b3
 have hsn:sqf F (Yt p)=sqf F p:=Ea b3
 obtain⟨e,he,hpe⟩:=Yco hp h0
 have hp1:Yb (Zu p) 1=Yb (Yt p) e:=by
  rw [hpe];refine(Xi _ _).ext (Xi _ _) fun i=>?_
  rw [Yy,Int.mul_one]
 obtain⟨-,-,-,-,c5,c6⟩:=Zqd b1 b2 b3 hok' he
 rw [hgn,hsn]at c6
 rw [hsn]at c5
 have hl:Nv F p=Yb (Pd F p) e:=by unfold Nv;rw [hp1,c6]
 obtain⟨a1,a2,a3,-,-⟩:=Qb hp h0 hok
 obtain⟨d1,d2,d3,d4,d5,d6⟩:=Zqd a1 a2 a3 hok2 he
 rw [←hl]at d1 d2 d3 d4 d5 d6
 have hsl:sqf F (Nv F p)=sqf F (Pd F p):=Ea (by rw [d3,a3])
 have hr:Zaw F p=Yb (Pd F (Pd F p)) e:=by unfold Zaw;rw [d4,hsl,d6]
 obtain⟨g1,g2,g3,-,-⟩:=Qb a1 a2 hok2
 have e0:e≠0:=by rcases he with rfl | rfl<;>decide
 refine⟨⟨e,he,hp1,c5,hl,d4,d5,hr⟩,d3,?_,d1,d2,?_,?_⟩
 ·rw [hr,Zwh (Xi _ _) g1 (Zdg _ e0).symm,g3]
 ·rw [hr];exact Xi _ _
 ·rw [hr];exact Zl8 g1 g2 e0
theorem Yhq{F n:Nat}{p:List Int}(hp:Tr p)(h0:p≠[])(hs:Sz n p)(hn:n≤220)(hl:p.length≤11)(hF:p.length≤F+1):∀(f:Nat) (q:List Int),Tr q→q≠[]→Dp p (Yt q)→Ztb F f q=Eu F f q:=by
 intro f
 induction f with
 | zero=>intro q _ _ _;rfl
 | succ f ih=>
  intro q hq q0 hD
  have hok:=(hD.ok hp h0 hs hn hl hF).2
  have hok':Fa F q:=by unfold Fa at hok ⊢;rwa [hD.2.2.1]at hok
  have hg:=hD.next hok
  rw [Zh6 hD.2.2.1]at hg
  have hok2:=(hg.ok hp h0 hs hn hl hF).2
  have hg2:=hg.next hok2
  obtain⟨-,r1,r2,r3,r4,r5,r6⟩:=Zi5 hq q0 hok' hok2
  unfold Ztb Eu
  have a3:=hg.2.2.1
  rw [Ea (show Yt (Nv F q)=Yt (Pd F q) by rw [r1,a3]),ih _ r5 r6 (by rw [r2];exact hg2),Zqv (show Yt (Zaw F q)=Yt (Pd F (Pd F q)) by rw [r2,hg2.2.2.1])]
def Ew(F:Nat)(q:List Int):List Int:=Ll (sqf F q) (sqf F (Pd F q))
theorem Eo{F:Nat}{q:List Int}(hq:Tr q)(q0:q≠[])(hok:Fa F q)(hok2:Fa F (Pd F q)):pdv (sqf F q) (sqf F (Pd F q))∧sqf F q=Xm (Ew F q) (sqf F (Pd F q))∧Tr (Ew F q)∧Ew F q≠[]:=by
 obtain⟨f1,f2,f3,f4,f5,f6⟩:=Pu (F:=F) hq q0 hok
 obtain⟨a1,a2,a3,a4,a5⟩:=Qb hq q0 hok
 obtain⟨-,t2,t3,-,-,t6⟩:=Pu (F:=F) a1 a2 hok2
 exact Zy9 f2 f3 t2 t3 t6 (Zwf hq q0 hok hok2)
theorem Zub{p a b:List Int}{n:Nat}(hp:Tr p)(h0:p≠[])(hs:Sz n p)(hl:p.length≤13)(ha:Tr a)(hb:Tr b)(e:Yt p=Xm a b):Sz (n+130) b∧b.length≤p.length∧b≠[]:=by
 have hK:kkR 24 13*(24+1)^13<2^130:=O7
 have hln:=Qr hp
 have hn0:=Zjo hp h0
 have ht:Tr (Yt p):=Ob (Yq hp)
 have a0:a≠[]:=fun e2=>hn0 (by rw [e,e2,Ie])
 have b0:b≠[]:=fun e2=>hn0 (by rw [e,e2,Zaf])
 refine⟨Ft (L:=13) (R:=24) hb ha (Zs1 hs) hn0 ht O O3 hK (by rw [Bz];exact e),?_,b0⟩
 have hlq:=Pg ha hb a0 b0
 rw [←e,hln]at hlq
 have:=List.length_pos_iff.2 a0
 omega
def Op(p out q:List Int):Prop:=∃a,Tr a∧Yt p=Xm a (Xm out q)
theorem Op.start{p:List Int}(hp:Tr p):Op p [1] (Yt p):=⟨[1],.inr (show cf [1] 0≠0 by decide),by
 refine(Ob (Yq hp)).ext (Xq _ _) fun i=>Od (fun x=>?_) i
 rw [Zv,Zv,Qj];push_cast;show Zb (Yt p) x=_;grind⟩
theorem Op.next{p out q:List Int}{F:Nat}(hq:Tr q)(q0:q≠[])(hn:Yt q=q)(hok:Fa F q)(hok2:Fa F (Pd F q))(h:Op p out q):Op p (Xm out (Ew F q)) (Pd F (Pd F q)):=by
 obtain⟨a,ha,e⟩:=h
 obtain⟨-,o2,o3,o4⟩:=Eo hq q0 hok hok2
 obtain⟨a1,a2,a3,a4,a5⟩:=Qb hq q0 hok
 obtain⟨-,-,-,b4,-⟩:=Qb a1 a2 hok2
 rw [hn]at a4
 rw [a3]at b4
 refine⟨Xm a (Xm (sqf F (Pd F q)) (sqf F (Pd F q))),Xq _ _,e.trans ?_⟩
 refine(Xq _ _).ext (Xq _ _) fun i=>Od (fun x=>?_) i
 have e1:Zb q x=Zb (sqf F q) x*Zb (Pd F q) x:=by rw [←Zv,←a4]
 have e2:Zb (sqf F q) x=Zb (Ew F q) x*Zb (sqf F (Pd F q)) x:=by rw [←Zv,←o2]
 have e3:Zb (Pd F q) x=Zb (sqf F (Pd F q)) x*Zb (Pd F (Pd F q)) x:=by rw [←Zv,←b4]
 simp only [Zv]
 rw [e1,e2]
 rw [e3]
 generalize Zb (sqf F (Pd F q)) x=A
 generalize Zb (Pd F (Pd F q)) x=B
 grind
theorem Op.sz{p out q:List Int}{n:Nat}(hp:Tr p)(h0:p≠[])(hs:Sz n p)(hl:p.length≤13)(ho:Tr out)(hq:Tr q)(h:Op p out q):Sz (n+130) out∧out.length≤p.length∧out≠[]:=by
 obtain⟨a,ha,e⟩:=h
 exact Zub hp h0 hs hl (Xq a q) ho (e.trans ((Xq _ _).ext (Xq _ _) fun i=>Od (fun x=>by rw [Zv,Zv,Zv,Zv];grind) i))
theorem Yh2{p:List Int}(hp:Tr p):Xm [1] p=p:=by rw [Bz];exact Znx hp
theorem Zij{xs:List Int}{F:Nat}(hx:Tr xs)(h0:xs≠[])(hC:Cv F xs){s t:Rat}(hst:s≤t):Bm F xs t≤Bm F xs s:=Zku hx h0 hC hst
theorem Sqn.imp{P P':R2→R2→Prop}{hi:Rat}(hp:∀x y,P x y→P' x y):∀{lo:Rat} {l:List (R2×R2)},Sqn P hi lo l→Sqn P' hi lo l
 | _,[],h=>h
 | _,_ :: _,h=>⟨h.1,h.2.1,hp _ _ h.2.2.1,Sqn.imp hp h.2.2.2⟩
def oe(f:Nat→Int):Nat→Int
 | 0=>0
 | k+1=>err (oe f k) (f k)
def mon(d n:Nat):List Int:=mono d ((2:Int)^n)
variable {P:Program} {N:Nat} {sc:Nat→Prop} {env:Qt} {H:Hp}
end Go.Sky
namespace Go.Sky
def HD(xs ys:List Int):Prop:=Vp ys∧ys≠[]∧Br ys∧Cv 13 ys∧chn 13 ys=chn 13 xs
def PH(xs:List Int)(x y:R2):Prop:=(0<x.2∧bl x.1.natAbs≤506∧bl x.2.natAbs≤506)∧(0<y.2∧bl y.1.natAbs≤506∧bl y.2.natAbs≤506)∧cvc 13 xs x-cvc 13 xs y=1
def DR:R2×R2:=((0,0),(0,0))
theorem Zfs(d:Rat){h:Rat}(h1:0<h):∃n:Nat,d≤(n:Rat)*h:=by
 have h4:0<h⁻¹:=Rat.inv_pos.2 h1
 refine⟨(d*h⁻¹).ceil.toNat,?_⟩
 have h5:=@Rat.le_ceil (d*h⁻¹)
 have h6:(((d*h⁻¹).ceil:Int):Rat)≤(((d*h⁻¹).ceil.toNat:Nat):Rat):=by
  have:(d*h⁻¹).ceil≤(((d*h⁻¹).ceil.toNat:Nat):Int):=Int.self_le_toNat _
  exact_mod_cast this
 have h7:=Rat.mul_le_mul_of_nonneg_right (Rat.le_trans h5 h6) (show 0≤h by grind)
 have h8:d*h⁻¹*h=d:=O4
 grind
theorem Zo5{f:Rat→Rat}{u v:Rat}(h:crs f u v≤0)(h0:f u≠0):0<f u*f v:=by
 unfold crs at h
 by_cases h1:f u≠0∧f u*f v≤0
 ·rw [if_pos h1]at h;exact absurd h O3
 ·have:¬f u*f v≤0:=fun h2=>h1 ⟨h0,h2⟩
  grind
theorem Zcq{xs:List Int}{F:Nat}(hx:Tr xs)(h0:xs≠[])(hC:Cv F xs){s t:Rat}(hst:s≤t)(hV:Bm F xs s≤Bm F xs t)(hs:Zb (sqf F xs) s≠0):∀y,s≤y→y≤t→0<Zb (sqf F xs) s*Zb (sqf F xs) y:=by
 obtain⟨h,h1,h2⟩:=Zkt hx h0 hC s t
 have hcv:∀u v,s≤u→u≤v→v≤t→v-u≤h→crs (Zb (sqf F xs)) u v≤0:=fun u v a b c d=>by
  have e:=h2 u v a b c d
  have m1:vat ((chn F xs).map Zb) u≤vat ((chn F xs).map Zb) s:=Zku hx h0 hC a
  have m2:vat ((chn F xs).map Zb) t≤vat ((chn F xs).map Zb) v:=Zku hx h0 hC c
  have m3:vat ((chn F xs).map Zb) s≤vat ((chn F xs).map Zb) t:=hV
  omega
 generalize Zb (sqf F xs)=f at *
 have key:∀n:Nat,∀y,s≤y→y≤t→y-s≤(n:Rat)*h→0<f s*f y:=fun n=>by
  induction n with
  | zero=>
   intro y a b c
   have:y=s:=by push_cast at c;grind
   subst this
   exact Zo5 (hcv _ _ a O4 b O4) hs
  | succ n ih=>
   intro y a b c
   push_cast at c
   by_cases hy:y-s≤h
   ·exact Zo5 (hcv s y O4 a b hy) hs
   ·have i1:=ih (y-h) O4 O4 O4
    have hz:f (y-h)≠0:=fun e=>by rw [e]at i1;grind
    have i2:=Zo5 (hcv (y-h) y O4 O4 b O4) hz
    have i3:=Rat.mul_pos i1 i2
    have e1:f s*f (y-h)*(f (y-h)*f y)=(f (y-h)*f (y-h))*(f s*f y):=O4
    rw [e1]at i3
    have i4:0<f (y-h)*f (y-h):=by
     rcases(show 0<f (y-h)∨f (y-h)<0 by grind)with q | q
     ·exact Rat.mul_pos q q
     ·have:=Rat.mul_pos (a:=-f (y-h)) (b:=-f (y-h)) O4 O4;grind
    rcases(show 0<f s*f y∨f s*f y≤0 by grind)with q | q
    ·exact q
    ·have:=Rat.mul_nonneg (a:=f (y-h)*f (y-h)) (b:=-(f s*f y)) O4 O4;grind
 intro y a b
 obtain⟨n,hn⟩:∃n:Nat,y-s≤(n:Rat)*h:=by
  obtain⟨n,hn⟩:=Zfs (y-s) h1
  exact⟨n,hn⟩
 exact key n y a b hn
theorem Ze4{p:List Int}{s t:Rat}(hst:s≤t)(hd:∀u,s≤u→u≤t→0≤Zb (ld p) u):Zb p s≤Zb p t:=by
 rcases(show Zb p s≤Zb p t∨Zb p t<Zb p s by grind)with h | h
 ·exact h
 ·exfalso
  obtain⟨M,m1,m2⟩:=Zcc s t p
  have hlt:s<t:=by
   rcases(show s<t∨s=t by grind)with h9 | h9
   ·exact h9
   ·rw [h9]at h;grind
  obtain⟨n,hn⟩:=Zfs (M*(t-s)*(t-s)+1) (show 0<Zb p s-Zb p t by grind)
  have hn0:(0:Rat)<(n:Rat):=by
   rcases Nat.eq_zero_or_pos n with h9 | h9
   ·subst h9
    have:=Rat.mul_nonneg (a:=M*(t-s)) (b:=t-s) (Rat.mul_nonneg O4 O4) O4
    push_cast at hn;grind
   ·exact_mod_cast h9
  have hn1:(n:Rat)≠0:=fun e=>by rw [e]at hn0;exact absurd hn0 O3
  have hnn0:(n:Rat)*((t-s)/n)=t-s:=by
   rw [Rat.div_def,←Rat.mul_assoc,Rat.mul_comm (n:Rat),Rat.mul_assoc,Rat.mul_inv_cancel _ hn1,Rat.mul_one]
  have key:∀k:Nat,(k:Rat)≤(n:Rat)→-(M*((t-s)/n)*((t-s)/n))*k≤Zb p (s+k*((t-s)/n))-Zb p s:=fun k=>by
   induction k with
   | zero=>intro _;push_cast;rw [show s+0*((t-s)/n)=s by grind];grind
   | succ k ih=>
    intro hk
    push_cast at hk ⊢
    have i1:=ih O4
    have hh:0≤(t-s)/n:=by
     rw [Rat.div_def];exact Rat.mul_nonneg O4 (Rat.le_of_lt (Rat.inv_pos.2 hn0))
    have hnn:=hnn0
    generalize (t-s)/(n:Rat)=h at *
    have k0:(0:Rat)≤(k:Rat):=by exact_mod_cast Nat.zero_le k
    have b1:=Rat.mul_nonneg (a:=(k:Rat)) (b:=h) k0 hh
    have b2:=Rat.mul_nonneg (a:=(n:Rat)-(k+1)) (b:=h) O4 hh
    have j:=(m2 (s+k*h) (s+(k+1)*h) O4 O4 O4).1
    have e:=hd (s+k*h) O4 O4
    have e2:=Rat.mul_nonneg hh e
    rw [show s+(k+1)*h-(s+k*h)=h by grind]at j
    grind
  have k1:=key n O4
  have hnn:=hnn0
  rw [hnn,show s+(t-s)=t by grind]at k1
  have k2:-(M*((t-s)/n)*((t-s)/n))*n=-(M*((t-s)/n)*(t-s)):=O4
  rw [k2]at k1
  have k3:M*((t-s)/n)*(t-s)*n=M*(t-s)*(t-s):=O4
  have k4:=Rat.mul_nonneg (a:=Zb p t-Zb p s+M*((t-s)/n)*(t-s)) (b:=(n:Rat)) O4 O4
  grind
theorem Zem(p:List Int)(x:Rat):Zb (p.map fun a=>-1*a) x=-Zb p x:=by rw [Zg];push_cast;grind
theorem Zm2{p:List Int}{s t:Rat}(hst:s<t)(hd:∀u,s<u→u≤t→0<Zb (ld p) u)(h0:0≤Zb (ld p) s):Zb p s<Zb p t:=by
 have hm:s<(s+t)/2∧(s+t)/2<t:=by constructor<;>grind
 generalize (s+t)/2=m at *
 have a1:=Ze4 (p:=p) (s:=s) (t:=m) O4 (fun u a b=>by
  rcases(show s<u∨u=s by grind)with h | h
  ·exact Rat.le_of_lt (hd u h O4)
  ·rw [h];exact h0)
 obtain⟨M,m1,m2⟩:=Zcc m t p
 have hp:=hd m hm.1 O4
 obtain⟨η,q1,q2,q3⟩:=Ip (show 0<t-m by grind) m1 (show 0<Zb (ld p) m/2 by grind)
 have b:=(m2 m (m+η) O4 O4 O4).1
 rw [show m+η-m=η by grind]at b
 have a2:=Ze4 (p:=p) (s:=m+η) (t:=t) O4 (fun u a b=>Rat.le_of_lt (hd u O4 b))
 have c:=Rat.mul_nonneg (a:=η) (b:=Zb (ld p) m/2-η*M) O4 O4
 have d:=Rat.mul_pos q1 hp
 grind
def Fg:Nat→List Int→Rat→Int
 | 0,_,_=>0
 | n+1,p,x=>if Zb p x≠0 then Fh (Zb p x)else Fg n (Yo p) x
theorem Zvy{x:Rat}(h:0<x):Fh x=1:=Cw h
theorem Zl0{x:Rat}(h:x<0):Fh x=-1:=Cx h
theorem Zqi{x:Rat}(h:x=0):Fh x=0:=by subst h;rfl
theorem Qp(x:Rat):(0<x∧Fh x=1)∨(x<0∧Fh x=-1)∨(x=0∧Fh x=0):=by
 rcases(show 0<x∨x<0∨x=0 by grind)with h | h | h
 ·exact .inl ⟨h,Zvy h⟩
 ·exact .inr (.inl ⟨h,Zl0 h⟩)
 ·exact .inr (.inr ⟨h,Zqi h⟩)
theorem Zu5(n:Nat)(p:List Int)(x:Rat)(h:Zb p x≠0)(hl:p.length≤n):Fg n p x=Fh (Zb p x):=by
 cases n with
 | zero=>have:p=[]:=List.eq_nil_of_length_eq_zero O;subst this;exact absurd rfl h
 | succ n=>unfold Fg;rw [if_pos h]
theorem Zmg(p:List Int)(x:Rat)(h:Zb p x≠0):∃δ:Rat,0<δ∧∀y,x<y→y≤x+δ→Fh (Zb p y)=Fh (Zb p x):=by
 obtain⟨L,l1,l2⟩:=Db x (x+1) p
 have ha:0<(if 0<Zb p x then Zb p x else -Zb p x):=by split<;>grind
 obtain⟨δ,d1,d2,d3⟩:=Ip (show(0:Rat)<1 by decide) (show 0<L+1 by grind) (show 0<(if 0<Zb p x then Zb p x else -Zb p x)/2 by grind)
 refine⟨δ,d1,fun y h1 h2=>?_⟩
 have l:=l2 x y O4 O4 O4
 have b:=Rat.mul_nonneg (a:=L) (b:=δ-(y-x)) O4 O4
 have c:L*(y-x)≤δ*(L+1):=O4
 rcases Qp (Zb p x)with⟨h3,h4⟩ | ⟨h3,h4⟩ | ⟨h3,h4⟩
 ·rw [if_pos h3]at d3 ha;rw [h4];exact Zvy O4
 ·rw [if_neg O4]at d3 ha;rw [h4];exact Zl0 O4
 ·exact absurd h3 h
theorem Cn:∀(n:Nat) (p:List Int) (x:Rat),p.length≤n→∃δ:Rat,0<δ∧∀y,x<y→y≤x+δ→Fh (Zb p y)=Fg n p x
 | 0,p,x,hl=>⟨1,O3,fun y _ _=>by
  have:p=[]:=List.eq_nil_of_length_eq_zero O
  subst this;exact Zqi rfl⟩
 | n+1,p,x,hl=>by
  by_cases h:Zb p x≠0
  ·rw [Zu5 (n+1) p x h hl];exact Zmg p x h
  ·have h0:Zb p x=0:=Classical.not_not.1 h
   have ld':=Oi p
   obtain⟨δ,d1,d2⟩:=Cn n (Yo p) x O
   have hu:Fg (n+1) p x=Fg n (Yo p) x:=by unfold Fg;rw [if_neg h];cases n<;>rfl
   have hx:Zb (ld p) x≠0→Fh (Zb (ld p) x)=Fg n (Yo p) x:=fun h9=>by
    rw [←Mo]at h9 ⊢;exact(Zu5 n (Yo p) x h9 O).symm
   refine⟨δ,d1,fun y h1 h2=>?_⟩
   rw [hu]
   have hd:∀u,x<u→u≤y→Fh (Zb (ld p) u)=Fg n (Yo p) x:=fun u a b=>by rw [←Mo];exact d2 u a O4
   have hyy:=hd y h1 O4
   generalize Fg n (Yo p) x=σ at *
   rcases Qp (Zb (ld p) y)with⟨h3,h4⟩ | ⟨h3,h4⟩ | ⟨h3,h4⟩
   ·rw [h4]at hyy;subst hyy
    refine Zvy ?_
    have:=Zm2 (p:=p) h1 (fun u a b=>by
     rcases Qp (Zb (ld p) u)with⟨h5,h6⟩ | ⟨h5,h6⟩ | ⟨h5,h6⟩
     ·exact h5
     ·have:=hd u a b;rw [h6]at this;exact absurd this O3
     ·have:=hd u a b;rw [h6]at this;exact absurd this O3) (by
     rcases Qp (Zb (ld p) x)with⟨h5,h6⟩ | ⟨h5,h6⟩ | ⟨h5,h6⟩
     ·exact Rat.le_of_lt h5
     ·have:=hx O4;rw [h6]at this;exact absurd this O3
     ·grind)
    grind
   ·rw [h4]at hyy;subst hyy
    refine Zl0 ?_
    have hn:∀u,Zb (ld (p.map fun a=>-1*a)) u=-Zb (ld p) u:=fun u=>by rw [Cz];push_cast;grind
    have:=Zm2 (p:=p.map fun a=>-1*a) h1 (fun u a b=>by
     rw [hn]
     rcases Qp (Zb (ld p) u)with⟨h5,h6⟩ | ⟨h5,h6⟩ | ⟨h5,h6⟩
     ·have:=hd u a b;rw [h6]at this;exact absurd this O3
     ·grind
     ·have:=hd u a b;rw [h6]at this;exact absurd this O3) (by
     rw [hn]
     rcases Qp (Zb (ld p) x)with⟨h5,h6⟩ | ⟨h5,h6⟩ | ⟨h5,h6⟩
     ·have:=hx O4;rw [h6]at this;exact absurd this O3
     ·grind
     ·grind)
    rw [Zem,Zem]at this
    grind
   ·rw [h4]at hyy;subst hyy
    refine Zqi ?_
    have hz:∀u,x≤u→u≤y→Zb (ld p) u=0:=fun u a b=>by
     rcases(show x<u∨u=x by grind)with h9 | h9
     ·rcases Qp (Zb (ld p) u)with⟨h5,h6⟩ | ⟨h5,h6⟩ | ⟨h5,h6⟩
      ·have:=hd u h9 b;rw [h6]at this;exact absurd this O3
      ·have:=hd u h9 b;rw [h6]at this;exact absurd this O3
      ·exact h5
     ·subst h9
      rcases Qp (Zb (ld p) u)with⟨h5,h6⟩ | ⟨h5,h6⟩ | ⟨h5,h6⟩
      ·have:=hx O4;rw [h6]at this;exact absurd this O3
      ·have:=hx O4;rw [h6]at this;exact absurd this O3
      ·exact h5
    have a1:=Ze4 (p:=p) (s:=x) (t:=y) O4 (fun u a b=>by rw [hz u a b];grind)
    have a2:=Ze4 (p:=p.map fun a=>-1*a) (s:=x) (t:=y) O4 (fun u a b=>by rw [Cz,hz u a b];push_cast;grind)
    rw [Zem,Zem]at a2
    grind
theorem Ed.mul_l{a b c:List Int}(h:Ed a b):Ed (Xm c a) (Xm c b):=by
 obtain⟨k,s,hk,e⟩:=h
 exact⟨k,s,hk,fun x=>by rw [Zv,Zv];have:=e x;grind⟩
theorem Gi{F n:Nat}{p:List Int}(hp:Tr p)(h0:p≠[])(hs:Sz n p)(hn:n≤220)(hl:p.length≤11)(hF:p.length≤F+1):∀(f:Nat) (q:List Int),Dp p q→q.length≤f→
  (∃B:List Int,∀x:Rat,Zb q x=Zb (Eu F f q) x*(Zb B x*Zb B x))∧Ed (Eu F f q) (sqf F q):=by
 intro f
 induction f with
 | zero=>intro q hq hlq;have:=List.length_pos_iff.2 hq.2.1;omega
 | succ f ih=>
  intro q hq hlq
  have hok:=(hq.ok hp h0 hs hn hl hF).2
  have hg:=hq.next hok
  have hok2:=(hg.ok hp h0 hs hn hl hF).2
  have hg2:=hg.next hok2
  unfold Eu
  by_cases c1:(sqf F q).length=1
  ·rw [if_pos c1]
   obtain⟨s1,s2,s3⟩:=Zeg hq.1 hq.2.1 hok c1
   refine⟨⟨[1],fun x=>?_⟩,Ed.refl _⟩
   rw [s1,Yib hq.1 hq.2.2.1 s2,Qj];push_cast;grind
  ·rw [if_neg c1]
   have lq:2≤q.length:=by
    obtain⟨f1,f2,f3,f4,f5,f6⟩:=Pu (F:=F) hq.1 hq.2.1 hok
    obtain⟨a1,a2,a3,a4,a5⟩:=Qb hq.1 hq.2.1 hok
    have l1:=List.length_pos_iff.2 f3
    have l2:=List.length_pos_iff.2 a2
    omega
   have lt1:=Zka hq.1 hq.2.1 hok lq
   obtain⟨a1,a2,a3,a4,a5⟩:=Qb hq.1 hq.2.1 hok
   obtain⟨b1,b2,b3,b4,b5⟩:=Qb hg.1 hg.2.1 hok2
   obtain⟨-,t2,t3,-,-,-⟩:=Pu (F:=F) hg.1 hg.2.1 hok2
   have lb:=List.length_pos_iff.2 t3
   obtain⟨⟨B,hB⟩,hE⟩:=ih _ hg2 O
   obtain⟨-,o2,o3,o4⟩:=Eo hq.1 hq.2.1 hok hok2
   have hok3:=(hg2.ok hp h0 hs hn hl hF).2
   rw [hq.2.2.1]at a4
   rw [a3]at b4
   have e1:∀x,Zb q x=Zb (sqf F q) x*Zb (Pd F q) x:=fun x=>by rw [←Zv,←a4]
   have e2:∀x,Zb (sqf F q) x=Zb (Ew F q) x*Zb (sqf F (Pd F q)) x:=fun x=>by rw [←Zv,←o2]
   have e3:∀x,Zb (Pd F q) x=Zb (sqf F (Pd F q)) x*Zb (Pd F (Pd F q)) x:=fun x=>by rw [←Zv,←b4]
   refine⟨⟨Xm (sqf F (Pd F q)) B,fun x=>?_⟩,?_⟩
   ·rw [Zv,Zv,e1 x,e2 x,e3 x,hB x]
    show _=Zb (Ew F q) x*_*_
    generalize Zb (sqf F (Pd F q)) x=S
    generalize Zb B x=C
    grind
   ·have h9:Ed (Eu F f (Pd F (Pd F q))) (sqf F (Pd F q)):=hE.trans (Zwf hg.1 hg.2.1 hok2 hok3)
    have h8:=h9.mul_l (c:=Ew F q)
    rw [←o2]at h8
    exact h8
theorem Zqu{F n:Nat}{p:List Int}(hp:Tr p)(h0:p≠[])(hs:Sz n p)(hn:n≤220)(hl:p.length≤11)(hF:p.length≤F+1){o:List Int}(ho:Tr o)(o0:o≠[])(hok:Fa F o)(hpk:Fa F p)(h:Ed o (sqf F p)):(Pd F o).length=1∧sqf F o=Yt o:=by
 obtain⟨a1,a2,a3,a4,a5⟩:=Qb ho o0 hok
 obtain⟨f1,f2,f3,f4,f5,f6⟩:=Pu (F:=F) hp h0 hpk
 obtain⟨-,s2,s3,s4,s5,s6⟩:=Pu (F:=F) ho o0 hok
 have ht:Tr (Yt o):=Ob (Yq ho)
 have hd:=Zci ht (Oq ht) hok
 have e1:Ed (Pd F o) (Yt o):=hd.1.ed
 have e2:Ed (Pd F o) (ld (Yt o)):=(hd.2.ed:Ed (Pd F o) (Yo (Yt o))).congr fun x=>Mo _ x
 have hsim:Sim (Yt o) o:=(Kn (Zu o)).trans (Xz ho)
 obtain⟨k,w,hk,hkw⟩:Ed (Yt o) (sqf F p):=by
  obtain⟨k,w,hk,e⟩:=h
  obtain⟨c,d,hc,hd',hcd⟩:=hsim
  have hcd':∀x:Rat,(c:Rat)*Zb (Yt o) x=(d:Rat)*Zb o x:=fun x=>by
   rw [←Zg,←Zg];exact Pr x _ _ fun i=>by rw [Xr,Xr];exact hcd i
  exact⟨d*k,w.map fun a=>c*a,Int.mul_ne_zero hd' hk,fun x=>by
   rw [Zg];have a:=e x;have b:=hcd' x;push_cast;grind⟩
 have hlen:(Pd F o).length≤1:=by
  refine Zeh hp h0 hpk a1 (e1.trans ⟨k,w,hk,hkw⟩) ?_
  have h1:Ed (Pd F o) (lmul w (ld (Yt o))):=by
   obtain⟨m,z,hm,e⟩:=e2
   exact⟨m,lmul w z,hm,fun x=>by rw [Zq,Zq];have:=e x;grind⟩
  have h2:Ed (Pd F o) (ld (sqf F p)):=Ed.lin e1 h1 (ld w) k hk fun x=>by
   have:=Hj (p:=(sqf F p).map fun a=>k*a) (q:=lmul w (Yt o)) (fun y=>by rw [Zg,Zq];exact hkw y) x
   rw [Cz,Dc]at this
   rw [Zq,this]
  exact h2.congr fun x=>(Mo _ x).symm
 have hl1:(Pd F o).length=1:=by have:=List.length_pos_iff.2 a2;omega
 refine⟨hl1,?_⟩
 rw [Yib a1 a3 hl1,Znx s2]at a4
 exact a4.symm
theorem Zei{a b:List Int}(h:Sim a b):∃c d:Int,c≠0∧d≠0∧∀x:Rat,(c:Rat)*Zb a x=(d:Rat)*Zb b x:=by
 obtain⟨c,d,hc,hd,e⟩:=h
 exact⟨c,d,hc,hd,fun x=>by rw [←Zg,←Zg];exact Pr x _ _ fun i=>by rw [Xr,Xr];exact e i⟩
theorem Hs{x:Rat}(h:x≠0):0<x*x:=by
 rcases(show 0<x∨x<0 by grind)with q | q
 ·exact Rat.mul_pos q q
 ·have:=Rat.mul_pos (a:=-x) (b:=-x) O4 O4;grind
theorem Qs{c:Int}(h:c≠0):(c:Rat)≠0:=fun e=>h (by exact_mod_cast e)
theorem Zez{a b a' b' c d:Rat}(hc:c≠0)(hd:d≠0)(e1:c*a'=d*a)(e2:c*b'=d*b)(h:a*b<0):a'*b'<0:=by
 have h1:(c*c)*(a'*b')=(d*d)*(a*b):=O4
 have h2:=Hs hc
 have h3:=Hs hd
 rcases(show a'*b'<0∨0≤a'*b' by grind)with q | q
 ·exact q
 ·have h4:=Rat.mul_nonneg (a:=c*c) (b:=a'*b') O4 q
  have h5:=Rat.mul_pos (a:=d*d) (b:=-(a*b)) h3 O4
  grind
theorem Yc6{o1 o2 B1 B2:Rat}(h:o1*(B1*B1)*(o2*(B2*B2))<0):o1*o2<0:=by
 rcases(show o1*o2<0∨0≤o1*o2 by grind)with q | q
 ·exact q
 ·have h1:0≤B1*B2*(B1*B2):=by
   by_cases hz:B1*B2=0
   ·rw [hz];grind
   ·exact Rat.le_of_lt (Hs hz)
  have h2:=Rat.mul_nonneg q h1
  grind
theorem Zmf{F n:Nat}{p o:List Int}(hp:Tr p)(h0:p≠[])(hs:Sz n p)(hn:n≤220)(hl:p.length≤11)(hF:p.length≤F+1)(ho:o=Eu F p.length (Yt p))(hot:Tr o)(o0:o≠[])(hC:Cv F o){a b:Rat}(hab:a<b)(h1:Fg p.length p a=1)(h2:Zb p b<0):Bm F o b<Bm F o a:=by
 have hD:=Dp.start hp h0
 have hokn:=(hD.ok hp h0 hs hn hl hF).2
 have hokp:Fa F p:=by unfold Fa at hokn ⊢;rwa [hD.2.2.1]at hokn
 obtain⟨⟨B,hB⟩,hE⟩:=Gi hp h0 hs hn hl hF p.length (Yt p) hD (by rw [Qr hp];exact Nat.le_refl _)
 rw [←ho]at hB hE
 rw [Ea hD.2.2.1]at hE
 obtain⟨-,hsq⟩:=Zqu hp h0 hs hn hl hF hot o0 hC.1.2.2.1 hokp hE
 obtain⟨δ,d1,d2⟩:=Cn p.length p a (Nat.le_refl _)
 obtain⟨s,s1,s2,s3⟩:∃s,a<s∧s≤a+δ∧s<b:=by
  rcases(show a+δ<b∨b≤a+δ by grind)with q | q
  ·exact⟨a+δ,O4,O4,q⟩
  ·exact⟨(a+b)/2,O4,O4,O4⟩
 have hps:0<Zb p s:=by
  have:=d2 s s1 s2
  rw [h1]at this
  rcases Qp (Zb p s)with⟨h5,h6⟩ | ⟨h5,h6⟩ | ⟨h5,h6⟩
  ·exact h5
  ·rw [h6]at this;exact absurd this O3
  ·rw [h6]at this;exact absurd this O3
 have k1:Zb p s*Zb p b<0:=by have:=Rat.mul_pos (a:=Zb p s) (b:=-Zb p b) hps O4;grind
 obtain⟨c,d,hc,hd,e⟩:=Zei ((Kn (Zu p)).trans (Xz hp):Sim (Yt p) p)
 have k2:Zb (Yt p) s*Zb (Yt p) b<0:=Zez (Qs hc) (Qs hd) (e s) (e b) k1
 rw [hB s,hB b]at k2
 have k3:=Yc6 k2
 obtain⟨c',d',hc',hd',e'⟩:=Zei ((Kn (Zu o)).trans (Xz hot):Sim (Yt o) o)
 have k4:Zb (Yt o) s*Zb (Yt o) b<0:=Zez (Qs hc') (Qs hd') (e' s) (e' b) k3
 rw [←hsq]at k4
 have m1:=Zij hot o0 hC (Rat.le_of_lt s1)
 rcases Int.lt_or_le (Bm F o b) (Bm F o s)with q | q
 ·exact Int.lt_of_lt_of_le q m1
 ·exfalso
  have hz:Zb (sqf F o) s≠0:=fun e9=>by rw [e9]at k4;grind
  have:=Zcq hot o0 hC (Rat.le_of_lt s3) q hz b (Rat.le_of_lt s3) O4
  grind
theorem Zft:∀(n:Nat) (p:List Int) (x:Rat),Tr p→p≠[]→p.length≤n→Fg n p x≠0
 | 0,p,x,_,h0,hl=>absurd (List.eq_nil_of_length_eq_zero O) h0
 | n+1,p,x,hp,h0,hl=>by
  unfold Fg
  by_cases h:Zb p x≠0
  ·rw [if_pos h]
   rcases Qp (Zb p x)with⟨h5,h6⟩ | ⟨h5,h6⟩ | ⟨h5,h6⟩
   ·rw [h6];decide
   ·rw [h6];decide
   ·exact absurd h5 h
  ·rw [if_neg h]
   have hz:Zb p x=0:=Classical.not_not.1 h
   have ld':=Oi p
   refine Zft n (Yo p) x (Oq hp) (fun e=>?_) O
   rw [e]at ld'
   have l0:=List.length_pos_iff.2 h0
   have hl1:p.length=1:=by simp at ld';omega
   match p,hl1 with
   | [c],_=>
    have hc:c≠0:=hp.mem O5
    rw [Qj]at hz
    exact Qs hc hz
theorem Zpo(n:Nat)(p:List Int)(x:Rat):-1≤Fg n p x∧Fg n p x≤1:=by
 induction n generalizing p with
 | zero=>show -1≤(0:Int)∧(0:Int)≤1;decide
 | succ n ih=>unfold Fg;split;exact Yb4 _;exact ih _
def Bg(F:Nat)(o:List Int)(a b:Rat):Prop:=0<Bm F o a-Bm F o b-(if Zb o b=0 then 1 else 0)
theorem Ydf{F n:Nat}{p o:List Int}(hp:Tr p)(h0:p≠[])(hs:Sz n p)(hn:n≤220)(hl:p.length≤11)(hF:p.length≤F+1)(ho:o=Eu F p.length (Yt p))(hot:Tr o)(o0:o≠[])(hC:Cv F o){a b:Rat}(hab:a<b) :
  (Zb p a<0∨Zb p b<0∨Fg p.length p a<0∨Bg F o a b)↔(Fg p.length p a<0∨Bg F o a b):=by
 constructor
 ·rintro(h | h | h | h)
  ·left
   rw [Zu5 p.length p a O4 (Nat.le_refl _),Zl0 h];decide
  ·have r:=Zpo p.length p a
   have r0:=Zft p.length p a hp h0 (Nat.le_refl _)
   rcases(show Fg p.length p a<0∨Fg p.length p a=1 by omega)with h1 | h1
   ·exact .inl h1
   ·right
    have hv:=Zmf hp h0 hs hn hl hF ho hot o0 hC hab h1 h
    have hD:=Dp.start hp h0
    obtain⟨⟨B,hB⟩,-⟩:=Gi hp h0 hs hn hl hF p.length (Yt p) hD (by rw [Qr hp];exact Nat.le_refl _)
    rw [←ho]at hB
    obtain⟨c,d,hc,hd,e⟩:=Zei ((Kn (Zu p)).trans (Xz hp):Sim (Yt p) p)
    have hob:Zb o b≠0:=fun e9=>by
     have h5:(c:Rat)*Zb (Yt p) b=(d:Rat)*Zb p b:=e b
     rw [hB b,e9]at h5
     have h6:=Qs hd
     have h7:(d:Rat)*Zb p b=0:=by rw [←h5];grind
     rcases Rat.mul_eq_zero.1 h7 with q | q
     ·exact h6 q
     ·rw [q]at h;grind
    unfold Bg
    rw [if_neg hob]
    omega
  ·exact .inl h
  ·exact .inr h
 ·rintro(h | h)
  ·exact .inr (.inr (.inl h))
  ·exact .inr (.inr (.inr h))
theorem Zzv(p:List Int)(x:Rat)(h:Zb p x≠0):∃δ:Rat,0<δ∧∀y,x-δ≤y→y≤x→Fh (Zb p y)=Fh (Zb p x):=by
 obtain⟨L,l1,l2⟩:=Db (x-1) x p
 have ha:0<(if 0<Zb p x then Zb p x else -Zb p x):=by split<;>grind
 obtain⟨δ,d1,d2,d3⟩:=Ip (show(0:Rat)<1 by decide) (show 0<L+1 by grind) (show 0<(if 0<Zb p x then Zb p x else -Zb p x)/2 by grind)
 refine⟨δ,d1,fun y h1 h2=>?_⟩
 have l:=l2 y x O4 O4 O4
 have b:=Rat.mul_nonneg (a:=L) (b:=δ-(x-y)) O4 O4
 have c:L*(x-y)≤δ*(L+1):=O4
 rcases Qp (Zb p x)with⟨h3,h4⟩ | ⟨h3,h4⟩ | ⟨h3,h4⟩
 ·rw [if_pos h3]at d3 ha;rw [h4];exact Zvy O4
 ·rw [if_neg O4]at d3 ha;rw [h4];exact Zl0 O4
 ·exact absurd h3 h
theorem rsg_1{x:Rat}(h:Fh x=1):0<x:=by
 rcases Qp x with⟨h5,h6⟩ | ⟨h5,h6⟩ | ⟨h5,h6⟩
 ·exact h5
 ·rw [h6]at h;exact absurd h O3
 ·rw [h6]at h;exact absurd h O3
theorem Zne{x:Rat}(h:Fh x=-1):x<0:=by
 rcases Qp x with⟨h5,h6⟩ | ⟨h5,h6⟩ | ⟨h5,h6⟩
 ·rw [h6]at h;exact absurd h O3
 ·exact h5
 ·rw [h6]at h;exact absurd h O3
def Zsr(p:List Int)(a b:Rat):Prop:=∃x,a≤x∧x≤b∧Zb p x<0
theorem Yey {xs:List Int} {F:Nat} (hx:Tr xs) (h0:xs≠[]) (hC:Cv F xs) {a b σ:Rat} (hσ:σ≠0) (hab:a<b)
  (hpos:∀x,a≤x→x<b→∃δ:Rat,0<δ∧∀y,x<y→y≤x+δ→y≤b→0<σ*Zb (sqf F xs) y) :
  Bm F xs a-Bm F xs b≤(if Zb (sqf F xs) b=0 then 1 else 0):=by
 obtain⟨h,h1,h2⟩:=Zkt hx h0 hC a b
 have hge:∀x,a≤x→x<b→0≤σ*Zb (sqf F xs) x:=fun x ha hb=>by
  rcases(show 0≤σ*Zb (sqf F xs) x∨σ*Zb (sqf F xs) x<0 by grind)with q | q
  ·exact q
  ·exfalso
   have hz:Zb (sqf F xs) x≠0:=fun e=>by rw [e]at q;grind
   obtain⟨δ,d1,d2⟩:=hpos x ha hb
   obtain⟨ε,e1,e2⟩:=Zmg (sqf F xs) x hz
   obtain⟨y,y1,y2,y3,y4⟩:∃y,x<y∧y≤x+δ∧y≤x+ε∧y≤b:=by
    rcases(show δ≤ε∨ε≤δ by grind)with w | w
    ·rcases(show x+δ≤b∨b≤x+δ by grind)with v | v
     ·exact⟨x+δ,O4,O4,O4,v⟩
     ·exact⟨b,O4,O4,O4,O4⟩
    ·rcases(show x+ε≤b∨b≤x+ε by grind)with v | v
     ·exact⟨x+ε,O4,O4,O4,v⟩
     ·exact⟨b,O4,O4,O4,O4⟩
   have k1:=d2 y y1 y2 y4
   have k2:=e2 y y1 y3
   rcases Qp (Zb (sqf F xs) x)with⟨h5,h6⟩ | ⟨h5,h6⟩ | ⟨h5,h6⟩
   ·rw [h6]at k2
    have k3:=rsg_1 k2
    rcases(show σ<0∨0<σ by grind)with s | s
    ·have:=Rat.mul_pos (a:=-σ) (b:=Zb (sqf F xs) y) O4 k3;grind
    ·have:=Rat.mul_pos s h5;grind
   ·rw [h6]at k2
    have k3:=Zne k2
    rcases(show σ<0∨0<σ by grind)with s | s
    ·have:=Rat.mul_pos (a:=-σ) (b:=-Zb (sqf F xs) x) O4 O4;grind
    ·have:=Rat.mul_pos (a:=σ) (b:=-Zb (sqf F xs) y) s O4;grind
   ·exact hz h5
 have hgb:0≤σ*Zb (sqf F xs) b:=by
  rcases(show 0≤σ*Zb (sqf F xs) b∨σ*Zb (sqf F xs) b<0 by grind)with q | q
  ·exact q
  ·exfalso
   have hz:Zb (sqf F xs) b≠0:=fun e=>by rw [e]at q;grind
   obtain⟨ε,e1,e2⟩:=Zzv (sqf F xs) b hz
   obtain⟨y,y1,y2,y3⟩:∃y,a≤y∧y<b∧b-ε≤y:=by
    rcases(show a≤b-ε∨b-ε≤a by grind)with v | v
    ·exact⟨b-ε,v,O4,O4⟩
    ·exact⟨a,O4,hab,v⟩
   obtain⟨δ,d1,d2⟩:=hpos y y1 y2
   obtain⟨z,z1,z2,z3⟩:∃z,y<z∧z≤y+δ∧z≤b:=by
    rcases(show y+δ≤b∨b≤y+δ by grind)with v | v
    ·exact⟨y+δ,O4,O4,v⟩
    ·exact⟨b,y2,O4,O4⟩
   have k1:=d2 z z1 z2 z3
   have k2:=e2 z O4 z3
   rcases Qp (Zb (sqf F xs) b)with⟨h5,h6⟩ | ⟨h5,h6⟩ | ⟨h5,h6⟩
   ·rw [h6]at k2
    have k3:=rsg_1 k2
    rcases(show σ<0∨0<σ by grind)with s | s
    ·have:=Rat.mul_pos (a:=-σ) (b:=Zb (sqf F xs) z) O4 k3;grind
    ·have:=Rat.mul_pos s h5;grind
   ·rw [h6]at k2
    have k3:=Zne k2
    rcases(show σ<0∨0<σ by grind)with s | s
    ·have:=Rat.mul_pos (a:=-σ) (b:=-Zb (sqf F xs) b) O4 O4;grind
    ·have:=Rat.mul_pos (a:=σ) (b:=-Zb (sqf F xs) z) s O4;grind
   ·exact hz h5
 have hstep:∀u v,a≤u→u≤v→v≤b→v-u≤h/2→Bm F xs u-Bm F xs v≤(if v=b∧Zb (sqf F xs) b=0 then 1 else 0):=fun u v c1 c2 c3 c4=>by
  have e:=h2 u v c1 c2 c3 O4
  have e':Bm F xs u-Bm F xs v=crs (Zb (sqf F xs)) u v:=e
  rw [e']
  unfold crs
  by_cases hc:Zb (sqf F xs) u≠0∧Zb (sqf F xs) u*Zb (sqf F xs) v≤0
  ·rw [if_pos hc]
   have hub:u<b:=by
    rcases(show u<b∨u=b by grind)with q | q
    ·exact q
    ·exfalso
     have:v=u:=O4
     subst this
     have:=Hs hc.1;grind
   have g1:=hge u c1 hub
   have g2:0≤σ*Zb (sqf F xs) v:=by
    rcases(show v<b∨v=b by grind)with q | q
    ·exact hge v O4 q
    ·rw [q];exact hgb
   have hv0:Zb (sqf F xs) v=0:=by
    rcases(show Zb (sqf F xs) v=0∨Zb (sqf F xs) v≠0 by grind)with q | q
    ·exact q
    ·exfalso
     have m1:=Rat.mul_nonneg g1 g2
     have m2:=Hs hσ
     have m3:(σ*σ)*(Zb (sqf F xs) u*Zb (sqf F xs) v)≥0:=O4
     rcases(show Zb (sqf F xs) u*Zb (sqf F xs) v<0∨Zb (sqf F xs) u*Zb (sqf F xs) v=0 by grind)with w | w
     ·have:=Rat.mul_pos m2 (show 0 < -(Zb (sqf F xs) u*Zb (sqf F xs) v) by grind);grind
     ·rcases Rat.mul_eq_zero.1 w with z | z
      ·exact hc.1 z
      ·exact q z
   rcases(show v<b∨v=b by grind)with q | q
   ·exfalso
    obtain⟨δ,d1,d2⟩:=hpos v O4 q
    obtain⟨z,z1,z2,z3,z4⟩:∃z,v<z∧z≤v+δ∧z≤b∧z-v≤h/2:=by
     rcases(show δ≤h/2∨h/2≤δ by grind)with w | w
     ·rcases(show v+δ≤b∨b≤v+δ by grind)with t | t
      ·exact⟨v+δ,O4,O4,t,O4⟩
      ·exact⟨b,q,O4,O4,O4⟩
     ·rcases(show v+h/2≤b∨b≤v+h/2 by grind)with t | t
      ·exact⟨v+h/2,O4,O4,t,O4⟩
      ·exact⟨b,q,O4,O4,O4⟩
    have k1:=d2 z z1 z2 z3
    have a1:=h2 u z c1 O4 z3 O4
    have a2:=h2 v z O4 O4 z3 O4
    have r1:crs (Zb (sqf F xs)) u z=0:=by
     unfold crs
     rw [if_neg]
     rintro⟨w1,w2⟩
     have g3:0<σ*Zb (sqf F xs) u:=by
      rcases(show σ*Zb (sqf F xs) u=0∨0<σ*Zb (sqf F xs) u by grind)with t | t
      ·rcases Rat.mul_eq_zero.1 t with t | t
       ·exact absurd t hσ
       ·exact absurd t w1
      ·exact t
     have m1:=Rat.mul_pos g3 k1
     have m2:=Hs hσ
     have m3:0<(σ*σ)*(Zb (sqf F xs) u*Zb (sqf F xs) z):=O4
     have m4:=Rat.mul_nonneg (a:=σ*σ) (b:=-(Zb (sqf F xs) u*Zb (sqf F xs) z)) O4 O4
     grind
    have r2:crs (Zb (sqf F xs)) v z=0:=by unfold crs;rw [if_neg];rintro⟨w1,w2⟩;exact w1 hv0
    have r3:crs (Zb (sqf F xs)) u v=1:=by unfold crs;rw [if_pos hc]
    rw [r1]at a1;rw [r2]at a2;rw [r3]at e
    omega
   ·rw [q]at hv0
    rw [if_pos ⟨q,hv0⟩];decide
  ·rw [if_neg hc]
   split<;>decide
 have key:∀n:Nat,∀u,a≤u→u≤b→b-u≤(n:Rat)*(h/2)→Bm F xs u-Bm F xs b≤(if Zb (sqf F xs) b=0 then 1 else 0):=fun n=>by
  induction n with
  | zero=>
   intro u c1 c2 c3
   have:u=b:=by push_cast at c3;grind
   subst this
   rw [Int.sub_self]
   split<;>decide
  | succ n ih=>
   intro u c1 c2 c3
   push_cast at c3
   by_cases hy:b-u≤h/2
   ·have:=hstep u b c1 c2 O4 hy
    by_cases hz:Zb (sqf F xs) b=0
    ·rw [if_pos ⟨rfl,hz⟩]at this;rw [if_pos hz];exact this
    ·rw [if_neg (fun e=>hz e.2)]at this;rw [if_neg hz];exact this
   ·have i1:=ih (u+h/2) O4 O4 O4
    have i2:=hstep u (u+h/2) c1 O4 O4 O4
    rw [if_neg (fun e=>by have:=e.1;grind)]at i2
    generalize (if Zb (sqf F xs) b=0 then(1:Int)else 0)=t at *
    omega
 obtain⟨n,hn⟩:=Zfs (b-a) (show 0<h/2 by grind)
 exact key n a O4 O4 hn
structure Odp (F n:Nat) (p o:List Int):Prop where
 tr:Tr p
 ne:p≠[]
 sz:Sz n p
 hn:n≤220
 hl:p.length≤11
 hF:p.length≤F+1
 eq:o=Eu F p.length (Yt p)
 otr:Tr o
 one:o≠[]
 ok:Cv F o
theorem Odp.sq{F n:Nat}{p o:List Int}(h:Odp F n p o):∃(c d:Int) (B:List Int),c≠0∧d≠0∧∀x:Rat,(d:Rat)*Zb p x=(c:Rat)*(Zb o x*(Zb B x*Zb B x)):=by
 have hD:=Dp.start h.tr h.ne
 obtain⟨⟨B,hB⟩,-⟩:=Gi h.tr h.ne h.sz h.hn h.hl h.hF p.length (Yt p) hD (by rw [Qr h.tr];exact Nat.le_refl _)
 rw [←h.eq]at hB
 obtain⟨c,d,hc,hd,e⟩:=Zei ((Kn (Zu p)).trans (Xz h.tr):Sim (Yt p) p)
 exact⟨c,d,B,hc,hd,fun x=>by rw [←hB x];exact(e x).symm⟩
theorem Odp.sqf{F n:Nat}{p o:List Int}(h:Odp F n p o):Go.Sky.sqf F o=Yt o:=by
 have hD:=Dp.start h.tr h.ne
 have hokn:=(hD.ok h.tr h.ne h.sz h.hn h.hl h.hF).2
 have hokp:Fa F p:=by unfold Fa at hokn ⊢;rwa [hD.2.2.1]at hokn
 obtain⟨-,hE⟩:=Gi h.tr h.ne h.sz h.hn h.hl h.hF p.length (Yt p) hD (by rw [Qr h.tr];exact Nat.le_refl _)
 rw [←h.eq]at hE
 rw [Ea hD.2.2.1]at hE
 exact(Zqu h.tr h.ne h.sz h.hn h.hl h.hF h.otr h.one h.ok.1.2.2.1 hokp hE).2
theorem Odp.srt{F n:Nat}{p o:List Int}(h:Odp F n p o):∃c d:Int,c≠0∧d≠0∧∀x:Rat,(c:Rat)*Zb (Go.Sky.sqf F o) x=(d:Rat)*Zb o x:=by
 rw [h.sqf]
 exact Zei ((Kn (Zu o)).trans (Xz h.otr):Sim (Yt o) o)
theorem Odp.zero{F n:Nat}{p o:List Int}(h:Odp F n p o)(x:Rat):Zb (Go.Sky.sqf F o) x=0↔Zb o x=0:=by
 obtain⟨c,d,hc,hd,e⟩:=h.srt
 have e1:=e x
 constructor
 ·intro z;rw [z]at e1;rcases Rat.mul_eq_zero.1 (show(d:Rat)*Zb o x=0 by grind)with q | q
  ·exact absurd q (Qs hd)
  ·exact q
 ·intro z;rw [z]at e1;rcases Rat.mul_eq_zero.1 (show(c:Rat)*Zb (Go.Sky.sqf F o) x=0 by grind)with q | q
  ·exact absurd q (Qs hc)
  ·exact q
theorem Odp.nz{F n:Nat}{p o:List Int}(h:Odp F n p o){x:Rat}(hx:Zb p x≠0):Zb o x≠0:=fun z=>by
 obtain⟨c,d,B,hc,hd,e⟩:=h.sq
 have e1:=e x
 rw [z]at e1
 rcases Rat.mul_eq_zero.1 (show(d:Rat)*Zb p x=0 by grind)with q | q
 ·exact Qs hd q
 ·exact hx q
theorem Odp.opp{F n:Nat}{p o:List Int}(h:Odp F n p o){x y:Rat}(hxy:Zb p x*Zb p y<0):Zb o x*Zb o y<0∧Zb (Go.Sky.sqf F o) x*Zb (Go.Sky.sqf F o) y<0:=by
 obtain⟨c,d,B,hc,hd,e⟩:=h.sq
 have k1:(Zb o x*(Zb B x*Zb B x))*(Zb o y*(Zb B y*Zb B y))<0:=Zez (Qs hc) (Qs hd) (e x).symm (e y).symm hxy
 have k2:=Yc6 k1
 obtain⟨c',d',hc',hd',e'⟩:=h.srt
 exact⟨k2,Zez (Qs hc') (Qs hd') (e' x) (e' y) k2⟩
theorem Odp.sem{F n:Nat}{p o:List Int}(h:Odp F n p o){a b:Rat}(hab:a<b):(Fg p.length p a<0∨Bg F o a b)↔Zsr p a b:=by
 have hsame:=Ydf h.tr h.ne h.sz h.hn h.hl h.hF h.eq h.otr h.one h.ok hab
 constructor
 ·rintro(h1 | h1)
  ·obtain⟨δ,d1,d2⟩:=Cn p.length p a (Nat.le_refl _)
   have r:=Zpo p.length p a
   have hm:Fg p.length p a=-1:=O
   rcases(show a+δ≤b∨b≤a+δ by grind)with q | q
   ·exact⟨a+δ,O4,q,Zne (by rw [d2 (a+δ) O4 O4,hm])⟩
   ·exact⟨b,O4,O4,Zne (by rw [d2 b hab q,hm])⟩
  ·rcases Classical.em (Zsr p a b)with q | q
   ·exact q
   ·exfalso
    have hge:∀x,a≤x→x≤b→0≤Zb p x:=fun x u v=>by
     rcases(show 0≤Zb p x∨Zb p x<0 by grind)with w | w
     ·exact w
     ·exact absurd ⟨x,u,v,w⟩ q
    have haft:∀x,a≤x→x<b→∃δ:Rat,0<δ∧∀y,x<y→y≤x+δ→y≤b→0<Zb p y:=fun x u v=>by
     obtain⟨δ,d1,d2⟩:=Cn p.length p x (Nat.le_refl _)
     have r:=Zpo p.length p x
     have r0:=Zft p.length p x h.tr h.ne (Nat.le_refl _)
     refine⟨δ,d1,fun y c1 c2 c3=>?_⟩
     have s:=d2 y c1 c2
     rcases Qp (Zb p y)with⟨h5,h6⟩ | ⟨h5,h6⟩ | ⟨h5,h6⟩
     ·exact h5
     ·have:=hge y O4 c3;grind
     ·rw [h6]at s;exact absurd s.symm r0
    obtain⟨δ,d1,d2⟩:=haft a O4 hab
    obtain⟨z,z1,z2,z3⟩:∃z,a<z∧z≤a+δ∧z≤b:=by
     rcases(show a+δ≤b∨b≤a+δ by grind)with w | w
     ·exact⟨a+δ,O4,O4,w⟩
     ·exact⟨b,hab,w,O4⟩
    have hz:=d2 z z1 z2 z3
    have hσ:Zb (Go.Sky.sqf F o) z≠0:=fun e=>h.nz (x:=z) O4 ((h.zero z).1 e)
    have hf:=Yey h.otr h.one h.ok (σ:=Zb (Go.Sky.sqf F o) z) hσ hab (fun x u v=>by
     obtain⟨ε,e1,e2⟩:=haft x u v
     refine⟨ε,e1,fun y c1 c2 c3=>?_⟩
     have hy:=e2 y c1 c2 c3
     have hyn:Zb (Go.Sky.sqf F o) y≠0:=fun e=>h.nz (x:=y) O4 ((h.zero y).1 e)
     rcases(show 0<Zb (Go.Sky.sqf F o) z*Zb (Go.Sky.sqf F o) y∨Zb (Go.Sky.sqf F o) z*Zb (Go.Sky.sqf F o) y<0∨Zb (Go.Sky.sqf F o) z*Zb (Go.Sky.sqf F o) y=0 by grind)with w | w | w
     ·exact w
     ·exfalso
      obtain⟨c,d,B,hc,hd,e⟩:=h.sq
      obtain⟨c',d',hc',hd',e'⟩:=h.srt
      have w1:Zb o z*Zb o y<0:=Zez (Qs hd') (Qs hc') (e' z).symm (e' y).symm w
      have p1:=Rat.mul_pos hz hy
      have q1:((d:Rat)*(d:Rat))*(Zb p z*Zb p y)=((c:Rat)*(c:Rat))*((Zb o z*Zb o y)*((Zb B z*Zb B y)*(Zb B z*Zb B y))):=by
       have a1:=e z
       have a2:=e y
       have:((d:Rat)*Zb p z)*((d:Rat)*Zb p y)=((c:Rat)*(Zb o z*(Zb B z*Zb B z)))*((c:Rat)*(Zb o y*(Zb B y*Zb B y))):=by rw [a1,a2]
       grind
      have q2:=Rat.mul_pos (Hs (Qs hd)) p1
      have q3:0≤(Zb B z*Zb B y)*(Zb B z*Zb B y):=by
       by_cases t:Zb B z*Zb B y=0
       ·rw [t];grind
       ·exact Rat.le_of_lt (Hs t)
      have q4:=Rat.mul_nonneg (Rat.le_of_lt (Hs (Qs hc))) (Rat.mul_nonneg (show 0≤-(Zb o z*Zb o y) by grind) q3)
      grind
     ·rcases Rat.mul_eq_zero.1 w with t | t
      ·exact absurd t hσ
      ·exact absurd t hyn)
    unfold Bg at h1
    by_cases hb0:Zb o b=0
    ·rw [if_pos hb0]at h1;rw [if_pos ((h.zero b).2 hb0)]at hf;omega
    ·rw [if_neg hb0]at h1;rw [if_neg (fun e=>hb0 ((h.zero b).1 e))]at hf;omega
 ·rintro⟨x,x1,x2,x3⟩
  rcases(show x=a∨x=b∨(a<x∧x<b) by grind)with q | q | ⟨q1,q2⟩
  ·subst q;exact hsame.1 (.inl x3)
  ·subst q;exact hsame.1 (.inr (.inl x3))
  ·have r:=Zpo p.length p a
   have r0:=Zft p.length p a h.tr h.ne (Nat.le_refl _)
   rcases(show Fg p.length p a<0∨Fg p.length p a=1 by omega)with h1 | h1
   ·exact .inl h1
   ·right
    have hv:=Zmf h.tr h.ne h.sz h.hn h.hl h.hF h.eq h.otr h.one h.ok q1 h1 x3
    have m1:=Zij h.otr h.one h.ok (Rat.le_of_lt q2)
    unfold Bg
    by_cases hb0:Zb o b=0
    ·rw [if_pos hb0]
     have hx:Zb (Go.Sky.sqf F o) x≠0:=fun e=>h.nz (x:=x) O4 ((h.zero x).1 e)
     rcases Int.lt_or_le (Bm F o b) (Bm F o x)with w | w
     ·omega
     ·exfalso
      have:=Zcq h.otr h.one h.ok (Rat.le_of_lt q2) w hx b (Rat.le_of_lt q2) O4
      rw [(h.zero b).2 hb0]at this
      grind
    ·rw [if_neg hb0];omega
theorem Zrh(g:Rat→Rat){h:Rat}(hh:0<h):∀(n:Nat) (u v:Rat),u<v→v-u≤(n:Rat)*h→g u*g v<0→∃x y,u≤x∧x<y∧y≤v∧y-x≤h∧g x≠0∧g x*g y≤0
 | 0,u,v,a,b,_=>by push_cast at b;grind
 | n+1,u,v,a,b,c=>by
  push_cast at b
  have hu:g u≠0:=fun e=>by rw [e]at c;grind
  by_cases hd:v-u≤h
  ·exact⟨u,v,O4,a,O4,hd,hu,O4⟩
  ·rcases(show g u*g (u+h)≤0∨0<g u*g (u+h) by grind)with q | q
   ·exact⟨u,u+h,O4,O4,O4,O4,hu,q⟩
   ·have hz:g (u+h)*g v<0:=by
     have s1:=Hs hu
     rcases(show g (u+h)*g v<0∨0≤g (u+h)*g v by grind)with w | w
     ·exact w
     ·have m1:=Rat.mul_pos q (show 0 < -(g u*g v) by grind)
      have m2:=Rat.mul_nonneg (Rat.le_of_lt s1) w
      grind
    obtain⟨x,y,i1,i2,i3,i4,i5,i6⟩:=Zrh g hh n (u+h) v O4 O4 hz
    exact⟨x,y,O4,i2,i3,i4,i5,i6⟩
theorem Zmd{a b c:Rat}(h:a*b<0)(h1:a-b≤c)(h2:b-a≤c):-c≤a∧a≤c:=by
 rcases(show 0<a∨a<0∨a=0 by grind)with q | q | q
 ·have:b<0:=by
   rcases(show b<0∨0≤b by grind)with w | w
   ·exact w
   ·have:=Rat.mul_nonneg (Rat.le_of_lt q) w;grind
  grind
 ·have:0<b:=by
   rcases(show 0<b∨b≤0 by grind)with w | w
   ·exact w
   ·have:=Rat.mul_nonneg (show 0≤-a by grind) (show 0≤-b by grind);grind
  grind
 ·rw [q]at h;grind
theorem Zrt{xs o:List Int}{F:Nat}(hx:Tr xs)(h0:xs≠[])(hC:Cv F xs)(ho:Tr o)(o0:o≠[])(hE:Ed o (sqf F xs)){u v:Rat}(huv:u<v)(hu:Zb (sqf F xs) u≠0)(h:Zb o u*Zb o v<0):Bm F xs v<Bm F xs u:=by
 rcases Int.lt_or_le (Bm F xs v) (Bm F xs u)with q | q
 ·exact q
 ·exfalso
  have hk:=Zcq hx h0 hC (Rat.le_of_lt huv) q hu
  obtain⟨k,w,k0,hw⟩:=hE
  have hkr:=Qs k0
  have hcop:∀d,Tr d→Ed d o→Ed d (tzl w)→d.length≤1:=fun d hd e1 e2=>by
   obtain⟨k1,s1,c1,r1⟩:=e1
   obtain⟨k2,s2,c2,r2⟩:=e2
   refine Zeh hx h0 hC.1.2.2.1 hd ⟨k*k1,lmul w s1,Int.mul_ne_zero k0 c1,fun x=>?_⟩ ⟨k*k1*k2,Nj ((lmul (ld w) s1).map fun a=>k2*a) ((lmul s2 (ld o)).map fun a=>k1*a),Int.mul_ne_zero (Int.mul_ne_zero k0 c1) c2,fun x=>?_⟩
   ·rw [Zq];have a1:=hw x;have a2:=r1 x;push_cast;grind
   ·rw [Yw,Zg,Zg,Zq,Zq,Mo]
    have a0:=Hj (p:=(sqf F xs).map fun a=>k*a) (q:=lmul w o) (fun y=>by rw [Zg,Zq];exact hw y) x
    rw [Cz,Dc]at a0
    have a2:=r1 x
    have a3:=r2 x
    rw [Ng]at a3
    push_cast
    have b1:(k:Rat)*k1*k2*Zb (ld (sqf F xs)) x=(k1:Rat)*k2*(Zb (ld w) x*Zb o x+Zb w x*Zb (ld o) x):=by rw [←a0];grind
    rw [b1]
    have b2:(k1:Rat)*k2*(Zb (ld w) x*Zb o x+Zb w x*Zb (ld o) x)=(k2:Rat)*(Zb (ld w) x*((k1:Rat)*Zb o x))+(k1:Rat)*(((k2:Rat)*Zb w x)*Zb (ld o) x):=O4
    rw [b2,a2,a3]
    grind
  obtain⟨ε,e1,e2⟩:=Zxp ho (Qm w) o0 hcop u v
  obtain⟨L1,l1,l2⟩:=Db u v o
  obtain⟨L2,m1,m2⟩:=Db u v w
  obtain⟨h',d1,-,d3⟩:=Ip (show(0:Rat)<1 by decide) (show 0<L1+L2 by grind) (show 0<ε/2 by grind)
  obtain⟨n,hn⟩:=Zfs (v-u) d1
  obtain⟨x,y,x1,x2,x3,x4,x5,x6⟩:=Zrh (Zb o) d1 n u v huv hn h
  have sx:=hk x x1 O4
  have sy:=hk y O4 x3
  have ox:=hw x
  have oy:=hw y
  have hy0:Zb o y≠0:=fun e=>by
   rw [e]at oy
   rcases Rat.mul_eq_zero.1 (show(k:Rat)*Zb (sqf F xs) y=0 by grind)with t | t
   ·exact hkr t
   ·rw [t]at sy;grind
  have hoo:Zb o x*Zb o y<0:=by
   rcases(show Zb o x*Zb o y<0∨Zb o x*Zb o y=0 by grind)with t | t
   ·exact t
   ·rcases Rat.mul_eq_zero.1 t with t | t
    ·exact absurd t x5
    ·exact absurd t hy0
  have sxy:0<Zb (sqf F xs) x*Zb (sqf F xs) y:=by
   have a1:=Rat.mul_pos sx sy
   have a2:=Hs hu
   rcases(show 0<Zb (sqf F xs) x*Zb (sqf F xs) y∨Zb (sqf F xs) x*Zb (sqf F xs) y≤0 by grind)with t | t
   ·exact t
   ·have:=Rat.mul_nonneg (Rat.le_of_lt a2) (show 0≤-(Zb (sqf F xs) x*Zb (sqf F xs) y) by grind);grind
  have hww:Zb w x*Zb w y<0:=by
   have a1:(k:Rat)*k*(Zb (sqf F xs) x*Zb (sqf F xs) y)=(Zb w x*Zb w y)*(Zb o x*Zb o y):=by
    have:((k:Rat)*Zb (sqf F xs) x)*((k:Rat)*Zb (sqf F xs) y)=(Zb w x*Zb o x)*(Zb w y*Zb o y):=by rw [ox,oy]
    grind
   have a2:=Rat.mul_pos (Hs hkr) sxy
   rcases(show Zb w x*Zb w y<0∨0≤Zb w x*Zb w y by grind)with t | t
   ·exact t
   ·have:=Rat.mul_nonneg t (show 0≤-(Zb o x*Zb o y) by grind);grind
  have c1:=l2 x y x1 O4 x3
  have c2:=m2 x y x1 O4 x3
  have n1:=Rat.mul_nonneg (a:=L1) (b:=h'-(y-x)) O4 O4
  have n2:=Rat.mul_nonneg (a:=L2) (b:=h'-(y-x)) O4 O4
  have n3:=Rat.mul_nonneg (a:=L1) (b:=h') O4 O4
  have n4:=Rat.mul_nonneg (a:=L2) (b:=h') O4 O4
  obtain⟨b1,b2⟩:=Zmd (c:=ε/2) hoo O4 O4
  obtain⟨b3,b4⟩:=Zmd (c:=ε/2) hww O4 O4
  rcases e2 x x1 O4 with t | t
  ·unfold Big at t;grind
  ·unfold Big at t;rw [Ng]at t;grind
theorem Zl2{xs:List Int}{F:Nat}(hx:Tr xs)(h0:xs≠[])(hC:Cv F xs){u v:Rat}(huv:u<v)(hu:Zb (sqf F xs) u≠0)(hv:Zb (sqf F xs) v=0):Bm F xs v<Bm F xs u:=by
 rcases Int.lt_or_le (Bm F xs v) (Bm F xs u)with q | q
 ·exact q
 ·exfalso
  have:=Zcq hx h0 hC (Rat.le_of_lt huv) q hu v (Rat.le_of_lt huv) O4
  rw [hv]at this;grind
theorem Odp.ed{F n:Nat}{p o:List Int}(h:Odp F n p o):Ed o (Go.Sky.sqf F p):=by
 have hD:=Dp.start h.tr h.ne
 obtain⟨-,hE⟩:=Gi h.tr h.ne h.sz h.hn h.hl h.hF p.length (Yt p) hD (by rw [Qr h.tr];exact Nat.le_refl _)
 rw [←h.eq]at hE
 rwa [Ea hD.2.2.1]at hE
theorem Ybf{xs:List Int}{F:Nat}(hx:Tr xs)(h0:xs≠[])(hC:Cv F xs)(x:Rat):Zb xs x=0↔Zb (sqf F xs) x=0:=by
 constructor
 ·intro h
  have hd:(x.den:Int)≠0:=by exact_mod_cast x.den_nz
  have e:((x.num:Int):Rat)/((x.den:Int):Rat)=x:=by rw [←Rat.divInt_eq_div];exact Rat.num_divInt_den x
  have:=Ybh hx h0 hC.1.2.2.1 hd (r:=x.num) (by rw [e];exact h)
  rwa [e]at this
 ·intro h
  obtain⟨g,hg⟩:=Yhr hx h0 hC.1.2.2.1
  rw [hg x,h];grind
theorem Yie {F n:Nat} {p o:List Int} (h:Odp F n p o) (hC:Cv F p) {K:Nat} {e:Nat} (sep:∀u v:Rat,-(K:Rat)≤u→u≤v→v≤(K:Rat)→v-u≤1/((2^e:Nat):Rat)→Bm F p u-Bm F p v≤1)
  {s t:Rat} (h1:-(K:Rat)+1≤s) (h2:t≤(K:Rat)) (hs:0≤Zb p s) (ht:0≤Zb p t) (hn:Zsr p s t):1/((2^(e+1):Nat):Rat)<t-s:=by
 obtain⟨x,x1,x2,x3⟩:=hn
 have y1:s<x:=by rcases(show s<x∨s=x by grind)with q | q;exact q;subst q;grind
 have y2:x<t:=by rcases(show x<t∨x=t by grind)with q | q;exact q;subst q;grind
 obtain⟨f1,f2,f3,f4,f5,f6⟩:=Pu (F:=F) h.tr h.ne hC.1.2.2.1
 have hx0:Zb (Go.Sky.sqf F p) x≠0:=fun z=>by have:=(Ybf h.tr h.ne hC x).2 z;grind
 rcases(show 1/((2^(e+1):Nat):Rat)<t-s∨t-s≤1/((2^(e+1):Nat):Rat) by grind)with q | q
 ·exact q
 ·exfalso
  have hp:=two_pow_pos e
  have hp1:=two_pow_pos (e+1)
  have e2:((2^(e+1):Nat):Rat)=2*((2^e:Nat):Rat):=by rw [Nat.pow_succ];push_cast;grind
  have hi:0<((2^e:Nat):Rat)⁻¹:=Rat.inv_pos.2 hp
  have h2e:1/((2^(e+1):Nat):Rat)=((2^e:Nat):Rat)⁻¹/2:=by rw [e2];grind
  have h1e:1/((2^e:Nat):Rat)=((2^e:Nat):Rat)⁻¹:=O4
  have hle:((2^e:Nat):Rat)⁻¹≤1:=by
   have g1:(1:Rat)≤((2^e:Nat):Rat):=by have:1≤2^e:=Nat.two_pow_pos e;exact_mod_cast this
   have g2:=Rat.mul_nonneg (a:=((2^e:Nat):Rat)-1) (b:=((2^e:Nat):Rat)⁻¹) O4 O4
   have g3:((2^e:Nat):Rat)*((2^e:Nat):Rat)⁻¹=1:=Rat.mul_inv_cancel _ O4
   grind
  obtain⟨u,u1,u2,u3⟩:∃u,s-((2^e:Nat):Rat)⁻¹/2≤u∧u≤s∧Bm F p x<Bm F p u:=by
   by_cases z:Zb (Go.Sky.sqf F p) s=0
   ·obtain⟨δ,d1,d2⟩:=Cn (Go.Sky.sqf F p).length (Go.Sky.sqf F p) (s-((2^e:Nat):Rat)⁻¹/2) (Nat.le_refl _)
    have a0:=Zft (Go.Sky.sqf F p).length (Go.Sky.sqf F p) (s-((2^e:Nat):Rat)⁻¹/2) f2 f3 (Nat.le_refl _)
    obtain⟨u,w1,w2,w3⟩:∃u,s-((2^e:Nat):Rat)⁻¹/2<u∧u≤s-((2^e:Nat):Rat)⁻¹/2+δ∧u<s:=by
     rcases(show s-((2^e:Nat):Rat)⁻¹/2+δ<s∨s≤s-((2^e:Nat):Rat)⁻¹/2+δ by grind)with w | w
     ·exact⟨_,O4,Rat.le_refl,w⟩
     ·exact⟨s-((2^e:Nat):Rat)⁻¹/4,O4,O4,O4⟩
    have hu:Zb (Go.Sky.sqf F p) u≠0:=fun c=>by have:=d2 u w1 w2;rw [c]at this;exact a0 this.symm
    have m1:=Zl2 h.tr h.ne hC w3 hu z
    have m2:=Zij h.tr h.ne hC (Rat.le_of_lt y1)
    exact⟨u,O4,O4,O⟩
   ·have hp0:0<Zb p s:=by
     have:Zb p s≠0:=fun c=>z ((Ybf h.tr h.ne hC s).1 c)
     grind
    have k:=h.opp (x:=s) (y:=x) (by have:=Rat.mul_pos hp0 (show 0 < -Zb p x by grind);grind)
    exact⟨s,O4,O4,Zrt h.tr h.ne hC h.otr h.one h.ed y1 z k.1⟩
  have u4:Bm F p t<Bm F p x:=by
   by_cases z:Zb (Go.Sky.sqf F p) t=0
   ·exact Zl2 h.tr h.ne hC y2 hx0 z
   ·have hp0:0<Zb p t:=by
     have:Zb p t≠0:=fun c=>z ((Ybf h.tr h.ne hC t).1 c)
     grind
    have k:=h.opp (x:=x) (y:=t) (by have:=Rat.mul_pos hp0 (show 0 < -Zb p x by grind);grind)
    exact Zrt h.tr h.ne hC h.otr h.one h.ed y2 hx0 k.1
  have:=sep u t O4 O4 h2 O4
  omega
def Zba(xs:List Int)(m:Nat):Prop:=xs.length=0∨(xs.length+2)*(xs.length+2)*(Qh xs+m+2*(xs.length-1)+32)≤65536
instance (xs:List Int) (m:Nat):Decidable (Zba xs m):=by unfold Zba;infer_instance
theorem sgf_t{xs:List Int}{m:Nat}(h:xs.length=0):Value.bool (decide (Zba xs m))= .bool true:=congrArg Value.bool (decide_eq_true (.inl h))
theorem sgf_i{xs:List Int}{m:Nat}{n:Int}(h:xs.length≠0)(hn:n=(((xs.length+2)*(xs.length+2)*(Qh xs+m+2*(xs.length-1)+32):Nat):Int)):Value.bool (decide (Zba xs m))= .bool (decide (n≤65536)):=congrArg Value.bool (decide_eq_decide.2 (by
 subst hn
 show(xs.length=0∨_≤65536)↔_
 constructor
 ·intro h1;rcases h1 with h1 | h1
  ·exact absurd h1 h
  ·exact Int.ofNat_le.2 h1
 ·intro h1;exact .inr (Int.ofNat_le.1 h1)))
def efit(z:R2):Bool:=decide (max (bl z.1.natAbs) (bl z.2.natAbs)≤512)
def Zom:List Int→Int
 | []=>0
 | x :: r=>if x=0 then Zom r else x
theorem Zrk{s:Int}(h:s≠0):∀{L:List Int} {i:Nat},i<L.length→(∀k,k<i→L.getD k 0=0)→L.getD i 0=s→Zom L=s
 | [],i,hi,_,_=>absurd hi O5
 | x :: r,0,_,_,hs=>by have e:x=s:=hs;subst e;unfold Zom;rw [if_neg h]
 | x :: r,i+1,hi,hz,hs=>by
  have e:x=0:=hz 0 O
  unfold Zom;rw [if_pos e]
  exact Zrk h (L:=r) (i:=i) (by simpa using hi) (fun k hk=>hz (k+1) O) hs
theorem Zmp:∀{L:List Int},(∀k,k<L.length→L.getD k 0=0)→Zom L=0
 | [],_=>rfl
 | x :: r,hz=>by
  have e:x=0:=hz 0 O5
  unfold Zom;rw [if_pos e]
  exact Zmp fun k hk=>hz (k+1) (by simpa using hk)
def aft(Ls:List (List Int))(m:R2):Int:=Zom (Ls.map (fat m.1 m.2))
def vlu(Ls:List (List Int))(m:R2):Int:=if Ls.length=0 then 0 else fat m.1 m.2 (Ls.getD 0 [])
def chv(Ls:List (List Int))(m:R2):Int:=chg (Ls.map (fat m.1 m.2))
def crb(Ls:List (List Int))(a b:R2):Bool:=if Ls.length=0 then false else decide (0<chv Ls a-chv Ls b-if fat b.1 b.2 (Ls.getD 0 [])=0 then 1 else 0)
def cmp(a b:R2):Int:=(a.1*b.2-b.1*a.2).sign
def ngb(ds cs:List (List Int))(a b:R2):Bool:=if cmp a b=0 then decide (vlu ds a<0)else(decide (aft ds a<0) || crb cs a b)
theorem Zyk(ls:List (SL×List Int))(x y:Int):aft (ls.map Prod.snd) (x,y)=Zom (sgx ls (fat x y)):=by unfold aft;rw [Zvq rfl]
theorem Yjy(ls:List (SL×List Int))(x y:Int):chv (ls.map Prod.snd) (x,y)=chg (sgx ls (fat x y)):=by unfold chv;rw [Zvq rfl]
theorem Zf6(ls:List (SL×List Int)){i:Nat}(h:i<ls.length):(ls.map Prod.snd).getD i []=(ls.getD i Z0).2:=by
 rw [List.getD_eq_getElem?_getD,List.getD_eq_getElem?_getD,List.getElem?_map,List.getElem?_eq_getElem h];rfl
theorem chv_r(Ls:List (List Int))(m:R2):0≤chv Ls m∧chv Ls m≤(Ls.length:Int):=by
 have:=Zgm (Ls.map (fat m.1 m.2));rw [List.length_map]at this;exact this
theorem Zqh{x:Rat}(h:Fh x=0):x=0:=by
 rcases Qp x with⟨h5,h6⟩ | ⟨h5,h6⟩ | ⟨h5,h6⟩
 ·rw [h6]at h;exact absurd h O3
 ·rw [h6]at h;exact absurd h O3
 ·exact h5
theorem sgm_i{x l:Int}(hx:-1≤x∧x≤1)(hl:-1≤l∧l≤1):Qx (x*l):=by
 rcases(show x=-1∨x=0∨x=1 by omega)with h | h | h<;>subst h
 ·exact⟨O,O⟩
 ·exact⟨O,O⟩
 ·exact⟨O,O⟩
theorem Zvs{x l:Int}(hx:-1≤x∧x≤1)(hl:-1≤l∧l≤1)(h:x*l<0):x=-l:=by
 rcases(show x=-1∨x=0∨x=1 by omega)with h | h | h<;>subst h<;>omega
theorem Zvr{x l:Int}(hx:-1≤x∧x≤1)(hl:-1≤l∧l≤1)(h:¬x*l<0)(h0:x≠0):¬x=-l:=by
 rcases(show x=-1∨x=0∨x=1 by omega)with h | h | h<;>subst h<;>omega
theorem Zvt{x l:Int}(h:x=0):¬x*l<0:=by subst h;omega
theorem crb_t{cs:List (SL×List Int)}{x y x2 y2:Int}(h:cs.length≠0)(h0:fat x2 y2 (cs.getD 0 Z0).2=0):Value.bool (crb (cs.map Prod.snd) (x,y) (x2,y2))= .bool (decide (0<chv (cs.map Prod.snd) (x,y)-chv (cs.map Prod.snd) (x2,y2)-1)):=by
 unfold crb;rw [List.length_map,if_neg h,Zf6 _ O,if_pos h0]
theorem crb_f{cs:List (SL×List Int)}{x y x2 y2:Int}(h:cs.length≠0)(h0:¬fat x2 y2 (cs.getD 0 Z0).2=0):Value.bool (crb (cs.map Prod.snd) (x,y) (x2,y2))= .bool (decide (0<chv (cs.map Prod.snd) (x,y)-chv (cs.map Prod.snd) (x2,y2))):=by
 unfold crb;rw [List.length_map,if_neg h,Zf6 _ O,if_neg h0,Int.sub_zero]
theorem ngb_t{ds cs:List (List Int)}{a b:R2}(h:¬cmp a b=0)(h0:aft ds a<0):Value.bool (ngb ds cs a b)= .bool true:=by
 unfold ngb;rw [if_neg h,decide_eq_true h0];rfl
theorem ngb_f{ds cs:List (List Int)}{a b:R2}(h:¬cmp a b=0)(h0:¬aft ds a<0):Value.bool (ngb ds cs a b)= .bool (crb cs a b):=by
 unfold ngb;rw [if_neg h,decide_eq_false h0];rfl
def Zdz:Nat→List Int→List (List Int)
 | 0,_=>[]
 | n+1,p=>if p.length=0 then []else p :: Zdz n (Yo p)
theorem Zry{m:R2}(hm:0<m.2):∀(n:Nat) (p:List Int),p.length≤n→aft (Zdz n p) m=Fg n p (qv m)
 | 0,p,hl=>rfl
 | n+1,p,hl=>by
  unfold Zdz
  by_cases h0:p.length=0
  ·rw [if_pos h0]
   have:p=[]:=List.eq_nil_of_length_eq_zero h0
   subst this
   have hz:∀n,Fg n [] (qv m)=0:=fun n=>by
    induction n with
    | zero=>rfl
    | succ n ih=>unfold Fg;rw [if_neg (by show ¬(0:Rat)≠0;simp)];exact ih
   rw [hz];rfl
  ·rw [if_neg h0]
   have ld':=Oi p
   have ih:=Zry hm n (Yo p) O
   unfold aft at ih ⊢
   rw [List.map_cons]
   unfold Zom Fg
   have hf:fat m.1 m.2 p=Fh (Zb p (qv m)):=Zor hm p
   rw [hf]
   by_cases hz:Zb p (qv m)=0
   ·rw [if_pos (Zqi hz),if_neg (by simpa using hz)];exact ih
   ·rw [if_neg (fun e=>hz (Zqh e)),if_pos hz]
structure Cvd (xs:List Int):Prop where
 v:Vp xs
 s:Sz 185 xs
 l:xs.length≤9
theorem Zfi{xs r:List Int}(h:Cvd xs)(h0:xs≠[])(hr:Dp xs r):Sz 315 r∧r.length≤9:=by
 obtain⟨s1,s2⟩:=hr.sz h.v.tr h0 h.s (by have:=h.l;omega)
 exact⟨s1,by have:=h.l;omega⟩
theorem Zce{xs r:List Int}(h:Cvd xs)(h0:xs≠[])(hr:Dp xs r) :
  Vp r∧r≠[]∧(∀i,bl (cf r (i+1)*((i:Int)+1)).natAbs≤65536)∧Vp (Yo r)∧¬Zmm r (Yo r)∧eok 13 (gA r (Yo r)) (gB r (Yo r))∧Nr 13 r (Yo r)=Pd 13 r∧Vp (Pd 13 r)∧
  Dk r (Pd 13 r)=0∧pdv r (Pd 13 r)∧Ll r (Pd 13 r)=sqf 13 r∧Vp (sqf 13 r)∧Sz 445 (sqf 13 r)∧(sqf 13 r).length≤9∧Dp xs (Pd 13 r)∧sqf 13 r≠[]∧((sqf 13 r).length≠1→(Pd 13 r).length<r.length)∧Fa 13 r:=by
 obtain⟨s1,s2⟩:=Zfi h h0 hr
 have hv:Vp r:=⟨s1.mono O,hr.1,O⟩
 have hok:=hr.ok h.v.tr h0 h.s O (by have:=h.l;omega) (show xs.length≤13+1 by have:=h.l;omega)
 obtain⟨⟨q1,q2,q3,q4,q5⟩,-,-⟩:=hok.1
 have hn:=hr.2.2.1
 have hs9:=(chG 13 hr.1 hr.2.1 s1 O O O).2.1
 have hl9:=(chG 13 hr.1 hr.2.1 s1 O O O).2.2.1
 have hvs:=Zsv hv hr.2.1 hok.1.1
 have hg:Pd 13 r=Nr 13 r (Yo r):=by unfold Pd;rw [hn]
 have hd:=hr.next hok.2
 have hvg:Vp (Pd 13 r):=by obtain⟨t1,t2⟩:=Zfi h h0 hd;exact⟨t1.mono O,hd.1,O⟩
 have hsq:sqf 13 r=Ll r (Pd 13 r):=by unfold sqf Pd;rw [hn]
 obtain⟨f1,f2,f3,f4,f5,f6⟩:=Pu (F:=13) hr.1 hr.2.1 hok.2
 have hq1:∀i,bl (cf r (i+1)*((i:Int)+1)).natAbs≤65536:=fun i=>by
  by_cases hi:i<r.length
  ·have:=q1 i hi;rwa [hn]at this
  ·rw [Yj O];simp [Lj]
 rw [hn]at q2 q3 q4 q5
 rw [←hg]at q4 q5
 refine⟨hv,hr.2.1,hq1,Zea hv (fun i _=>hq1 i),q2,q3,hg.symm,hvg,q4,q5,hsq.symm,hvs,hs9,O,hd,f3,fun hne=>?_,hok.2⟩
 refine Zka hr.1 hr.2.1 hok.2 ?_
 have:=Qb hr.1 hr.2.1 hok.2
 have l1:=List.length_pos_iff.2 f3
 have l2:=List.length_pos_iff.2 this.2.1
 omega
def Ix(xs:List Int):List Int:=Zq1 13 xs.length [1] (Yt xs)
structure OddI (xs:List Int) (t:Nat) (rest out before:List Int):Prop where
 ex:∃f q,Dp xs q∧q.length≤f∧Zq1 13 f out q=Ix xs∧Tr out∧Op xs out q∧((t%2=1∧rest=q)∨(t%2=0∧rest=Pd 13 q∧before=sqf 13 q∧(sqf 13 q).length≠1))
theorem OddI.start{xs b:List Int}(h:Cvd xs)(h0:xs≠[]):OddI xs 1 (Yt xs) [1] b:=
 ⟨xs.length,Yt xs,Dp.start h.v.tr h0,by rw [Qr h.v.tr];exact Nat.le_refl _,rfl,.inr O3,Op.start h.v.tr,.inl ⟨rfl,rfl⟩⟩
theorem OddI.dp{xs:List Int}{t:Nat}{rest out before:List Int}(h:Cvd xs)(h0:xs≠[])(hI:OddI xs t rest out before):Dp xs rest:=by
 obtain⟨f,q,h1,h2,h3,h4,h5,h6 | ⟨-,rfl,-⟩⟩:=hI.ex
 ·rw [h6.2];exact h1
 ·exact(Zce h h0 h1).2.2.2.2.2.2.2.2.2.2.2.2.2.2.1
theorem OddI.out{xs:List Int}{t:Nat}{rest out before:List Int}(h:Cvd xs)(h0:xs≠[])(hI:OddI xs t rest out before):Vp out∧Sz 315 out∧out.length≤9:=by
 obtain⟨f,q,h1,h2,h3,h4,h5,-⟩:=hI.ex
 obtain⟨s1,s2,s3⟩:=h5.sz h.v.tr h0 h.s (by have:=h.l;omega) h4 h1.1
 have:=h.l
 exact⟨⟨s1.mono O,h4,O⟩,s1,O⟩
theorem OddI.odd_end{xs:List Int}{t:Nat}{rest out before:List Int}(h:Cvd xs)(h0:xs≠[])(hI:OddI xs t rest out before)(ht:t%2=1)(hl:(sqf 13 rest).length=1):out=Ix xs:=by
 obtain⟨f,q,h1,h2,h3,h4,h5,⟨-,rfl⟩ | ⟨h7,-⟩⟩:=hI.ex
 ·cases f with
  | zero=>exact absurd (List.length_pos_iff.2 h1.2.1) O
  | succ f=>unfold Zq1 at h3;rw [if_pos hl]at h3;exact h3
 ·omega
theorem OddI.odd_next{xs:List Int}{t:Nat}{rest out before:List Int}(hI:OddI xs t rest out before)(ht:t%2=1)(hl:(sqf 13 rest).length≠1):OddI xs (t+1) (Pd 13 rest) out (sqf 13 rest):=by
 obtain⟨f,q,h1,h2,h3,h4,h5,⟨-,rfl⟩ | ⟨h7,-⟩⟩:=hI.ex
 ·exact⟨f,rest,h1,h2,h3,h4,h5,.inr ⟨O,rfl,rfl,hl⟩⟩
 ·omega
theorem OddI.even{xs:List Int}{t:Nat}{rest out before:List Int}(h:Cvd xs)(h0:xs≠[])(hI:OddI xs t rest out before)(ht:t%2=0) :
  Vp before∧Dk before (sqf 13 rest)=0∧pdv before (sqf 13 rest)∧Vp (Ll before (sqf 13 rest))∧¬Zai out (Ll before (sqf 13 rest))∧
  ((sqf 13 rest).length=1→Xm out (Ll before (sqf 13 rest))=Ix xs)∧((sqf 13 rest).length≠1→OddI xs (t+1) (Pd 13 rest) (Xm out (Ll before (sqf 13 rest))) (sqf 13 rest))∧Vp (Xm out (Ll before (sqf 13 rest))):=by
 obtain⟨f,q,h1,h2,h3,h4,h5,⟨h7,-⟩ | ⟨-,rfl,rfl,hq⟩⟩:=hI.ex
 ·omega
 obtain⟨a1,a2,a3,a4,a5,a6,a7,a8,a9,a10,a11,a12,a13,a14,a15,a16,a17,a18⟩:=Zce h h0 h1
 obtain⟨b1,b2,b3,b4,b5,b6,b7,b8,b9,b10,b11,b12,b13,b14,b15,b16,b17,b18⟩:=Zce h h0 a15
 obtain⟨c1,c2,c3,c4⟩:=Eo h1.1 h1.2.1 a18 b18
 have hO:=h5.next h1.1 h1.2.1 h1.2.2.1 a18 b18
 have ho:=h.l
 obtain⟨s1,s2,s3⟩:=hO.sz h.v.tr h0 h.s O (Xq _ _) b15.1
 obtain⟨o1,o2,o3⟩:=h5.sz h.v.tr h0 h.s O h4 h1.1
 have hol:(Ew 13 q).length≤9:=by
  have e:=congrArg List.length c2
  rw [Pg c3 b12.tr c4 b16]at e
  have:=List.length_pos_iff.2 b16
  omega
 have hos:Sz 450 (Ew 13 q):=by
  obtain⟨a,ha,e⟩:=hO
  have e2:Yt xs=Xm (Xm (Xm a (Pd 13 (Pd 13 q))) out) (Ew 13 q):=e.trans ((Xq _ _).ext (Xq _ _) fun i=>Od (fun x=>by simp only [Zv];grind) i)
  exact(Zub h.v.tr h0 h.s O (Xq _ _) c3 e2).1.mono O
 have hd:Dk (sqf 13 q) (sqf 13 (Pd 13 q))=0:=by
  have m1:=Qz a13
  have m2:=Qz b13
  have l1:=List.length_pos_iff.2 b16
  unfold Dk
  rw [if_neg O]
  split
  ·rfl
  ·have:((sqf 13 q).length-(sqf 13 (Pd 13 q)).length+1)*(Qh (sqf 13 (Pd 13 q))+1)≤10*446:=Nat.mul_le_mul O O
   rw [if_neg O]
 have hvo:Vp (Ew 13 q):=⟨hos.mono O,c3,O⟩
 have hm:¬Zai out (Ew 13 q):=fun hF=>by
  have m1:=Qz o1
  have m2:=Qz hos
  rcases hF.2.2 with w | w<;>omega
 refine⟨a12,hd,c1,hvo,hm,fun hl=>?_,fun hl=>?_,⟨s1.mono O,Xq _ _,Nat.le_trans s2 O⟩⟩
 ·cases f with
  | zero=>exact absurd (List.length_pos_iff.2 h1.2.1) O
  | succ f=>unfold Zq1 at h3;rw [if_neg hq,if_pos hl]at h3;exact h3
 ·cases f with
  | zero=>exact absurd (List.length_pos_iff.2 h1.2.1) O
  | succ f=>
   unfold Zq1 at h3;rw [if_neg hq,if_neg hl]at h3
   have l1:=a17 hq
   have l2:=b17 hl
   exact⟨f,Pd 13 (Pd 13 q),b15,O,h3,Xq _ _,hO,.inl ⟨O,rfl⟩⟩
end Go.Sky

