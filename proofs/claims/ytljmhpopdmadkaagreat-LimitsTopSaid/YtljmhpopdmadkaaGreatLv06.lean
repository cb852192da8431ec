/- Rules, arithmetic and contracts: part 7. No conditions but those that each theorem names. -/
import Derived.Test.YtljmhpopdmadkaaGreatLv05
set_option linter.all false
namespace Go.Sky
theorem Sqn.mem{P:R2→R2→Prop}{hi:Rat} : ∀{lo:Rat} {l:List (R2×R2)},Sqn P hi lo l→∀c∈l,P c.1 c.2
 | _,[],_,c,hc=>by cases hc
 | lo,d :: r,h,c,hc=>by
  rcases List.mem_cons.1 hc with rfl | hc
  ·exact h.2.2.1
  ·exact Sqn.mem h.2.2.2 c hc
theorem en_bl{K Q d B:Nat}{z:R2}(h:En K Q d z)(hQ:0<Q)(h1:Q*2^d<2^B)(h2:K*(Q*2^d)<2^B):bl z.1.natAbs≤B∧bl z.2.natAbs≤B:=by
 obtain⟨hp,hd,hl,hu⟩:=h
 have hpos:0<Q*2^d:=Nat.mul_pos hQ (Nat.pow_pos O3)
 have hz2:z.2.natAbs≤Q*2^d:=by
  have:=Int.natAbs_dvd_natAbs.2 hd
  rw [Int.natAbs_natCast]at this
  exact Nat.le_of_dvd hpos this
 have hz1:z.1.natAbs≤K*z.2.natAbs:=by
  have r:=Iq hp
  have e:(z.1:Rat)=qv z*z.2:=by unfold qv;grind
  have t1:=Rat.mul_nonneg (a:=(K:Rat)-qv z) (b:=(z.2:Rat)) O4 O4
  have t2:=Rat.mul_nonneg (a:=(K:Rat)+qv z) (b:=(z.2:Rat)) O4 O4
  have hn:((K*z.2.natAbs:Nat):Int)=(K:Int)*z.2:=by push_cast;rw [Int.natAbs_of_nonneg O]
  have u1:((z.1:Int):Rat)≤(((K:Int)*z.2:Int):Rat):=by push_cast;grind
  have u2:((-((K:Int)*z.2):Int):Rat)≤((z.1:Int):Rat):=by push_cast;grind
  have v1:z.1≤(K:Int)*z.2:=by exact_mod_cast u1
  have v2:-((K:Int)*z.2)≤z.1:=by exact_mod_cast u2
  omega
 have hz3:K*z.2.natAbs≤K*(Q*2^d):=Nat.mul_le_mul_left _ hz2
 exact⟨Zcb O,Zcb O⟩
theorem Yet{n e w Q B:Nat}{z:R2}(h:En (2^n) Q (e+w) z)(hQ:0<Q)(hQ1:Q<2^(2*n))(hB:3*n+1+(e+w)≤B):bl z.1.natAbs≤B∧bl z.2.natAbs≤B:=by
 have hpow:∀m,m≤B→2^m≤2^B:=fun m h=>Nat.pow_le_pow_right O3 h
 have hPP:0<2^(e+w):=Nat.pow_pos O3
 have h1:Q*2^(e+w)<2^(2*n)*2^(e+w):=Nat.mul_lt_mul_of_pos_right hQ1 hPP
 have h2:2^n*(Q*2^(e+w))<2^n*(2^(2*n)*2^(e+w)):=Nat.mul_lt_mul_of_pos_left h1 (Nat.pow_pos O3)
 have e1:2^(2*n)*2^(e+w)=2^(2*n+(e+w)):=(Nat.pow_add _ _ _).symm
 have e2:2^n*(2^(2*n)*2^(e+w))=2^(n+(2*n+(e+w))):=by rw [e1,←Nat.pow_add]
 rw [e1]at h1
 rw [e2]at h2
 exact en_bl h hQ (Nat.lt_of_lt_of_le h1 (hpow _ O)) (Nat.lt_of_lt_of_le h2 (hpow _ O))
theorem Ed.const{g a:List Int}(h:Ed g a)(hg:Tr g)(ha:Tr a)(h0:a≠[])(hl:g.length=a.length):∃k c:Int,k≠0∧c≠0∧∀x:Rat,(k:Rat)*Ze a x=(c:Rat)*Ze g x:=by
 obtain⟨k,s,hk,h⟩:=h
 obtain⟨a1,a2,a3⟩:=Zt7 hk hg ha h0 h
 have hl1:=List.length_pos_iff.2 a2
 match hs:tzl s,hl1,a3 with
 | [c],_,_=>
  have hc:c≠0:=by have:=(Pk s).mem a2;rw [hs]at this;exact this
  refine⟨k,c,hk,hc,fun x=>?_⟩
  rw [h x,←Mf s,hs,Pq]
 | c :: d :: r,_,h9=>simp at h9;omega
theorem Zd1(p:List Int)(c:Int)(x:Rat):Ze (Zv p c) x=(c:Rat)*Ze p x:=by
 rw [←Zm];exact Nz x _ _ fun i=>by rw [Yj,Qd,Int.mul_comm]
theorem Zl4{p:List Int}{c:Int}(hp:Tr p)(h0:p≠[])(hc:c≠0):Zv p c≠[]:=fun e=>by
 have h1:=Yj p c (p.length-1)
 rw [e,Za4]at h1
 exact Int.mul_ne_zero (hp.mem h0) hc h1.symm
theorem Ed.dv{g a:List Int}(h:Ed g a):Dv g a:=by
 obtain⟨k,s,hk,h⟩:=h
 refine⟨k,s,hk,fun t=>?_⟩
 have:=Ny (p:=a.map fun c=>k*c) (q:=Xq s g) (fun x=>by rw [Zm,Zz];exact h x) t
 rw [Qd,Ku]at this
 exact this
theorem ed_cop{t u w s:List Int}{k:Int}(hk:k≠0)(ht:Tr t)(hw:Tr w)(t0:t≠[])(hc:∀d,Tr d→Ed d t→Ed d w→d.length≤1)(h:∀x:Rat,(k:Rat)*(Ze u x*Ze w x)=Ze s x*Ze t x):Ed t u:=by
 obtain⟨g,A,B,hg,g1,g2,hb⟩:=Zkv w.length t w ht hw (Nat.le_refl _)
 have hl:=hc g hg g1 g2
 have hgn:=(g1.len hg ht t0).1
 match hgg:g,hl,hgn with
 | [c],_,_=>
  have hc0:c≠0:=by have:=hg.mem O5;exact this
  refine⟨k*c,Mp ((Xq A u).map fun a=>k*a) (Xq B s),Int.mul_ne_zero hk hc0,fun x=>?_⟩
  rw [Xf,Zm,Zz,Zz]
  have h1:=hb x
  rw [Pq]at h1
  have h2:=h x
  push_cast
  rw [show(k:Rat)*c*Ze u x=k*(Ze u x*(c:Rat)) by grind,h1]
  have h3:(k:Rat)*(Ze u x*(Ze A x*Ze t x+Ze B x*Ze w x))=k*Ze A x*Ze u x*Ze t x+Ze B x*(k*(Ze u x*Ze w x)):=O4
  rw [h3,h2];grind
 | c :: d :: r,h9,_=>simp at h9
def Ps(F:Nat)(p:List Int):List Int:=Ou F (Yn p) (Yi (Yn p))
def Gu(F:Nat)(p:List Int):Prop:=eok F (gA (Yn p) (Yi (Yn p))) (gB (Yn p) (Yi (Yn p)))
theorem Qy{F:Nat}{p:List Int}(hp:Tr p)(h0:p≠[])(hok:Gu F p):Tr (Ps F p)∧Ps F p≠[]∧Yn (Ps F p)=Ps F p∧Yn p=Xq (sqf F p) (Ps F p)∧(sqf F p).length+(Ps F p).length=p.length+1:=by
 obtain⟨f1,f2,f3,f4,f5,f6⟩:=Og (F:=F) hp h0 hok
 have ht:Tr (Yn p):=On (Yf hp)
 have hd:Tr (Yi (Yn p)):=Oh ht
 have hg:=Zch (F:=F) ht hd
 have hl:=Po f2 hg f3 f5
 rw [←f4,Pe hp]at hl
 have l1:=List.length_pos_iff.2 f3
 have l2:=List.length_pos_iff.2 f5
 refine⟨hg,f5,Ztk hg (Zjo ht hd f5) (Cq (Zkf F (Zg3 ht hd) (Zg2 ht hd)) (fun e=>f5 (by unfold Ou;rw [e];rfl))),f4,?_⟩
 unfold Ps;omega
theorem Yg2{a b h:List Int}(hh:Tr h)(h0:h≠[]){k m:Int}(e:∀x:Rat,(k:Rat)*(Ze a x*Ze h x)=(m:Rat)*(Ze b x*Ze h x))(x:Rat):(k:Rat)*Ze a x=(m:Rat)*Ze b x:=by
 have hz:=Gq (v:=h) (f:=Mp (a.map fun c=>k*c) (b.map fun c=>(-m)*c)) (by rw [Zac hh];exact h0) (fun x=>by
  rw [Xf,Zm,Zm];have:=e x;push_cast;grind) x
 rw [Xf,Zm,Zm]at hz
 push_cast at hz;grind
theorem Zv5{F:Nat}{p:List Int}(hp:Tr p)(h0:p≠[])(hok:Gu F p)(hok2:Gu F (Ps F p)):Ed (sqf F (Ps F p)) (sqf F p):=by
 obtain⟨a1,a2,a3,a4,a5⟩:=Qy hp h0 hok
 obtain⟨b1,b2,b3,b4,b5⟩:=Qy a1 a2 hok2
 obtain⟨-,u2,u3,-,-,-⟩:=Og (F:=F) hp h0 hok
 obtain⟨-,t2,t3,-,-,-⟩:=Og (F:=F) a1 a2 hok2
 have ht:Tr (Yn p):=On (Yf hp)
 have e1:Ed (Ps F p) (Yi (Yn p)):=(Zcw ht (Oh ht) hok).2.ed
 have e2:Ed (Ps F (Ps F p)) (Yi (Ps F p)):=by
  have:=(Zcw (F:=F) (p:=Yn (Ps F p)) (q:=Yi (Yn (Ps F p))) (by rw [a3];exact a1) (Oh (by rw [a3];exact a1)) hok2).2.ed
  have h9:Ps F (Ps F p)=Ou F (Yn (Ps F p)) (Yi (Yn (Ps F p))):=rfl
  rw [←h9,a3]at this
  exact this
 have hgr:∀d,Tr d→Ed d (Ps F p)→Ed d (Yi (Ps F p))→Ed d (Ps F (Ps F p)):=fun d hd h1 h2=>by
  unfold Ps at *
  have:=Zjm (F:=F) (d:=d) (p:=Yn (Ou F (Yn p) (Yi (Yn p)))) (q:=Yi (Yn (Ou F (Yn p) (Yi (Yn p))))) (by rw [a3];exact a1) (Oh (by rw [a3];exact a1)) (by rw [a3];exact h1) (by rw [a3];exact h2)
  exact this
 rw [a3]at b4
 generalize hg:Ps F p=g at *
 generalize hh:Ps F g=h at *
 generalize hu:sqf F p=u at *
 generalize htt:sqf F g=t at *
 obtain⟨k,s,hk,hks⟩:=e1
 obtain⟨m,w,hm,hmw⟩:=e2
 have hP:∀x:Rat,Ze (Yn p) x=Ze (Pb u g) x:=fun x=>by rw [a4,Zz,Zt]
 have hG:∀x:Rat,Ze g x=Ze (Pb t h) x:=fun x=>by
  have:Ze g x=Ze (Xq t h) x:=by rw [←b4]
  rw [this,Zz,Zt]
 have hd1:∀x:Rat,Ze (Yi (Yn p)) x=Ze (ld u) x*Ze g x+Ze u x*Ze (ld g) x:=fun x=>by rw [Lr,Eh hP,Dl]
 have hd2:∀x:Rat,(m:Rat)*Ze (ld g) x=Ze w x*Ze h x:=fun x=>by rw [←Lr];exact hmw x
 have key:∀x:Rat,(k:Rat)*(Ze (Xq u w) x*Ze h x)=(m:Rat)*(Ze (Xq (Mp s ((ld u).map fun c=>(-k)*c)) t) x*Ze h x):=fun x=>by
  rw [Zz,Zz,Xf,Zm]
  have h1:=hks x;have h2:=hd1 x;have h3:=hd2 x;have h4:=hG x
  rw [Zt]at h4
  rw [h2]at h1
  have:(k:Rat)*(Ze u x*Ze w x*Ze h x)=Ze u x*k*(Ze w x*Ze h x):=O4
  rw [this,←h3]
  push_cast
  have:Ze u x*(k:Rat)*(m*Ze (ld g) x)=m*(k*(Ze (ld u) x*Ze g x+Ze u x*Ze (ld g) x)-k*Ze (ld u) x*Ze g x):=O4
  rw [this,h1,h4];grind
 have key2:=Yg2 b1 b2 key
 refine ed_cop (s:=(Xq (Mp s ((ld u).map fun c=>(-k)*c)) [m])) hk t2 (w:=tzl w) (Pk w) t3 (fun d hd h1 h2=>?_) (fun x=>?_)
 ·have h2':Ed d w:=h2.congr fun x=>Mf w x
  have hdh:Ed (Xq d h) h:=hgr _ (Qc _ _) (by
   obtain⟨k1,s1,hk1,e1⟩:=h1
   exact⟨k1,s1,hk1,fun x=>by rw [hG x,Zt,Zz];have:=e1 x;grind⟩) (by
   obtain⟨k1,s1,hk1,e1⟩:=h2'
   exact⟨k1*m,s1,Int.mul_ne_zero hk1 hm,fun x=>by rw [Lr,Zz];have:=e1 x;have:=hd2 x;push_cast;grind⟩)
  have d0:=(h1.len hd t2 t3).1
  have hl:=Po hd b1 d0 b2
  have:=(hdh.len (Qc _ _) b1 b2).2
  have l2:=List.length_pos_iff.2 b2
  omega
 ·rw [Mf,Zz,Pq]
  have:=key2 x
  rw [Zz,Zz]at this
  rw [this];grind
theorem Zy7{u t:List Int}(hu:Tr u)(u0:u≠[])(ht:Tr t)(t0:t≠[])(hn:Yn t=t)(h:Ed t u):pdv u t∧u=Xq (Ms u t) t∧Tr (Ms u t)∧Ms u t≠[]:=by
 have hc:Yk t=1:=by have:=Aj ht t0;rwa [hn]at this
 obtain⟨k,s,hk,h⟩:=h.dv
 obtain⟨q,hq⟩:=gauss hc _ k s rfl hk h
 have hqe:u=Xq (tzl q) t:=hu.ext (Qc _ _) fun i=>by rw [Ku,hq,Yco]
 obtain⟨p1,p2⟩:=Znt (Pk q) ht t0
 rw [←hqe]at p1 p2
 rw [p2]
 exact⟨p1,hqe,Pk q,fun e=>u0 (by rw [hqe,e,Ic])⟩
theorem Zj9{F:Nat}{p:List Int}(hp:Tr p)(h0:p≠[])(hok:Gu F p)(h2:2≤p.length):(Ps F p).length<p.length:=by
 obtain⟨a1,a2,-⟩:=Qy hp h0 hok
 have ht:Tr (Yn p):=On (Yf hp)
 have e1:Ed (Ps F p) (Yi (Yn p)):=(Zcw ht (Oh ht) hok).2.ed
 have hl:=Pn (Yn p)
 have hn:=Pe hp
 have:=(e1.len a1 (Oh ht) (fun e=>by rw [e]at hl;simp at hl;omega)).2
 omega
theorem Yho{p:List Int}(hp:Tr p)(hn:Yn p=p)(hl:p.length=1):p=[1]:=by
 have h0:p≠[]:=fun e=>by rw [e]at hl;simp at hl
 have hc:=Aj hp h0
 have hd:0<cf (Yn p) ((Yn p).length-1):=Cq (Yf hp) (fun e=>h0 (List.eq_nil_of_length_eq_zero (by rw [←Zq,e];rfl)))
 rw [hn]at hc hd
 match p,hl with
 | [c],_=>
  have hd':0<c:=hd
  have h1:c∣Yk [c]:=Gh fun i=>by
   match i with
   | 0=>exact Int.dvd_refl c
   | i+1=>rw [Yb O5];exact Int.dvd_zero c
  rw [hc]at h1
  have:=Int.le_of_dvd O3 h1
  rw [show c=1 by omega]
def Dp(p q:List Int):Prop:=Tr q∧q≠[]∧Yn q=q∧∃a,Tr a∧Yn p=Xq a q
theorem Dp.start{p:List Int}(hp:Tr p)(h0:p≠[]):Dp p (Yn p):=
 ⟨On (Yf hp),Zgn hp h0,Ztk (On (Yf hp)) (Aj hp h0) (Cq (Yf hp) (fun e=>h0 (List.eq_nil_of_length_eq_zero (by rw [←Zq,e];rfl)))),[1],.inr (show cf [1] 0≠0 by decide),by
  refine(On (Yf hp)).ext (Qc _ _) fun i=>?_
  rw [Ku,Zqx];rfl⟩
theorem Dp.sz{p q:List Int}{n:Nat}(hp:Tr p)(h0:p≠[])(hs:Sz n p)(hl:p.length≤13)(h:Dp p q):Sz (n+130) q∧q.length≤p.length:=by
 obtain⟨h1,h2,h3,a,ha,e⟩:=h
 have hK:kkR 24 13*(24+1)^13<2^130:=O8
 have hln:=Pe hp
 have hn0:=Zgn hp h0
 have ht:Tr (Yn p):=On (Yf hp)
 have a0:a≠[]:=fun e2=>hn0 (by rw [e,e2,Ic])
 refine⟨Gb (L:=13) (R:=24) h1 ha (Zm4 hs) hn0 ht O O3 hK (by rw [Dz];exact e),?_⟩
 have hlq:=Po ha h1 a0 h2
 rw [←e,hln]at hlq
 have:=List.length_pos_iff.2 a0
 omega
theorem Dp.ok{p q:List Int}{n F:Nat}(hp:Tr p)(h0:p≠[])(hs:Sz n p)(hn:n≤220)(hl:p.length≤11)(hF:p.length≤F+1)(h:Dp p q):Ct F q∧Gu F q:=by
 obtain⟨s1,s2⟩:=h.sz hp h0 hs O
 have:=(chG F h.1 h.2.1 s1 O O O).1
 exact⟨this,this.1.2.2.1⟩
theorem Dp.next{p q:List Int}{F:Nat}(h:Dp p q)(hok:Gu F q):Dp p (Ps F q):=by
 obtain⟨h1,h2,h3,a,ha,e⟩:=h
 obtain⟨a1,a2,a3,a4,a5⟩:=Qy h1 h2 hok
 refine⟨a1,a2,a3,Xq a (sqf F q),Qc _ _,?_⟩
 rw [h3]at a4
 refine e.trans ((congrArg (Xq a) a4).trans ?_)
 refine(Qc _ _).ext (Qc _ _) fun i=>Ny (fun x=>?_) i
 rw [Zz,Zz,Zz,Zz];grind
def Et(F:Nat):Nat→List Int→List Int
 | 0,p=>sqf F p
 | f+1,p=>if(sqf F p).length=1 then sqf F p else Xq (Ms (sqf F p) (sqf F (Ps F p))) (Et F f (Ps F (Ps F p)))
def Zny(F:Nat):Nat→List Int→List Int→List Int
 | 0,out,_=>out
 | f+1,out,q=>if(sqf F q).length=1 then out else if(sqf F (Ps F q)).length=1 then Xq out (Ms (sqf F q) (sqf F (Ps F q)))else Zny F f (Xq out (Ms (sqf F q) (sqf F (Ps F q)))) (Ps F (Ps F q))
theorem Zes{F:Nat}{q:List Int}(hq:Tr q)(h0:q≠[])(hok:Gu F q)(h:(sqf F q).length=1):sqf F q=[1]∧q.length=1∧(Ps F q).length=1:=by
 obtain⟨f1,f2,f3,f4,f5,f6⟩:=Og (F:=F) hq h0 hok
 obtain⟨a1,a2,a3,a4,a5⟩:=Qy hq h0 hok
 have l0:=List.length_pos_iff.2 h0
 have hl:q.length=1:=by
  rcases Nat.lt_or_ge q.length 2 with h2 | h2
  ·omega
  ·have:=Zj9 hq h0 hok h2;omega
 exact⟨Yho f2 f6 h,hl,O⟩
theorem Znr{p:List Int}(hp:Tr p):Xq p [1]=p:=by
 refine(Qc _ _).ext hp fun i=>Ny (fun x=>?_) i
 rw [Zz,Pq];push_cast;grind
theorem Ycx{F:Nat}{q:List Int}(hq:Tr q)(h0:q≠[])(hok:Gu F q)(h:q.length=1):∀f,Et F f q=[1]:=fun f=>by
 obtain⟨f1,f2,f3,f4,f5,f6⟩:=Og (F:=F) hq h0 hok
 obtain⟨a1,a2,a3,a4,a5⟩:=Qy hq h0 hok
 have l1:=List.length_pos_iff.2 f3
 have l2:=List.length_pos_iff.2 a2
 have hs:(sqf F q).length=1:=O
 have:=(Zes hq h0 hok hs).1
 cases f with
 | zero=>exact this
 | succ f=>unfold Et;rw [if_pos hs];exact this
theorem Zib{F:Nat}{p:List Int}{f:Nat}{q:List Int}(hq:Tr q)(h0:q≠[])(hok:Gu F q):Tr (Et F f q):=by
 obtain⟨f1,f2,f3,f4,f5,f6⟩:=Og (F:=F) hq h0 hok
 cases f with
 | zero=>exact f2
 | succ f=>unfold Et;split;exact f2;exact Qc _ _
theorem Zv7{F n:Nat}{p:List Int}(hp:Tr p)(h0:p≠[])(hs:Sz n p)(hn:n≤220)(hl:p.length≤11)(hF:p.length≤F+1):∀(f:Nat) (out q:List Int),Tr out→Dp p q→q.length≤f→Zny F f out q=Xq out (Et F f q):=by
 intro f
 induction f with
 | zero=>intro out q _ hq hlq;have:=List.length_pos_iff.2 hq.2.1;omega
 | succ f ih=>
  intro out q ho hq hlq
  have hok:=(hq.ok hp h0 hs hn hl hF).2
  have hg:=hq.next hok
  have hok2:=(hg.ok hp h0 hs hn hl hF).2
  have hg2:=hg.next hok2
  have hok3:=(hg2.ok hp h0 hs hn hl hF).2
  unfold Zny Et
  by_cases c1:(sqf F q).length=1
  ·rw [if_pos c1,if_pos c1,(Zes hq.1 hq.2.1 hok c1).1,Znr ho]
  ·rw [if_neg c1,if_neg c1]
   have lq:2≤q.length:=by
    obtain⟨f1,f2,f3,f4,f5,f6⟩:=Og (F:=F) hq.1 hq.2.1 hok
    obtain⟨a1,a2,a3,a4,a5⟩:=Qy hq.1 hq.2.1 hok
    have l1:=List.length_pos_iff.2 f3
    have l2:=List.length_pos_iff.2 a2
    omega
   have lt1:=Zj9 hq.1 hq.2.1 hok lq
   obtain⟨-,-,-,-,b5⟩:=Qy hg.1 hg.2.1 hok2
   obtain⟨-,b2,b3,-,-,-⟩:=Og (F:=F) hg.1 hg.2.1 hok2
   have lb:=List.length_pos_iff.2 b3
   by_cases c2:(sqf F (Ps F q)).length=1
   ·obtain⟨s1,s2,s3⟩:=Zes hg.1 hg.2.1 hok2 c2
    rw [if_pos c2,Ycx hg2.1 hg2.2.1 hok3 s3]
    refine(Qc _ _).ext (Qc _ _) fun i=>Ny (fun x=>?_) i
    rw [Zz,Zz,Zz,Pq];push_cast;grind
   ·rw [if_neg c2,ih _ _ (Qc _ _) hg2 O]
    refine(Qc _ _).ext (Qc _ _) fun i=>Ny (fun x=>?_) i
    rw [Zz,Zz,Zz,Zz];grind
theorem Zth{q:List Int}{e:Int}(he:e=1∨e=-1)(h:Yk q=1):Yk (Zv q e)=1:=by
 have h1:Yk (Zv q e)∣Yk q:=Gh fun i=>by
  have:=Mo (Zv q e) i
  rw [Yj]at this
  rcases he with rfl | rfl
  ·rwa [Int.mul_one]at this
  ·rw [Int.mul_neg_one]at this;exact(Int.dvd_neg.1 this)
 rw [h]at h1
 have h2:=Nf (Zv q e)
 have h3:=Int.le_of_dvd O3 h1
 rcases(show Yk (Zv q e)=0∨Yk (Zv q e)=1 by omega)with h4 | h4
 ·rw [h4]at h1;exact absurd (Int.zero_dvd.1 h1) O3
 ·exact h4
theorem Yct{q:List Int}(h:Yk q=1):Zr q=q:=by
 unfold Zr;rw [h];simp
theorem Zp8{F:Nat}{q:List Int}{e:Int}(hq:Tr q)(q0:q≠[])(hn:Yn q=q)(hok:Gu F q)(he:e=1∨e=-1) :
  Tr (Zv q e)∧Zv q e≠[]∧Yn (Zv q e)=q∧Zr (Zv q e)=Zv q e∧pdv (Zv q e) (sqf F q)∧Ms (Zv q e) (sqf F q)=Zv (Ps F q) e:=by
 have e0:e≠0:=by rcases he with rfl | rfl<;>decide
 obtain⟨f1,f2,f3,f4,f5,f6⟩:=Og (F:=F) hq q0 hok
 obtain⟨a1,a2,a3,a4,a5⟩:=Qy hq q0 hok
 have hc:Yk q=1:=by have:=Aj hq q0;rwa [hn]at this
 rw [hn]at a4
 have hw:Zv q e=Xq (Zv (Ps F q) e) (sqf F q):=by
  refine(Xp _ _).ext (Qc _ _) fun i=>Ny (fun x=>?_) i
  have:Ze q x=Ze (Xq (sqf F q) (Ps F q)) x:=by rw [←a4]
  rw [Zd1,Zz,Zd1,this,Zz];grind
 obtain⟨p1,p2⟩:=Znt (Xp (Ps F q) e) f2 f3
 rw [←hw]at p1 p2
 exact⟨Xp _ _,Zl4 hq q0 e0,by rw [Zn0 (Xp _ _) hq (Zdz q e0).symm,hn],Yct (Zth he hc),p1,p2⟩
theorem Ycs{p:List Int}(hp:Tr p)(h0:p≠[]):∃e:Int,(e=1∨e=-1)∧Zr p=Zv (Yn p) e:=by
 by_cases h:cf (Zr p) ((Zr p).length-1)<0
 ·refine⟨-1,.inr rfl,?_⟩
  rw [Zie (fun e=>h0 (List.eq_nil_of_length_eq_zero (by rw [←Zq,e]))) h]
  refine(Yf hp).ext (Xp _ _) fun i=>?_
  rw [Yj,Yj];omega
 ·refine⟨1,.inl rfl,?_⟩
  rw [Zid h]
  refine(Yf hp).ext (Xp _ _) fun i=>?_
  rw [Yj];omega
def Oq(F:Nat)(p:List Int):List Int:=Ms (Zv (Zr p) 1) (sqf F p)
def Cj(F:Nat)(p:List Int):List Int:=Ms (Zr (Oq F p)) (sqf F (Oq F p))
def Zbo(F:Nat):Nat→List Int→List Int
 | 0,p=>sqf F p
 | f+1,p=>if(sqf F p).length=1 then sqf F p else Xq (Ms (sqf F p) (sqf F (Oq F p))) (Zbo F f (Cj F p))
theorem Fs{F:Nat}{p q:List Int}(h:Yn p=Yn q):sqf F p=sqf F q:=by unfold sqf;rw [h]
theorem Zih{F:Nat}{p q:List Int}(h:Yn p=Yn q):Ps F p=Ps F q:=by unfold Ps;rw [h]
theorem Zjl{F:Nat}{p q:List Int}(h:Yn p=Yn q):∀f,Et F f p=Et F f q
 | 0=>Fs h
 | f+1=>by unfold Et;rw [Fs h,Zih h]
theorem Zja{F:Nat}{p:List Int}(hp:Tr p)(h0:p≠[])(hok:Gu F p)(hok2:Gu F (Ps F p)) :
  (∃e:Int,(e=1∨e=-1)∧Zv (Zr p) 1=Zv (Yn p) e∧pdv (Zv (Yn p) e) (sqf F p)∧Oq F p=Zv (Ps F p) e∧Zr (Oq F p)=Oq F p∧pdv (Oq F p) (sqf F (Ps F p))∧Cj F p=Zv (Ps F (Ps F p)) e)∧
  Yn (Oq F p)=Ps F p∧Yn (Cj F p)=Ps F (Ps F p)∧Tr (Oq F p)∧Oq F p≠[]∧Tr (Cj F p)∧Cj F p≠[]:=by
 obtain⟨b1,b2,b3,-⟩:=Dp.start hp h0
 have hok':Gu F (Yn p):=by unfold Gu;rw [b3];exact hok
 have hgn:Ps F (Yn p)=Ps F p:=Zih b3
 have hsn:sqf F (Yn p)=sqf F p:=Fs b3
 obtain⟨e,he,hpe⟩:=Ycs hp h0
 have hp1:Zv (Zr p) 1=Zv (Yn p) e:=by
  rw [hpe];refine(Xp _ _).ext (Xp _ _) fun i=>?_
  rw [Yj,Int.mul_one]
 obtain⟨-,-,-,-,c5,c6⟩:=Zp8 b1 b2 b3 hok' he
 rw [hgn,hsn]at c6
 rw [hsn]at c5
 have hl:Oq F p=Zv (Ps F p) e:=by unfold Oq;rw [hp1,c6]
 obtain⟨a1,a2,a3,-,-⟩:=Qy hp h0 hok
 obtain⟨d1,d2,d3,d4,d5,d6⟩:=Zp8 a1 a2 a3 hok2 he
 rw [←hl]at d1 d2 d3 d4 d5 d6
 have hsl:sqf F (Oq F p)=sqf F (Ps F p):=Fs (by rw [d3,a3])
 have hr:Cj F p=Zv (Ps F (Ps F p)) e:=by unfold Cj;rw [d4,hsl,d6]
 obtain⟨g1,g2,g3,-,-⟩:=Qy a1 a2 hok2
 have e0:e≠0:=by rcases he with rfl | rfl<;>decide
 refine⟨⟨e,he,hp1,c5,hl,d4,d5,hr⟩,d3,?_,d1,d2,?_,?_⟩
 ·rw [hr,Zn0 (Xp _ _) g1 (Zdz _ e0).symm,g3]
 ·rw [hr];exact Xp _ _
 ·rw [hr];exact Zl4 g1 g2 e0
theorem Zvk{F n:Nat}{p:List Int}(hp:Tr p)(h0:p≠[])(hs:Sz n p)(hn:n≤220)(hl:p.length≤11)(hF:p.length≤F+1):∀(f:Nat) (q:List Int),Tr q→q≠[]→Dp p (Yn q)→Zbo F f q=Et F f q:=by
 intro f
 induction f with
 | zero=>intro q _ _ _;rfl
 | succ f ih=>
  intro q hq q0 hD
  have hok:=(hD.ok hp h0 hs hn hl hF).2
  have hok':Gu F q:=by unfold Gu at hok ⊢;rwa [hD.2.2.1]at hok
  have hg:=hD.next hok
  rw [Zih hD.2.2.1]at hg
  have hok2:=(hg.ok hp h0 hs hn hl hF).2
  have hg2:=hg.next hok2
  obtain⟨-,r1,r2,r3,r4,r5,r6⟩:=Zja hq q0 hok' hok2
  unfold Zbo Et
  have a3:=hg.2.2.1
  rw [Fs (show Yn (Oq F q)=Yn (Ps F q) by rw [r1,a3]),ih _ r5 r6 (by rw [r2];exact hg2),Zjl (show Yn (Cj F q)=Yn (Ps F (Ps F q)) by rw [r2,hg2.2.2.1])]
def Ey(F:Nat)(q:List Int):List Int:=Ms (sqf F q) (sqf F (Ps F q))
theorem Ej{F:Nat}{q:List Int}(hq:Tr q)(q0:q≠[])(hok:Gu F q)(hok2:Gu F (Ps F q)):pdv (sqf F q) (sqf F (Ps F q))∧sqf F q=Xq (Ey F q) (sqf F (Ps F q))∧Tr (Ey F q)∧Ey F q≠[]:=by
 obtain⟨f1,f2,f3,f4,f5,f6⟩:=Og (F:=F) hq q0 hok
 obtain⟨a1,a2,a3,a4,a5⟩:=Qy hq q0 hok
 obtain⟨-,t2,t3,-,-,t6⟩:=Og (F:=F) a1 a2 hok2
 exact Zy7 f2 f3 t2 t3 t6 (Zv5 hq q0 hok hok2)
theorem Zt0{p a b:List Int}{n:Nat}(hp:Tr p)(h0:p≠[])(hs:Sz n p)(hl:p.length≤13)(ha:Tr a)(hb:Tr b)(e:Yn p=Xq a b):Sz (n+130) b∧b.length≤p.length∧b≠[]:=by
 have hK:kkR 24 13*(24+1)^13<2^130:=O8
 have hln:=Pe hp
 have hn0:=Zgn hp h0
 have ht:Tr (Yn p):=On (Yf hp)
 have a0:a≠[]:=fun e2=>hn0 (by rw [e,e2,Ic])
 have b0:b≠[]:=fun e2=>hn0 (by rw [e,e2,Zas])
 refine⟨Gb (L:=13) (R:=24) hb ha (Zm4 hs) hn0 ht O O3 hK (by rw [Dz];exact e),?_,b0⟩
 have hlq:=Po ha hb a0 b0
 rw [←e,hln]at hlq
 have:=List.length_pos_iff.2 a0
 omega
def Op(p out q:List Int):Prop:=∃a,Tr a∧Yn p=Xq a (Xq out q)
theorem Op.start{p:List Int}(hp:Tr p):Op p [1] (Yn p):=⟨[1],.inr (show cf [1] 0≠0 by decide),by
 refine(On (Yf hp)).ext (Qc _ _) fun i=>Ny (fun x=>?_) i
 rw [Zz,Zz,Pq];push_cast;show Ze (Yn p) x=_;grind⟩
theorem Op.next{p out q:List Int}{F:Nat}(hq:Tr q)(q0:q≠[])(hn:Yn q=q)(hok:Gu F q)(hok2:Gu F (Ps F q))(h:Op p out q):Op p (Xq out (Ey F q)) (Ps F (Ps F q)):=by
 obtain⟨a,ha,e⟩:=h
 obtain⟨-,o2,o3,o4⟩:=Ej hq q0 hok hok2
 obtain⟨a1,a2,a3,a4,a5⟩:=Qy hq q0 hok
 obtain⟨-,-,-,b4,-⟩:=Qy a1 a2 hok2
 rw [hn]at a4
 rw [a3]at b4
 refine⟨Xq a (Xq (sqf F (Ps F q)) (sqf F (Ps F q))),Qc _ _,e.trans ?_⟩
 refine(Qc _ _).ext (Qc _ _) fun i=>Ny (fun x=>?_) i
 have e1:Ze q x=Ze (sqf F q) x*Ze (Ps F q) x:=by rw [←Zz,←a4]
 have e2:Ze (sqf F q) x=Ze (Ey F q) x*Ze (sqf F (Ps F q)) x:=by rw [←Zz,←o2]
 have e3:Ze (Ps F q) x=Ze (sqf F (Ps F q)) x*Ze (Ps F (Ps F q)) x:=by rw [←Zz,←b4]
 simp only [Zz]
 rw [e1,e2]
 rw [e3]
 generalize Ze (sqf F (Ps F q)) x=A
 generalize Ze (Ps F (Ps F q)) x=B
 grind
theorem Op.sz{p out q:List Int}{n:Nat}(hp:Tr p)(h0:p≠[])(hs:Sz n p)(hl:p.length≤13)(ho:Tr out)(hq:Tr q)(h:Op p out q):Sz (n+130) out∧out.length≤p.length∧out≠[]:=by
 obtain⟨a,ha,e⟩:=h
 exact Zt0 hp h0 hs hl (Qc a q) ho (e.trans ((Qc _ _).ext (Qc _ _) fun i=>Ny (fun x=>by rw [Zz,Zz,Zz,Zz];grind) i))
theorem Zv1{p:List Int}(hp:Tr p):Xq [1] p=p:=by rw [Dz];exact Znr hp
theorem Ydc{F n:Nat}{p:List Int}(hp:Tr p)(h0:p≠[])(hs:Sz n p)(hn:n≤220)(hl:p.length≤11)(hF:p.length≤F+1):Zny F p.length [1] (Yn p)=Zbo F p.length p:=by
 have hD:=Dp.start hp h0
 have hok:=(hD.ok hp h0 hs hn hl hF).2
 rw [Zv7 hp h0 hs hn hl hF p.length [1] (Yn p) (.inr (show cf [1] 0≠0 by decide)) hD (by rw [Pe hp];exact Nat.le_refl _),Zv1 (Zib (p:=p) hD.1 hD.2.1 hok),Zvk hp h0 hs hn hl hF p.length p hp h0 hD]
 exact Zjl hD.2.2.1 _
theorem Ziu{xs:List Int}{F:Nat}(hx:Tr xs)(h0:xs≠[])(hC:Ct F xs){s t:Rat}(hst:s≤t):Bv F xs t≤Bv F xs s:=Zkn hx h0 hC hst
theorem Sqn.imp{P P':R2→R2→Prop}{hi:Rat}(hp:∀x y,P x y→P' x y):∀{lo:Rat} {l:List (R2×R2)},Sqn P hi lo l→Sqn P' hi lo l
 | _,[],h=>h
 | _,_ :: _,h=>⟨h.1,h.2.1,hp _ _ h.2.2.1,Sqn.imp hp h.2.2.2⟩
def oe(f:Nat→Int):Nat→Int
 | 0=>0
 | k+1=>err (oe f k) (f k)
def mon(d n:Nat):List Int:=mono d ((2:Int)^n)
variable {P:Program} {N:Nat} {sc:Nat→Prop} {env:Py} {H:Hp}
end Go.Sky
namespace Go.Sky
def HD(xs ys:List Int):Prop:=Vp ys∧ys≠[]∧Ad ys∧Ct 13 ys∧Bt 13 ys=Bt 13 xs
def PH(xs:List Int)(x y:R2):Prop:=(0<x.2∧bl x.1.natAbs≤506∧bl x.2.natAbs≤506)∧(0<y.2∧bl y.1.natAbs≤506∧bl y.2.natAbs≤506)∧cvc 13 xs x-cvc 13 xs y=1
def DR:R2×R2:=((0,0),(0,0))
theorem Zf3(d:Rat){h:Rat}(h1:0<h):∃n:Nat,d≤(n:Rat)*h:=by
 have h4:0<h⁻¹:=Rat.inv_pos.2 h1
 refine⟨(d*h⁻¹).ceil.toNat,?_⟩
 have h5:=@Rat.le_ceil (d*h⁻¹)
 have h6:(((d*h⁻¹).ceil:Int):Rat)≤(((d*h⁻¹).ceil.toNat:Nat):Rat):=by
  have:(d*h⁻¹).ceil≤(((d*h⁻¹).ceil.toNat:Nat):Int):=Int.self_le_toNat _
  exact_mod_cast this
 have h7:=Rat.mul_le_mul_of_nonneg_right (Rat.le_trans h5 h6) (show 0≤h by grind)
 have h8:d*h⁻¹*h=d:=O4
 grind
theorem Zou{f:Rat→Rat}{u v:Rat}(h:crs f u v≤0)(h0:f u≠0):0<f u*f v:=by
 unfold crs at h
 by_cases h1:f u≠0∧f u*f v≤0
 ·rw [if_pos h1]at h;exact absurd h O3
 ·have:¬f u*f v≤0:=fun h2=>h1 ⟨h0,h2⟩
  grind
theorem Zc3{xs:List Int}{F:Nat}(hx:Tr xs)(h0:xs≠[])(hC:Ct F xs){s t:Rat}(hst:s≤t)(hV:Bv F xs s≤Bv F xs t)(hs:Ze (sqf F xs) s≠0):∀y,s≤y→y≤t→0<Ze (sqf F xs) s*Ze (sqf F xs) y:=by
 obtain⟨h,h1,h2⟩:=Zkm hx h0 hC s t
 have hcv:∀u v,s≤u→u≤v→v≤t→v-u≤h→crs (Ze (sqf F xs)) u v≤0:=fun u v a b c d=>by
  have e:=h2 u v a b c d
  have m1:vat ((Bt F xs).map Ze) u≤vat ((Bt F xs).map Ze) s:=Zkn hx h0 hC a
  have m2:vat ((Bt F xs).map Ze) t≤vat ((Bt F xs).map Ze) v:=Zkn hx h0 hC c
  have m3:vat ((Bt F xs).map Ze) s≤vat ((Bt F xs).map Ze) t:=hV
  omega
 generalize Ze (sqf F xs)=f at *
 have key:∀n:Nat,∀y,s≤y→y≤t→y-s≤(n:Rat)*h→0<f s*f y:=fun n=>by
  induction n with
  | zero=>
   intro y a b c
   have:y=s:=by push_cast at c;grind
   subst this
   exact Zou (hcv _ _ a O4 b O4) hs
  | succ n ih=>
   intro y a b c
   push_cast at c
   by_cases hy:y-s≤h
   ·exact Zou (hcv s y O4 a b hy) hs
   ·have i1:=ih (y-h) O4 O4 O4
    have hz:f (y-h)≠0:=fun e=>by rw [e]at i1;grind
    have i2:=Zou (hcv (y-h) y O4 O4 b O4) hz
    have i3:=Rat.mul_pos i1 i2
    have e1:f s*f (y-h)*(f (y-h)*f y)=(f (y-h)*f (y-h))*(f s*f y):=O4
    rw [e1]at i3
    have i4:0<f (y-h)*f (y-h):=by
     rcases(show 0<f (y-h)∨f (y-h)<0 by grind)with q | q
     ·exact Rat.mul_pos q q
     ·have:=Rat.mul_pos (a:=-f (y-h)) (b:=-f (y-h)) O4 O4;grind
    rcases(show 0<f s*f y∨f s*f y≤0 by grind)with q | q
    ·exact q
    ·have:=Rat.mul_nonneg (a:=f (y-h)*f (y-h)) (b:=-(f s*f y)) O4 O4;grind
 intro y a b
 obtain⟨n,hn⟩:∃n:Nat,y-s≤(n:Rat)*h:=by
  obtain⟨n,hn⟩:=Zf3 (y-s) h1
  exact⟨n,hn⟩
 exact key n y a b hn
theorem Zff{p:List Int}{s t:Rat}(hst:s≤t)(hd:∀u,s≤u→u≤t→0≤Ze (ld p) u):Ze p s≤Ze p t:=by
 rcases(show Ze p s≤Ze p t∨Ze p t<Ze p s by grind)with h | h
 ·exact h
 ·exfalso
  obtain⟨M,m1,m2⟩:=Zh9 s t p
  have hlt:s<t:=by
   rcases(show s<t∨s=t by grind)with h9 | h9
   ·exact h9
   ·rw [h9]at h;grind
  obtain⟨n,hn⟩:=Zf3 (M*(t-s)*(t-s)+1) (show 0<Ze p s-Ze p t by grind)
  have hn0:(0:Rat)<(n:Rat):=by
   rcases Nat.eq_zero_or_pos n with h9 | h9
   ·subst h9
    have:=Rat.mul_nonneg (a:=M*(t-s)) (b:=t-s) (Rat.mul_nonneg O4 O4) O4
    push_cast at hn;grind
   ·exact_mod_cast h9
  have hn1:(n:Rat)≠0:=fun e=>by rw [e]at hn0;exact absurd hn0 O3
  have hnn0:(n:Rat)*((t-s)/n)=t-s:=by
   rw [Rat.div_def,←Rat.mul_assoc,Rat.mul_comm (n:Rat),Rat.mul_assoc,Rat.mul_inv_cancel _ hn1,Rat.mul_one]
  have key:∀k:Nat,(k:Rat)≤(n:Rat)→-(M*((t-s)/n)*((t-s)/n))*k≤Ze p (s+k*((t-s)/n))-Ze p s:=fun k=>by
   induction k with
   | zero=>intro _;push_cast;rw [show s+0*((t-s)/n)=s by grind];grind
   | succ k ih=>
    intro hk
    push_cast at hk ⊢
    have i1:=ih O4
    have hh:0≤(t-s)/n:=by
     rw [Rat.div_def];exact Rat.mul_nonneg O4 (Rat.le_of_lt (Rat.inv_pos.2 hn0))
    have hnn:=hnn0
    generalize (t-s)/(n:Rat)=h at *
    have k0:(0:Rat)≤(k:Rat):=by exact_mod_cast Nat.zero_le k
    have b1:=Rat.mul_nonneg (a:=(k:Rat)) (b:=h) k0 hh
    have b2:=Rat.mul_nonneg (a:=(n:Rat)-(k+1)) (b:=h) O4 hh
    have j:=(m2 (s+k*h) (s+(k+1)*h) O4 O4 O4).1
    have e:=hd (s+k*h) O4 O4
    have e2:=Rat.mul_nonneg hh e
    rw [show s+(k+1)*h-(s+k*h)=h by grind]at j
    grind
  have k1:=key n O4
  have hnn:=hnn0
  rw [hnn,show s+(t-s)=t by grind]at k1
  have k2:-(M*((t-s)/n)*((t-s)/n))*n=-(M*((t-s)/n)*(t-s)):=O4
  rw [k2]at k1
  have k3:M*((t-s)/n)*(t-s)*n=M*(t-s)*(t-s):=O4
  have k4:=Rat.mul_nonneg (a:=Ze p t-Ze p s+M*((t-s)/n)*(t-s)) (b:=(n:Rat)) O4 O4
  grind
theorem Ze0(p:List Int)(x:Rat):Ze (p.map fun a=>-1*a) x=-Ze p x:=by rw [Zm];push_cast;grind
theorem Zmv{p:List Int}{s t:Rat}(hst:s<t)(hd:∀u,s<u→u≤t→0<Ze (ld p) u)(h0:0≤Ze (ld p) s):Ze p s<Ze p t:=by
 have hm:s<(s+t)/2∧(s+t)/2<t:=by constructor<;>grind
 generalize (s+t)/2=m at *
 have a1:=Zff (p:=p) (s:=s) (t:=m) O4 (fun u a b=>by
  rcases(show s<u∨u=s by grind)with h | h
  ·exact Rat.le_of_lt (hd u h O4)
  ·rw [h];exact h0)
 obtain⟨M,m1,m2⟩:=Zh9 m t p
 have hp:=hd m hm.1 O4
 obtain⟨η,q1,q2,q3⟩:=Ij (show 0<t-m by grind) m1 (show 0<Ze (ld p) m/2 by grind)
 have b:=(m2 m (m+η) O4 O4 O4).1
 rw [show m+η-m=η by grind]at b
 have a2:=Zff (p:=p) (s:=m+η) (t:=t) O4 (fun u a b=>Rat.le_of_lt (hd u O4 b))
 have c:=Rat.mul_nonneg (a:=η) (b:=Ze (ld p) m/2-η*M) O4 O4
 have d:=Rat.mul_pos q1 hp
 grind
def Gz:Nat→List Int→Rat→Int
 | 0,_,_=>0
 | n+1,p,x=>if Ze p x≠0 then Gl (Ze p x)else Gz n (Yi p) x
theorem Zvi{x:Rat}(h:0<x):Gl x=1:=Cy h
theorem Zlx{x:Rat}(h:x<0):Gl x=-1:=Cz h
theorem Zqe{x:Rat}(h:x=0):Gl x=0:=by subst h;rfl
theorem Qw(x:Rat):(0<x∧Gl x=1)∨(x<0∧Gl x=-1)∨(x=0∧Gl x=0):=by
 rcases(show 0<x∨x<0∨x=0 by grind)with h | h | h
 ·exact .inl ⟨h,Zvi h⟩
 ·exact .inr (.inl ⟨h,Zlx h⟩)
 ·exact .inr (.inr ⟨h,Zqe h⟩)
theorem Zur(n:Nat)(p:List Int)(x:Rat)(h:Ze p x≠0)(hl:p.length≤n):Gz n p x=Gl (Ze p x):=by
 cases n with
 | zero=>have:p=[]:=List.eq_nil_of_length_eq_zero O;subst this;exact absurd rfl h
 | succ n=>unfold Gz;rw [if_pos h]
theorem Zmb(p:List Int)(x:Rat)(h:Ze p x≠0):∃δ:Rat,0<δ∧∀y,x<y→y≤x+δ→Gl (Ze p y)=Gl (Ze p x):=by
 obtain⟨L,l1,l2⟩:=Di x (x+1) p
 have ha:0<(if 0<Ze p x then Ze p x else -Ze p x):=by split<;>grind
 obtain⟨δ,d1,d2,d3⟩:=Ij (show(0:Rat)<1 by decide) (show 0<L+1 by grind) (show 0<(if 0<Ze p x then Ze p x else -Ze p x)/2 by grind)
 refine⟨δ,d1,fun y h1 h2=>?_⟩
 have l:=l2 x y O4 O4 O4
 have b:=Rat.mul_nonneg (a:=L) (b:=δ-(y-x)) O4 O4
 have c:L*(y-x)≤δ*(L+1):=O4
 rcases Qw (Ze p x)with⟨h3,h4⟩ | ⟨h3,h4⟩ | ⟨h3,h4⟩
 ·rw [if_pos h3]at d3 ha;rw [h4];exact Zvi O4
 ·rw [if_neg O4]at d3 ha;rw [h4];exact Zlx O4
 ·exact absurd h3 h
theorem Cu:∀(n:Nat) (p:List Int) (x:Rat),p.length≤n→∃δ:Rat,0<δ∧∀y,x<y→y≤x+δ→Gl (Ze p y)=Gz n p x
 | 0,p,x,hl=>⟨1,O3,fun y _ _=>by
  have:p=[]:=List.eq_nil_of_length_eq_zero O
  subst this;exact Zqe rfl⟩
 | n+1,p,x,hl=>by
  by_cases h:Ze p x≠0
  ·rw [Zur (n+1) p x h hl];exact Zmb p x h
  ·have h0:Ze p x=0:=Classical.not_not.1 h
   have ld':=Pn p
   obtain⟨δ,d1,d2⟩:=Cu n (Yi p) x O
   have hu:Gz (n+1) p x=Gz n (Yi p) x:=by unfold Gz;rw [if_neg h];cases n<;>rfl
   have hx:Ze (ld p) x≠0→Gl (Ze (ld p) x)=Gz n (Yi p) x:=fun h9=>by
    rw [←Lr]at h9 ⊢;exact(Zur n (Yi p) x h9 O).symm
   refine⟨δ,d1,fun y h1 h2=>?_⟩
   rw [hu]
   have hd:∀u,x<u→u≤y→Gl (Ze (ld p) u)=Gz n (Yi p) x:=fun u a b=>by rw [←Lr];exact d2 u a O4
   have hyy:=hd y h1 O4
   generalize Gz n (Yi p) x=σ at *
   rcases Qw (Ze (ld p) y)with⟨h3,h4⟩ | ⟨h3,h4⟩ | ⟨h3,h4⟩
   ·rw [h4]at hyy;subst hyy
    refine Zvi ?_
    have:=Zmv (p:=p) h1 (fun u a b=>by
     rcases Qw (Ze (ld p) u)with⟨h5,h6⟩ | ⟨h5,h6⟩ | ⟨h5,h6⟩
     ·exact h5
     ·have:=hd u a b;rw [h6]at this;exact absurd this O3
     ·have:=hd u a b;rw [h6]at this;exact absurd this O3) (by
     rcases Qw (Ze (ld p) x)with⟨h5,h6⟩ | ⟨h5,h6⟩ | ⟨h5,h6⟩
     ·exact Rat.le_of_lt h5
     ·have:=hx O4;rw [h6]at this;exact absurd this O3
     ·grind)
    grind
   ·rw [h4]at hyy;subst hyy
    refine Zlx ?_
    have hn:∀u,Ze (ld (p.map fun a=>-1*a)) u=-Ze (ld p) u:=fun u=>by rw [Bb];push_cast;grind
    have:=Zmv (p:=p.map fun a=>-1*a) h1 (fun u a b=>by
     rw [hn]
     rcases Qw (Ze (ld p) u)with⟨h5,h6⟩ | ⟨h5,h6⟩ | ⟨h5,h6⟩
     ·have:=hd u a b;rw [h6]at this;exact absurd this O3
     ·grind
     ·have:=hd u a b;rw [h6]at this;exact absurd this O3) (by
     rw [hn]
     rcases Qw (Ze (ld p) x)with⟨h5,h6⟩ | ⟨h5,h6⟩ | ⟨h5,h6⟩
     ·have:=hx O4;rw [h6]at this;exact absurd this O3
     ·grind
     ·grind)
    rw [Ze0,Ze0]at this
    grind
   ·rw [h4]at hyy;subst hyy
    refine Zqe ?_
    have hz:∀u,x≤u→u≤y→Ze (ld p) u=0:=fun u a b=>by
     rcases(show x<u∨u=x by grind)with h9 | h9
     ·rcases Qw (Ze (ld p) u)with⟨h5,h6⟩ | ⟨h5,h6⟩ | ⟨h5,h6⟩
      ·have:=hd u h9 b;rw [h6]at this;exact absurd this O3
      ·have:=hd u h9 b;rw [h6]at this;exact absurd this O3
      ·exact h5
     ·subst h9
      rcases Qw (Ze (ld p) u)with⟨h5,h6⟩ | ⟨h5,h6⟩ | ⟨h5,h6⟩
      ·have:=hx O4;rw [h6]at this;exact absurd this O3
      ·have:=hx O4;rw [h6]at this;exact absurd this O3
      ·exact h5
    have a1:=Zff (p:=p) (s:=x) (t:=y) O4 (fun u a b=>by rw [hz u a b];grind)
    have a2:=Zff (p:=p.map fun a=>-1*a) (s:=x) (t:=y) O4 (fun u a b=>by rw [Bb,hz u a b];push_cast;grind)
    rw [Ze0,Ze0]at a2
    grind
theorem Ed.mul_l{a b c:List Int}(h:Ed a b):Ed (Xq c a) (Xq c b):=by
 obtain⟨k,s,hk,e⟩:=h
 exact⟨k,s,hk,fun x=>by rw [Zz,Zz];have:=e x;grind⟩
theorem Gf{F n:Nat}{p:List Int}(hp:Tr p)(h0:p≠[])(hs:Sz n p)(hn:n≤220)(hl:p.length≤11)(hF:p.length≤F+1):∀(f:Nat) (q:List Int),Dp p q→q.length≤f→
  (∃B:List Int,∀x:Rat,Ze q x=Ze (Et F f q) x*(Ze B x*Ze B x))∧Ed (Et F f q) (sqf F q):=by
 intro f
 induction f with
 | zero=>intro q hq hlq;have:=List.length_pos_iff.2 hq.2.1;omega
 | succ f ih=>
  intro q hq hlq
  have hok:=(hq.ok hp h0 hs hn hl hF).2
  have hg:=hq.next hok
  have hok2:=(hg.ok hp h0 hs hn hl hF).2
  have hg2:=hg.next hok2
  unfold Et
  by_cases c1:(sqf F q).length=1
  ·rw [if_pos c1]
   obtain⟨s1,s2,s3⟩:=Zes hq.1 hq.2.1 hok c1
   refine⟨⟨[1],fun x=>?_⟩,Ed.refl _⟩
   rw [s1,Yho hq.1 hq.2.2.1 s2,Pq];push_cast;grind
  ·rw [if_neg c1]
   have lq:2≤q.length:=by
    obtain⟨f1,f2,f3,f4,f5,f6⟩:=Og (F:=F) hq.1 hq.2.1 hok
    obtain⟨a1,a2,a3,a4,a5⟩:=Qy hq.1 hq.2.1 hok
    have l1:=List.length_pos_iff.2 f3
    have l2:=List.length_pos_iff.2 a2
    omega
   have lt1:=Zj9 hq.1 hq.2.1 hok lq
   obtain⟨a1,a2,a3,a4,a5⟩:=Qy hq.1 hq.2.1 hok
   obtain⟨b1,b2,b3,b4,b5⟩:=Qy hg.1 hg.2.1 hok2
   obtain⟨-,t2,t3,-,-,-⟩:=Og (F:=F) hg.1 hg.2.1 hok2
   have lb:=List.length_pos_iff.2 t3
   obtain⟨⟨B,hB⟩,hE⟩:=ih _ hg2 O
   obtain⟨-,o2,o3,o4⟩:=Ej hq.1 hq.2.1 hok hok2
   have hok3:=(hg2.ok hp h0 hs hn hl hF).2
   rw [hq.2.2.1]at a4
   rw [a3]at b4
   have e1:∀x,Ze q x=Ze (sqf F q) x*Ze (Ps F q) x:=fun x=>by rw [←Zz,←a4]
   have e2:∀x,Ze (sqf F q) x=Ze (Ey F q) x*Ze (sqf F (Ps F q)) x:=fun x=>by rw [←Zz,←o2]
   have e3:∀x,Ze (Ps F q) x=Ze (sqf F (Ps F q)) x*Ze (Ps F (Ps F q)) x:=fun x=>by rw [←Zz,←b4]
   refine⟨⟨Xq (sqf F (Ps F q)) B,fun x=>?_⟩,?_⟩
   ·rw [Zz,Zz,e1 x,e2 x,e3 x,hB x]
    show _=Ze (Ey F q) x*_*_
    generalize Ze (sqf F (Ps F q)) x=S
    generalize Ze B x=C
    grind
   ·have h9:Ed (Et F f (Ps F (Ps F q))) (sqf F (Ps F q)):=hE.trans (Zv5 hg.1 hg.2.1 hok2 hok3)
    have h8:=h9.mul_l (c:=Ey F q)
    rw [←o2]at h8
    exact h8
theorem Zqv{F n:Nat}{p:List Int}(hp:Tr p)(h0:p≠[])(hs:Sz n p)(hn:n≤220)(hl:p.length≤11)(hF:p.length≤F+1){o:List Int}(ho:Tr o)(o0:o≠[])(hok:Gu F o)(hpk:Gu F p)(h:Ed o (sqf F p)):(Ps F o).length=1∧sqf F o=Yn o:=by
 obtain⟨a1,a2,a3,a4,a5⟩:=Qy ho o0 hok
 obtain⟨f1,f2,f3,f4,f5,f6⟩:=Og (F:=F) hp h0 hpk
 obtain⟨-,s2,s3,s4,s5,s6⟩:=Og (F:=F) ho o0 hok
 have ht:Tr (Yn o):=On (Yf ho)
 have hd:=Zcw ht (Oh ht) hok
 have e1:Ed (Ps F o) (Yn o):=hd.1.ed
 have e2:Ed (Ps F o) (ld (Yn o)):=(hd.2.ed:Ed (Ps F o) (Yi (Yn o))).congr fun x=>Lr _ x
 have hsim:Sim (Yn o) o:=(Kp (Zr o)).trans (Xt ho)
 obtain⟨k,w,hk,hkw⟩:Ed (Yn o) (sqf F p):=by
  obtain⟨k,w,hk,e⟩:=h
  obtain⟨c,d,hc,hd',hcd⟩:=hsim
  have hcd':∀x:Rat,(c:Rat)*Ze (Yn o) x=(d:Rat)*Ze o x:=fun x=>by
   rw [←Zm,←Zm];exact Nz x _ _ fun i=>by rw [Qd,Qd];exact hcd i
  exact⟨d*k,w.map fun a=>c*a,Int.mul_ne_zero hd' hk,fun x=>by
   rw [Zm];have a:=e x;have b:=hcd' x;push_cast;grind⟩
 have hlen:(Ps F o).length≤1:=by
  refine Zet hp h0 hpk a1 (e1.trans ⟨k,w,hk,hkw⟩) ?_
  have h1:Ed (Ps F o) (Pb w (ld (Yn o))):=by
   obtain⟨m,z,hm,e⟩:=e2
   exact⟨m,Pb w z,hm,fun x=>by rw [Zt,Zt];have:=e x;grind⟩
  have h2:Ed (Ps F o) (ld (sqf F p)):=Ed.lin e1 h1 (ld w) k hk fun x=>by
   have:=Eh (p:=(sqf F p).map fun a=>k*a) (q:=Pb w (Yn o)) (fun y=>by rw [Zm,Zt];exact hkw y) x
   rw [Bb,Dl]at this
   rw [Zt,this]
  exact h2.congr fun x=>(Lr _ x).symm
 have hl1:(Ps F o).length=1:=by have:=List.length_pos_iff.2 a2;omega
 refine⟨hl1,?_⟩
 rw [Yho a1 a3 hl1,Znr s2]at a4
 exact a4.symm
theorem Zeu{a b:List Int}(h:Sim a b):∃c d:Int,c≠0∧d≠0∧∀x:Rat,(c:Rat)*Ze a x=(d:Rat)*Ze b x:=by
 obtain⟨c,d,hc,hd,e⟩:=h
 exact⟨c,d,hc,hd,fun x=>by rw [←Zm,←Zm];exact Nz x _ _ fun i=>by rw [Qd,Qd];exact e i⟩
theorem Hh{x:Rat}(h:x≠0):0<x*x:=by
 rcases(show 0<x∨x<0 by grind)with q | q
 ·exact Rat.mul_pos q q
 ·have:=Rat.mul_pos (a:=-x) (b:=-x) O4 O4;grind
theorem Pp{c:Int}(h:c≠0):(c:Rat)≠0:=fun e=>h (by exact_mod_cast e)
theorem Ze9{a b a' b' c d:Rat}(hc:c≠0)(hd:d≠0)(e1:c*a'=d*a)(e2:c*b'=d*b)(h:a*b<0):a'*b'<0:=by
 have h1:(c*c)*(a'*b')=(d*d)*(a*b):=O4
 have h2:=Hh hc
 have h3:=Hh hd
 rcases(show a'*b'<0∨0≤a'*b' by grind)with q | q
 ·exact q
 ·have h4:=Rat.mul_nonneg (a:=c*c) (b:=a'*b') O4 q
  have h5:=Rat.mul_pos (a:=d*d) (b:=-(a*b)) h3 O4
  grind
theorem Yc7{o1 o2 B1 B2:Rat}(h:o1*(B1*B1)*(o2*(B2*B2))<0):o1*o2<0:=by
 rcases(show o1*o2<0∨0≤o1*o2 by grind)with q | q
 ·exact q
 ·have h1:0≤B1*B2*(B1*B2):=by
   by_cases hz:B1*B2=0
   ·rw [hz];grind
   ·exact Rat.le_of_lt (Hh hz)
  have h2:=Rat.mul_nonneg q h1
  grind
theorem Zma{F n:Nat}{p o:List Int}(hp:Tr p)(h0:p≠[])(hs:Sz n p)(hn:n≤220)(hl:p.length≤11)(hF:p.length≤F+1)(ho:o=Et F p.length (Yn p))(hot:Tr o)(o0:o≠[])(hC:Ct F o){a b:Rat}(hab:a<b)(h1:Gz p.length p a=1)(h2:Ze p b<0):Bv F o b<Bv F o a:=by
 have hD:=Dp.start hp h0
 have hokn:=(hD.ok hp h0 hs hn hl hF).2
 have hokp:Gu F p:=by unfold Gu at hokn ⊢;rwa [hD.2.2.1]at hokn
 obtain⟨⟨B,hB⟩,hE⟩:=Gf hp h0 hs hn hl hF p.length (Yn p) hD (by rw [Pe hp];exact Nat.le_refl _)
 rw [←ho]at hB hE
 rw [Fs hD.2.2.1]at hE
 obtain⟨-,hsq⟩:=Zqv hp h0 hs hn hl hF hot o0 hC.1.2.2.1 hokp hE
 obtain⟨δ,d1,d2⟩:=Cu p.length p a (Nat.le_refl _)
 obtain⟨s,s1,s2,s3⟩:∃s,a<s∧s≤a+δ∧s<b:=by
  rcases(show a+δ<b∨b≤a+δ by grind)with q | q
  ·exact⟨a+δ,O4,O4,q⟩
  ·exact⟨(a+b)/2,O4,O4,O4⟩
 have hps:0<Ze p s:=by
  have:=d2 s s1 s2
  rw [h1]at this
  rcases Qw (Ze p s)with⟨h5,h6⟩ | ⟨h5,h6⟩ | ⟨h5,h6⟩
  ·exact h5
  ·rw [h6]at this;exact absurd this O3
  ·rw [h6]at this;exact absurd this O3
 have k1:Ze p s*Ze p b<0:=by have:=Rat.mul_pos (a:=Ze p s) (b:=-Ze p b) hps O4;grind
 obtain⟨c,d,hc,hd,e⟩:=Zeu ((Kp (Zr p)).trans (Xt hp):Sim (Yn p) p)
 have k2:Ze (Yn p) s*Ze (Yn p) b<0:=Ze9 (Pp hc) (Pp hd) (e s) (e b) k1
 rw [hB s,hB b]at k2
 have k3:=Yc7 k2
 obtain⟨c',d',hc',hd',e'⟩:=Zeu ((Kp (Zr o)).trans (Xt hot):Sim (Yn o) o)
 have k4:Ze (Yn o) s*Ze (Yn o) b<0:=Ze9 (Pp hc') (Pp hd') (e' s) (e' b) k3
 rw [←hsq]at k4
 have m1:=Ziu hot o0 hC (Rat.le_of_lt s1)
 rcases Int.lt_or_le (Bv F o b) (Bv F o s)with q | q
 ·exact Int.lt_of_lt_of_le q m1
 ·exfalso
  have hz:Ze (sqf F o) s≠0:=fun e9=>by rw [e9]at k4;grind
  have:=Zc3 hot o0 hC (Rat.le_of_lt s3) q hz b (Rat.le_of_lt s3) O4
  grind
theorem Zf4:∀(n:Nat) (p:List Int) (x:Rat),Tr p→p≠[]→p.length≤n→Gz n p x≠0
 | 0,p,x,_,h0,hl=>absurd (List.eq_nil_of_length_eq_zero O) h0
 | n+1,p,x,hp,h0,hl=>by
  unfold Gz
  by_cases h:Ze p x≠0
  ·rw [if_pos h]
   rcases Qw (Ze p x)with⟨h5,h6⟩ | ⟨h5,h6⟩ | ⟨h5,h6⟩
   ·rw [h6];decide
   ·rw [h6];decide
   ·exact absurd h5 h
  ·rw [if_neg h]
   have hz:Ze p x=0:=Classical.not_not.1 h
   have ld':=Pn p
   refine Zf4 n (Yi p) x (Oh hp) (fun e=>?_) O
   rw [e]at ld'
   have l0:=List.length_pos_iff.2 h0
   have hl1:p.length=1:=by simp at ld';omega
   match p,hl1 with
   | [c],_=>
    have hc:c≠0:=hp.mem O5
    rw [Pq]at hz
    exact Pp hc hz
theorem Zpj(n:Nat)(p:List Int)(x:Rat):-1≤Gz n p x∧Gz n p x≤1:=by
 induction n generalizing p with
 | zero=>show -1≤(0:Int)∧(0:Int)≤1;decide
 | succ n ih=>unfold Gz;split;exact Ybw _;exact ih _
def Bk(F:Nat)(o:List Int)(a b:Rat):Prop:=0<Bv F o a-Bv F o b-(if Ze o b=0 then 1 else 0)
theorem Ydh{F n:Nat}{p o:List Int}(hp:Tr p)(h0:p≠[])(hs:Sz n p)(hn:n≤220)(hl:p.length≤11)(hF:p.length≤F+1)(ho:o=Et F p.length (Yn p))(hot:Tr o)(o0:o≠[])(hC:Ct F o){a b:Rat}(hab:a<b) :
  (Ze p a<0∨Ze p b<0∨Gz p.length p a<0∨Bk F o a b)↔(Gz p.length p a<0∨Bk F o a b):=by
 constructor
 ·rintro(h | h | h | h)
  ·left
   rw [Zur p.length p a O4 (Nat.le_refl _),Zlx h];decide
  ·have r:=Zpj p.length p a
   have r0:=Zf4 p.length p a hp h0 (Nat.le_refl _)
   rcases(show Gz p.length p a<0∨Gz p.length p a=1 by omega)with h1 | h1
   ·exact .inl h1
   ·right
    have hv:=Zma hp h0 hs hn hl hF ho hot o0 hC hab h1 h
    have hD:=Dp.start hp h0
    obtain⟨⟨B,hB⟩,-⟩:=Gf hp h0 hs hn hl hF p.length (Yn p) hD (by rw [Pe hp];exact Nat.le_refl _)
    rw [←ho]at hB
    obtain⟨c,d,hc,hd,e⟩:=Zeu ((Kp (Zr p)).trans (Xt hp):Sim (Yn p) p)
    have hob:Ze o b≠0:=fun e9=>by
     have h5:(c:Rat)*Ze (Yn p) b=(d:Rat)*Ze p b:=e b
     rw [hB b,e9]at h5
     have h6:=Pp hd
     have h7:(d:Rat)*Ze p b=0:=by rw [←h5];grind
     rcases Rat.mul_eq_zero.1 h7 with q | q
     ·exact h6 q
     ·rw [q]at h;grind
    unfold Bk
    rw [if_neg hob]
    omega
  ·exact .inl h
  ·exact .inr h
 ·rintro(h | h)
  ·exact .inr (.inr (.inl h))
  ·exact .inr (.inr (.inr h))
theorem Zzy(p:List Int)(x:Rat)(h:Ze p x≠0):∃δ:Rat,0<δ∧∀y,x-δ≤y→y≤x→Gl (Ze p y)=Gl (Ze p x):=by
 obtain⟨L,l1,l2⟩:=Di (x-1) x p
 have ha:0<(if 0<Ze p x then Ze p x else -Ze p x):=by split<;>grind
 obtain⟨δ,d1,d2,d3⟩:=Ij (show(0:Rat)<1 by decide) (show 0<L+1 by grind) (show 0<(if 0<Ze p x then Ze p x else -Ze p x)/2 by grind)
 refine⟨δ,d1,fun y h1 h2=>?_⟩
 have l:=l2 y x O4 O4 O4
 have b:=Rat.mul_nonneg (a:=L) (b:=δ-(x-y)) O4 O4
 have c:L*(x-y)≤δ*(L+1):=O4
 rcases Qw (Ze p x)with⟨h3,h4⟩ | ⟨h3,h4⟩ | ⟨h3,h4⟩
 ·rw [if_pos h3]at d3 ha;rw [h4];exact Zvi O4
 ·rw [if_neg O4]at d3 ha;rw [h4];exact Zlx O4
 ·exact absurd h3 h
theorem rsg_1{x:Rat}(h:Gl x=1):0<x:=by
 rcases Qw x with⟨h5,h6⟩ | ⟨h5,h6⟩ | ⟨h5,h6⟩
 ·exact h5
 ·rw [h6]at h;exact absurd h O3
 ·rw [h6]at h;exact absurd h O3
theorem Zna{x:Rat}(h:Gl x=-1):x<0:=by
 rcases Qw x with⟨h5,h6⟩ | ⟨h5,h6⟩ | ⟨h5,h6⟩
 ·rw [h6]at h;exact absurd h O3
 ·exact h5
 ·rw [h6]at h;exact absurd h O3
def Zsl(p:List Int)(a b:Rat):Prop:=∃x,a≤x∧x≤b∧Ze p x<0
theorem Yeq {xs:List Int} {F:Nat} (hx:Tr xs) (h0:xs≠[]) (hC:Ct F xs) {a b σ:Rat} (hσ:σ≠0) (hab:a<b)
  (hpos:∀x,a≤x→x<b→∃δ:Rat,0<δ∧∀y,x<y→y≤x+δ→y≤b→0<σ*Ze (sqf F xs) y) :
  Bv F xs a-Bv F xs b≤(if Ze (sqf F xs) b=0 then 1 else 0):=by
 obtain⟨h,h1,h2⟩:=Zkm hx h0 hC a b
 have hge:∀x,a≤x→x<b→0≤σ*Ze (sqf F xs) x:=fun x ha hb=>by
  rcases(show 0≤σ*Ze (sqf F xs) x∨σ*Ze (sqf F xs) x<0 by grind)with q | q
  ·exact q
  ·exfalso
   have hz:Ze (sqf F xs) x≠0:=fun e=>by rw [e]at q;grind
   obtain⟨δ,d1,d2⟩:=hpos x ha hb
   obtain⟨ε,e1,e2⟩:=Zmb (sqf F xs) x hz
   obtain⟨y,y1,y2,y3,y4⟩:∃y,x<y∧y≤x+δ∧y≤x+ε∧y≤b:=by
    rcases(show δ≤ε∨ε≤δ by grind)with w | w
    ·rcases(show x+δ≤b∨b≤x+δ by grind)with v | v
     ·exact⟨x+δ,O4,O4,O4,v⟩
     ·exact⟨b,O4,O4,O4,O4⟩
    ·rcases(show x+ε≤b∨b≤x+ε by grind)with v | v
     ·exact⟨x+ε,O4,O4,O4,v⟩
     ·exact⟨b,O4,O4,O4,O4⟩
   have k1:=d2 y y1 y2 y4
   have k2:=e2 y y1 y3
   rcases Qw (Ze (sqf F xs) x)with⟨h5,h6⟩ | ⟨h5,h6⟩ | ⟨h5,h6⟩
   ·rw [h6]at k2
    have k3:=rsg_1 k2
    rcases(show σ<0∨0<σ by grind)with s | s
    ·have:=Rat.mul_pos (a:=-σ) (b:=Ze (sqf F xs) y) O4 k3;grind
    ·have:=Rat.mul_pos s h5;grind
   ·rw [h6]at k2
    have k3:=Zna k2
    rcases(show σ<0∨0<σ by grind)with s | s
    ·have:=Rat.mul_pos (a:=-σ) (b:=-Ze (sqf F xs) x) O4 O4;grind
    ·have:=Rat.mul_pos (a:=σ) (b:=-Ze (sqf F xs) y) s O4;grind
   ·exact hz h5
 have hgb:0≤σ*Ze (sqf F xs) b:=by
  rcases(show 0≤σ*Ze (sqf F xs) b∨σ*Ze (sqf F xs) b<0 by grind)with q | q
  ·exact q
  ·exfalso
   have hz:Ze (sqf F xs) b≠0:=fun e=>by rw [e]at q;grind
   obtain⟨ε,e1,e2⟩:=Zzy (sqf F xs) b hz
   obtain⟨y,y1,y2,y3⟩:∃y,a≤y∧y<b∧b-ε≤y:=by
    rcases(show a≤b-ε∨b-ε≤a by grind)with v | v
    ·exact⟨b-ε,v,O4,O4⟩
    ·exact⟨a,O4,hab,v⟩
   obtain⟨δ,d1,d2⟩:=hpos y y1 y2
   obtain⟨z,z1,z2,z3⟩:∃z,y<z∧z≤y+δ∧z≤b:=by
    rcases(show y+δ≤b∨b≤y+δ by grind)with v | v
    ·exact⟨y+δ,O4,O4,v⟩
    ·exact⟨b,y2,O4,O4⟩
   have k1:=d2 z z1 z2 z3
   have k2:=e2 z O4 z3
   rcases Qw (Ze (sqf F xs) b)with⟨h5,h6⟩ | ⟨h5,h6⟩ | ⟨h5,h6⟩
   ·rw [h6]at k2
    have k3:=rsg_1 k2
    rcases(show σ<0∨0<σ by grind)with s | s
    ·have:=Rat.mul_pos (a:=-σ) (b:=Ze (sqf F xs) z) O4 k3;grind
    ·have:=Rat.mul_pos s h5;grind
   ·rw [h6]at k2
    have k3:=Zna k2
    rcases(show σ<0∨0<σ by grind)with s | s
    ·have:=Rat.mul_pos (a:=-σ) (b:=-Ze (sqf F xs) b) O4 O4;grind
    ·have:=Rat.mul_pos (a:=σ) (b:=-Ze (sqf F xs) z) s O4;grind
   ·exact hz h5
 have hstep:∀u v,a≤u→u≤v→v≤b→v-u≤h/2→Bv F xs u-Bv F xs v≤(if v=b∧Ze (sqf F xs) b=0 then 1 else 0):=fun u v c1 c2 c3 c4=>by
  have e:=h2 u v c1 c2 c3 O4
  have e':Bv F xs u-Bv F xs v=crs (Ze (sqf F xs)) u v:=e
  rw [e']
  unfold crs
  by_cases hc:Ze (sqf F xs) u≠0∧Ze (sqf F xs) u*Ze (sqf F xs) v≤0
  ·rw [if_pos hc]
   have hub:u<b:=by
    rcases(show u<b∨u=b by grind)with q | q
    ·exact q
    ·exfalso
     have:v=u:=O4
     subst this
     have:=Hh hc.1;grind
   have g1:=hge u c1 hub
   have g2:0≤σ*Ze (sqf F xs) v:=by
    rcases(show v<b∨v=b by grind)with q | q
    ·exact hge v O4 q
    ·rw [q];exact hgb
   have hv0:Ze (sqf F xs) v=0:=by
    rcases(show Ze (sqf F xs) v=0∨Ze (sqf F xs) v≠0 by grind)with q | q
    ·exact q
    ·exfalso
     have m1:=Rat.mul_nonneg g1 g2
     have m2:=Hh hσ
     have m3:(σ*σ)*(Ze (sqf F xs) u*Ze (sqf F xs) v)≥0:=O4
     rcases(show Ze (sqf F xs) u*Ze (sqf F xs) v<0∨Ze (sqf F xs) u*Ze (sqf F xs) v=0 by grind)with w | w
     ·have:=Rat.mul_pos m2 (show 0 < -(Ze (sqf F xs) u*Ze (sqf F xs) v) by grind);grind
     ·rcases Rat.mul_eq_zero.1 w with z | z
      ·exact hc.1 z
      ·exact q z
   rcases(show v<b∨v=b by grind)with q | q
   ·exfalso
    obtain⟨δ,d1,d2⟩:=hpos v O4 q
    obtain⟨z,z1,z2,z3,z4⟩:∃z,v<z∧z≤v+δ∧z≤b∧z-v≤h/2:=by
     rcases(show δ≤h/2∨h/2≤δ by grind)with w | w
     ·rcases(show v+δ≤b∨b≤v+δ by grind)with t | t
      ·exact⟨v+δ,O4,O4,t,O4⟩
      ·exact⟨b,q,O4,O4,O4⟩
     ·rcases(show v+h/2≤b∨b≤v+h/2 by grind)with t | t
      ·exact⟨v+h/2,O4,O4,t,O4⟩
      ·exact⟨b,q,O4,O4,O4⟩
    have k1:=d2 z z1 z2 z3
    have a1:=h2 u z c1 O4 z3 O4
    have a2:=h2 v z O4 O4 z3 O4
    have r1:crs (Ze (sqf F xs)) u z=0:=by
     unfold crs
     rw [if_neg]
     rintro⟨w1,w2⟩
     have g3:0<σ*Ze (sqf F xs) u:=by
      rcases(show σ*Ze (sqf F xs) u=0∨0<σ*Ze (sqf F xs) u by grind)with t | t
      ·rcases Rat.mul_eq_zero.1 t with t | t
       ·exact absurd t hσ
       ·exact absurd t w1
      ·exact t
     have m1:=Rat.mul_pos g3 k1
     have m2:=Hh hσ
     have m3:0<(σ*σ)*(Ze (sqf F xs) u*Ze (sqf F xs) z):=O4
     have m4:=Rat.mul_nonneg (a:=σ*σ) (b:=-(Ze (sqf F xs) u*Ze (sqf F xs) z)) O4 O4
     grind
    have r2:crs (Ze (sqf F xs)) v z=0:=by unfold crs;rw [if_neg];rintro⟨w1,w2⟩;exact w1 hv0
    have r3:crs (Ze (sqf F xs)) u v=1:=by unfold crs;rw [if_pos hc]
    rw [r1]at a1;rw [r2]at a2;rw [r3]at e
    omega
   ·rw [q]at hv0
    rw [if_pos ⟨q,hv0⟩];decide
  ·rw [if_neg hc]
   split<;>decide
 have key:∀n:Nat,∀u,a≤u→u≤b→b-u≤(n:Rat)*(h/2)→Bv F xs u-Bv F xs b≤(if Ze (sqf F xs) b=0 then 1 else 0):=fun n=>by
  induction n with
  | zero=>
   intro u c1 c2 c3
   have:u=b:=by push_cast at c3;grind
   subst this
   rw [Int.sub_self]
   split<;>decide
  | succ n ih=>
   intro u c1 c2 c3
   push_cast at c3
   by_cases hy:b-u≤h/2
   ·have:=hstep u b c1 c2 O4 hy
    by_cases hz:Ze (sqf F xs) b=0
    ·rw [if_pos ⟨rfl,hz⟩]at this;rw [if_pos hz];exact this
    ·rw [if_neg (fun e=>hz e.2)]at this;rw [if_neg hz];exact this
   ·have i1:=ih (u+h/2) O4 O4 O4
    have i2:=hstep u (u+h/2) c1 O4 O4 O4
    rw [if_neg (fun e=>by have:=e.1;grind)]at i2
    generalize (if Ze (sqf F xs) b=0 then(1:Int)else 0)=t at *
    omega
 obtain⟨n,hn⟩:=Zf3 (b-a) (show 0<h/2 by grind)
 exact key n a O4 O4 hn
structure Odp (F n:Nat) (p o:List Int):Prop where
 tr:Tr p
 ne:p≠[]
 sz:Sz n p
 hn:n≤220
 hl:p.length≤11
 hF:p.length≤F+1
 eq:o=Et F p.length (Yn p)
 otr:Tr o
 one:o≠[]
 ok:Ct F o
theorem Odp.sq{F n:Nat}{p o:List Int}(h:Odp F n p o):∃(c d:Int) (B:List Int),c≠0∧d≠0∧∀x:Rat,(d:Rat)*Ze p x=(c:Rat)*(Ze o x*(Ze B x*Ze B x)):=by
 have hD:=Dp.start h.tr h.ne
 obtain⟨⟨B,hB⟩,-⟩:=Gf h.tr h.ne h.sz h.hn h.hl h.hF p.length (Yn p) hD (by rw [Pe h.tr];exact Nat.le_refl _)
 rw [←h.eq]at hB
 obtain⟨c,d,hc,hd,e⟩:=Zeu ((Kp (Zr p)).trans (Xt h.tr):Sim (Yn p) p)
 exact⟨c,d,B,hc,hd,fun x=>by rw [←hB x];exact(e x).symm⟩
theorem Odp.sqf{F n:Nat}{p o:List Int}(h:Odp F n p o):Go.Sky.sqf F o=Yn o:=by
 have hD:=Dp.start h.tr h.ne
 have hokn:=(hD.ok h.tr h.ne h.sz h.hn h.hl h.hF).2
 have hokp:Gu F p:=by unfold Gu at hokn ⊢;rwa [hD.2.2.1]at hokn
 obtain⟨-,hE⟩:=Gf h.tr h.ne h.sz h.hn h.hl h.hF p.length (Yn p) hD (by rw [Pe h.tr];exact Nat.le_refl _)
 rw [←h.eq]at hE
 rw [Fs hD.2.2.1]at hE
 exact(Zqv h.tr h.ne h.sz h.hn h.hl h.hF h.otr h.one h.ok.1.2.2.1 hokp hE).2
theorem Odp.srt{F n:Nat}{p o:List Int}(h:Odp F n p o):∃c d:Int,c≠0∧d≠0∧∀x:Rat,(c:Rat)*Ze (Go.Sky.sqf F o) x=(d:Rat)*Ze o x:=by
 rw [h.sqf]
 exact Zeu ((Kp (Zr o)).trans (Xt h.otr):Sim (Yn o) o)
theorem Odp.zero{F n:Nat}{p o:List Int}(h:Odp F n p o)(x:Rat):Ze (Go.Sky.sqf F o) x=0↔Ze o x=0:=by
 obtain⟨c,d,hc,hd,e⟩:=h.srt
 have e1:=e x
 constructor
 ·intro z;rw [z]at e1;rcases Rat.mul_eq_zero.1 (show(d:Rat)*Ze o x=0 by grind)with q | q
  ·exact absurd q (Pp hd)
  ·exact q
 ·intro z;rw [z]at e1;rcases Rat.mul_eq_zero.1 (show(c:Rat)*Ze (Go.Sky.sqf F o) x=0 by grind)with q | q
  ·exact absurd q (Pp hc)
  ·exact q
theorem Odp.nz{F n:Nat}{p o:List Int}(h:Odp F n p o){x:Rat}(hx:Ze p x≠0):Ze o x≠0:=fun z=>by
 obtain⟨c,d,B,hc,hd,e⟩:=h.sq
 have e1:=e x
 rw [z]at e1
 rcases Rat.mul_eq_zero.1 (show(d:Rat)*Ze p x=0 by grind)with q | q
 ·exact Pp hd q
 ·exact hx q
theorem Odp.opp{F n:Nat}{p o:List Int}(h:Odp F n p o){x y:Rat}(hxy:Ze p x*Ze p y<0):Ze o x*Ze o y<0∧Ze (Go.Sky.sqf F o) x*Ze (Go.Sky.sqf F o) y<0:=by
 obtain⟨c,d,B,hc,hd,e⟩:=h.sq
 have k1:(Ze o x*(Ze B x*Ze B x))*(Ze o y*(Ze B y*Ze B y))<0:=Ze9 (Pp hc) (Pp hd) (e x).symm (e y).symm hxy
 have k2:=Yc7 k1
 obtain⟨c',d',hc',hd',e'⟩:=h.srt
 exact⟨k2,Ze9 (Pp hc') (Pp hd') (e' x) (e' y) k2⟩
theorem Odp.sem{F n:Nat}{p o:List Int}(h:Odp F n p o){a b:Rat}(hab:a<b):(Gz p.length p a<0∨Bk F o a b)↔Zsl p a b:=by
 have hsame:=Ydh h.tr h.ne h.sz h.hn h.hl h.hF h.eq h.otr h.one h.ok hab
 constructor
 ·rintro(h1 | h1)
  ·obtain⟨δ,d1,d2⟩:=Cu p.length p a (Nat.le_refl _)
   have r:=Zpj p.length p a
   have hm:Gz p.length p a=-1:=O
   rcases(show a+δ≤b∨b≤a+δ by grind)with q | q
   ·exact⟨a+δ,O4,q,Zna (by rw [d2 (a+δ) O4 O4,hm])⟩
   ·exact⟨b,O4,O4,Zna (by rw [d2 b hab q,hm])⟩
  ·rcases Classical.em (Zsl p a b)with q | q
   ·exact q
   ·exfalso
    have hge:∀x,a≤x→x≤b→0≤Ze p x:=fun x u v=>by
     rcases(show 0≤Ze p x∨Ze p x<0 by grind)with w | w
     ·exact w
     ·exact absurd ⟨x,u,v,w⟩ q
    have haft:∀x,a≤x→x<b→∃δ:Rat,0<δ∧∀y,x<y→y≤x+δ→y≤b→0<Ze p y:=fun x u v=>by
     obtain⟨δ,d1,d2⟩:=Cu p.length p x (Nat.le_refl _)
     have r:=Zpj p.length p x
     have r0:=Zf4 p.length p x h.tr h.ne (Nat.le_refl _)
     refine⟨δ,d1,fun y c1 c2 c3=>?_⟩
     have s:=d2 y c1 c2
     rcases Qw (Ze p y)with⟨h5,h6⟩ | ⟨h5,h6⟩ | ⟨h5,h6⟩
     ·exact h5
     ·have:=hge y O4 c3;grind
     ·rw [h6]at s;exact absurd s.symm r0
    obtain⟨δ,d1,d2⟩:=haft a O4 hab
    obtain⟨z,z1,z2,z3⟩:∃z,a<z∧z≤a+δ∧z≤b:=by
     rcases(show a+δ≤b∨b≤a+δ by grind)with w | w
     ·exact⟨a+δ,O4,O4,w⟩
     ·exact⟨b,hab,w,O4⟩
    have hz:=d2 z z1 z2 z3
    have hσ:Ze (Go.Sky.sqf F o) z≠0:=fun e=>h.nz (x:=z) O4 ((h.zero z).1 e)
    have hf:=Yeq h.otr h.one h.ok (σ:=Ze (Go.Sky.sqf F o) z) hσ hab (fun x u v=>by
     obtain⟨ε,e1,e2⟩:=haft x u v
     refine⟨ε,e1,fun y c1 c2 c3=>?_⟩
     have hy:=e2 y c1 c2 c3
     have hyn:Ze (Go.Sky.sqf F o) y≠0:=fun e=>h.nz (x:=y) O4 ((h.zero y).1 e)
     rcases(show 0<Ze (Go.Sky.sqf F o) z*Ze (Go.Sky.sqf F o) y∨Ze (Go.Sky.sqf F o) z*Ze (Go.Sky.sqf F o) y<0∨Ze (Go.Sky.sqf F o) z*Ze (Go.Sky.sqf F o) y=0 by grind)with w | w | w
     ·exact w
     ·exfalso
      obtain⟨c,d,B,hc,hd,e⟩:=h.sq
      obtain⟨c',d',hc',hd',e'⟩:=h.srt
      have w1:Ze o z*Ze o y<0:=Ze9 (Pp hd') (Pp hc') (e' z).symm (e' y).symm w
      have p1:=Rat.mul_pos hz hy
      have q1:((d:Rat)*(d:Rat))*(Ze p z*Ze p y)=((c:Rat)*(c:Rat))*((Ze o z*Ze o y)*((Ze B z*Ze B y)*(Ze B z*Ze B y))):=by
       have a1:=e z
       have a2:=e y
       have:((d:Rat)*Ze p z)*((d:Rat)*Ze p y)=((c:Rat)*(Ze o z*(Ze B z*Ze B z)))*((c:Rat)*(Ze o y*(Ze B y*Ze B y))):=by rw [a1,a2]
       grind
      have q2:=Rat.mul_pos (Hh (Pp hd)) p1
      have q3:0≤(Ze B z*Ze B y)*(Ze B z*Ze B y):=by
       by_cases t:Ze B z*Ze B y=0
       ·rw [t];grind
       ·exact Rat.le_of_lt (Hh t)
      have q4:=Rat.mul_nonneg (Rat.le_of_lt (Hh (Pp hc))) (Rat.mul_nonneg (show 0≤-(Ze o z*Ze o y) by grind) q3)
      grind
     ·rcases Rat.mul_eq_zero.1 w with t | t
      ·exact absurd t hσ
      ·exact absurd t hyn)
    unfold Bk at h1
    by_cases hb0:Ze o b=0
    ·rw [if_pos hb0]at h1;rw [if_pos ((h.zero b).2 hb0)]at hf;omega
    ·rw [if_neg hb0]at h1;rw [if_neg (fun e=>hb0 ((h.zero b).1 e))]at hf;omega
 ·rintro⟨x,x1,x2,x3⟩
  rcases(show x=a∨x=b∨(a<x∧x<b) by grind)with q | q | ⟨q1,q2⟩
  ·subst q;exact hsame.1 (.inl x3)
  ·subst q;exact hsame.1 (.inr (.inl x3))
  ·have r:=Zpj p.length p a
   have r0:=Zf4 p.length p a h.tr h.ne (Nat.le_refl _)
   rcases(show Gz p.length p a<0∨Gz p.length p a=1 by omega)with h1 | h1
   ·exact .inl h1
   ·right
    have hv:=Zma h.tr h.ne h.sz h.hn h.hl h.hF h.eq h.otr h.one h.ok q1 h1 x3
    have m1:=Ziu h.otr h.one h.ok (Rat.le_of_lt q2)
    unfold Bk
    by_cases hb0:Ze o b=0
    ·rw [if_pos hb0]
     have hx:Ze (Go.Sky.sqf F o) x≠0:=fun e=>h.nz (x:=x) O4 ((h.zero x).1 e)
     rcases Int.lt_or_le (Bv F o b) (Bv F o x)with w | w
     ·omega
     ·exfalso
      have:=Zc3 h.otr h.one h.ok (Rat.le_of_lt q2) w hx b (Rat.le_of_lt q2) O4
      rw [(h.zero b).2 hb0]at this
      grind
    ·rw [if_neg hb0];omega
theorem Zrh(g:Rat→Rat){h:Rat}(hh:0<h):∀(n:Nat) (u v:Rat),u<v→v-u≤(n:Rat)*h→g u*g v<0→∃x y,u≤x∧x<y∧y≤v∧y-x≤h∧g x≠0∧g x*g y≤0
 | 0,u,v,a,b,_=>by push_cast at b;grind
 | n+1,u,v,a,b,c=>by
  push_cast at b
  have hu:g u≠0:=fun e=>by rw [e]at c;grind
  by_cases hd:v-u≤h
  ·exact⟨u,v,O4,a,O4,hd,hu,O4⟩
  ·rcases(show g u*g (u+h)≤0∨0<g u*g (u+h) by grind)with q | q
   ·exact⟨u,u+h,O4,O4,O4,O4,hu,q⟩
   ·have hz:g (u+h)*g v<0:=by
     have s1:=Hh hu
     rcases(show g (u+h)*g v<0∨0≤g (u+h)*g v by grind)with w | w
     ·exact w
     ·have m1:=Rat.mul_pos q (show 0 < -(g u*g v) by grind)
      have m2:=Rat.mul_nonneg (Rat.le_of_lt s1) w
      grind
    obtain⟨x,y,i1,i2,i3,i4,i5,i6⟩:=Zrh g hh n (u+h) v O4 O4 hz
    exact⟨x,y,O4,i2,i3,i4,i5,i6⟩
theorem Zl9{a b c:Rat}(h:a*b<0)(h1:a-b≤c)(h2:b-a≤c):-c≤a∧a≤c:=by
 rcases(show 0<a∨a<0∨a=0 by grind)with q | q | q
 ·have:b<0:=by
   rcases(show b<0∨0≤b by grind)with w | w
   ·exact w
   ·have:=Rat.mul_nonneg (Rat.le_of_lt q) w;grind
  grind
 ·have:0<b:=by
   rcases(show 0<b∨b≤0 by grind)with w | w
   ·exact w
   ·have:=Rat.mul_nonneg (show 0≤-a by grind) (show 0≤-b by grind);grind
  grind
 ·rw [q]at h;grind
theorem Zrs{xs o:List Int}{F:Nat}(hx:Tr xs)(h0:xs≠[])(hC:Ct F xs)(ho:Tr o)(o0:o≠[])(hE:Ed o (sqf F xs)){u v:Rat}(huv:u<v)(hu:Ze (sqf F xs) u≠0)(h:Ze o u*Ze o v<0):Bv F xs v<Bv F xs u:=by
 rcases Int.lt_or_le (Bv F xs v) (Bv F xs u)with q | q
 ·exact q
 ·exfalso
  have hk:=Zc3 hx h0 hC (Rat.le_of_lt huv) q hu
  obtain⟨k,w,k0,hw⟩:=hE
  have hkr:=Pp k0
  have hcop:∀d,Tr d→Ed d o→Ed d (tzl w)→d.length≤1:=fun d hd e1 e2=>by
   obtain⟨k1,s1,c1,r1⟩:=e1
   obtain⟨k2,s2,c2,r2⟩:=e2
   refine Zet hx h0 hC.1.2.2.1 hd ⟨k*k1,Pb w s1,Int.mul_ne_zero k0 c1,fun x=>?_⟩ ⟨k*k1*k2,Mp ((Pb (ld w) s1).map fun a=>k2*a) ((Pb s2 (ld o)).map fun a=>k1*a),Int.mul_ne_zero (Int.mul_ne_zero k0 c1) c2,fun x=>?_⟩
   ·rw [Zt];have a1:=hw x;have a2:=r1 x;push_cast;grind
   ·rw [Xf,Zm,Zm,Zt,Zt,Lr]
    have a0:=Eh (p:=(sqf F xs).map fun a=>k*a) (q:=Pb w o) (fun y=>by rw [Zm,Zt];exact hw y) x
    rw [Bb,Dl]at a0
    have a2:=r1 x
    have a3:=r2 x
    rw [Mf]at a3
    push_cast
    have b1:(k:Rat)*k1*k2*Ze (ld (sqf F xs)) x=(k1:Rat)*k2*(Ze (ld w) x*Ze o x+Ze w x*Ze (ld o) x):=by rw [←a0];grind
    rw [b1]
    have b2:(k1:Rat)*k2*(Ze (ld w) x*Ze o x+Ze w x*Ze (ld o) x)=(k2:Rat)*(Ze (ld w) x*((k1:Rat)*Ze o x))+(k1:Rat)*(((k2:Rat)*Ze w x)*Ze (ld o) x):=O4
    rw [b2,a2,a3]
    grind
  obtain⟨ε,e1,e2⟩:=Zxn ho (Pk w) o0 hcop u v
  obtain⟨L1,l1,l2⟩:=Di u v o
  obtain⟨L2,m1,m2⟩:=Di u v w
  obtain⟨h',d1,-,d3⟩:=Ij (show(0:Rat)<1 by decide) (show 0<L1+L2 by grind) (show 0<ε/2 by grind)
  obtain⟨n,hn⟩:=Zf3 (v-u) d1
  obtain⟨x,y,x1,x2,x3,x4,x5,x6⟩:=Zrh (Ze o) d1 n u v huv hn h
  have sx:=hk x x1 O4
  have sy:=hk y O4 x3
  have ox:=hw x
  have oy:=hw y
  have hy0:Ze o y≠0:=fun e=>by
   rw [e]at oy
   rcases Rat.mul_eq_zero.1 (show(k:Rat)*Ze (sqf F xs) y=0 by grind)with t | t
   ·exact hkr t
   ·rw [t]at sy;grind
  have hoo:Ze o x*Ze o y<0:=by
   rcases(show Ze o x*Ze o y<0∨Ze o x*Ze o y=0 by grind)with t | t
   ·exact t
   ·rcases Rat.mul_eq_zero.1 t with t | t
    ·exact absurd t x5
    ·exact absurd t hy0
  have sxy:0<Ze (sqf F xs) x*Ze (sqf F xs) y:=by
   have a1:=Rat.mul_pos sx sy
   have a2:=Hh hu
   rcases(show 0<Ze (sqf F xs) x*Ze (sqf F xs) y∨Ze (sqf F xs) x*Ze (sqf F xs) y≤0 by grind)with t | t
   ·exact t
   ·have:=Rat.mul_nonneg (Rat.le_of_lt a2) (show 0≤-(Ze (sqf F xs) x*Ze (sqf F xs) y) by grind);grind
  have hww:Ze w x*Ze w y<0:=by
   have a1:(k:Rat)*k*(Ze (sqf F xs) x*Ze (sqf F xs) y)=(Ze w x*Ze w y)*(Ze o x*Ze o y):=by
    have:((k:Rat)*Ze (sqf F xs) x)*((k:Rat)*Ze (sqf F xs) y)=(Ze w x*Ze o x)*(Ze w y*Ze o y):=by rw [ox,oy]
    grind
   have a2:=Rat.mul_pos (Hh hkr) sxy
   rcases(show Ze w x*Ze w y<0∨0≤Ze w x*Ze w y by grind)with t | t
   ·exact t
   ·have:=Rat.mul_nonneg t (show 0≤-(Ze o x*Ze o y) by grind);grind
  have c1:=l2 x y x1 O4 x3
  have c2:=m2 x y x1 O4 x3
  have n1:=Rat.mul_nonneg (a:=L1) (b:=h'-(y-x)) O4 O4
  have n2:=Rat.mul_nonneg (a:=L2) (b:=h'-(y-x)) O4 O4
  have n3:=Rat.mul_nonneg (a:=L1) (b:=h') O4 O4
  have n4:=Rat.mul_nonneg (a:=L2) (b:=h') O4 O4
  obtain⟨b1,b2⟩:=Zl9 (c:=ε/2) hoo O4 O4
  obtain⟨b3,b4⟩:=Zl9 (c:=ε/2) hww O4 O4
  rcases e2 x x1 O4 with t | t
  ·unfold Big at t;grind
  ·unfold Big at t;rw [Mf]at t;grind
theorem Zlz{xs:List Int}{F:Nat}(hx:Tr xs)(h0:xs≠[])(hC:Ct F xs){u v:Rat}(huv:u<v)(hu:Ze (sqf F xs) u≠0)(hv:Ze (sqf F xs) v=0):Bv F xs v<Bv F xs u:=by
 rcases Int.lt_or_le (Bv F xs v) (Bv F xs u)with q | q
 ·exact q
 ·exfalso
  have:=Zc3 hx h0 hC (Rat.le_of_lt huv) q hu v (Rat.le_of_lt huv) O4
  rw [hv]at this;grind
theorem Odp.ed{F n:Nat}{p o:List Int}(h:Odp F n p o):Ed o (Go.Sky.sqf F p):=by
 have hD:=Dp.start h.tr h.ne
 obtain⟨-,hE⟩:=Gf h.tr h.ne h.sz h.hn h.hl h.hF p.length (Yn p) hD (by rw [Pe h.tr];exact Nat.le_refl _)
 rw [←h.eq]at hE
 rwa [Fs hD.2.2.1]at hE
theorem Ybb{xs:List Int}{F:Nat}(hx:Tr xs)(h0:xs≠[])(hC:Ct F xs)(x:Rat):Ze xs x=0↔Ze (sqf F xs) x=0:=by
 constructor
 ·intro h
  have hd:(x.den:Int)≠0:=by exact_mod_cast x.den_nz
  have e:((x.num:Int):Rat)/((x.den:Int):Rat)=x:=by rw [←Rat.divInt_eq_div];exact Rat.num_divInt_den x
  have:=Ybd hx h0 hC.1.2.2.1 hd (r:=x.num) (by rw [e];exact h)
  rwa [e]at this
 ·intro h
  obtain⟨g,hg⟩:=Yg1 hx h0 hC.1.2.2.1
  rw [hg x,h];grind
theorem Yhr {F n:Nat} {p o:List Int} (h:Odp F n p o) (hC:Ct F p) {K:Nat} {e:Nat} (sep:∀u v:Rat,-(K:Rat)≤u→u≤v→v≤(K:Rat)→v-u≤1/((2^e:Nat):Rat)→Bv F p u-Bv F p v≤1)
  {s t:Rat} (h1:-(K:Rat)+1≤s) (h2:t≤(K:Rat)) (hs:0≤Ze p s) (ht:0≤Ze p t) (hn:Zsl p s t):1/((2^(e+1):Nat):Rat)<t-s:=by
 obtain⟨x,x1,x2,x3⟩:=hn
 have y1:s<x:=by rcases(show s<x∨s=x by grind)with q | q;exact q;subst q;grind
 have y2:x<t:=by rcases(show x<t∨x=t by grind)with q | q;exact q;subst q;grind
 obtain⟨f1,f2,f3,f4,f5,f6⟩:=Og (F:=F) h.tr h.ne hC.1.2.2.1
 have hx0:Ze (Go.Sky.sqf F p) x≠0:=fun z=>by have:=(Ybb h.tr h.ne hC x).2 z;grind
 rcases(show 1/((2^(e+1):Nat):Rat)<t-s∨t-s≤1/((2^(e+1):Nat):Rat) by grind)with q | q
 ·exact q
 ·exfalso
  have hp:=two_pow_pos e
  have hp1:=two_pow_pos (e+1)
  have e2:((2^(e+1):Nat):Rat)=2*((2^e:Nat):Rat):=by rw [Nat.pow_succ];push_cast;grind
  have hi:0<((2^e:Nat):Rat)⁻¹:=Rat.inv_pos.2 hp
  have h2e:1/((2^(e+1):Nat):Rat)=((2^e:Nat):Rat)⁻¹/2:=by rw [e2];grind
  have h1e:1/((2^e:Nat):Rat)=((2^e:Nat):Rat)⁻¹:=O4
  have hle:((2^e:Nat):Rat)⁻¹≤1:=by
   have g1:(1:Rat)≤((2^e:Nat):Rat):=by have:1≤2^e:=Nat.two_pow_pos e;exact_mod_cast this
   have g2:=Rat.mul_nonneg (a:=((2^e:Nat):Rat)-1) (b:=((2^e:Nat):Rat)⁻¹) O4 O4
   have g3:((2^e:Nat):Rat)*((2^e:Nat):Rat)⁻¹=1:=Rat.mul_inv_cancel _ O4
   grind
  obtain⟨u,u1,u2,u3⟩:∃u,s-((2^e:Nat):Rat)⁻¹/2≤u∧u≤s∧Bv F p x<Bv F p u:=by
   by_cases z:Ze (Go.Sky.sqf F p) s=0
   ·obtain⟨δ,d1,d2⟩:=Cu (Go.Sky.sqf F p).length (Go.Sky.sqf F p) (s-((2^e:Nat):Rat)⁻¹/2) (Nat.le_refl _)
    have a0:=Zf4 (Go.Sky.sqf F p).length (Go.Sky.sqf F p) (s-((2^e:Nat):Rat)⁻¹/2) f2 f3 (Nat.le_refl _)
    obtain⟨u,w1,w2,w3⟩:∃u,s-((2^e:Nat):Rat)⁻¹/2<u∧u≤s-((2^e:Nat):Rat)⁻¹/2+δ∧u<s:=by
     rcases(show s-((2^e:Nat):Rat)⁻¹/2+δ<s∨s≤s-((2^e:Nat):Rat)⁻¹/2+δ by grind)with w | w
     ·exact⟨_,O4,Rat.le_refl,w⟩
     ·exact⟨s-((2^e:Nat):Rat)⁻¹/4,O4,O4,O4⟩
    have hu:Ze (Go.Sky.sqf F p) u≠0:=fun c=>by have:=d2 u w1 w2;rw [c]at this;exact a0 this.symm
    have m1:=Zlz h.tr h.ne hC w3 hu z
    have m2:=Ziu h.tr h.ne hC (Rat.le_of_lt y1)
    exact⟨u,O4,O4,O⟩
   ·have hp0:0<Ze p s:=by
     have:Ze p s≠0:=fun c=>z ((Ybb h.tr h.ne hC s).1 c)
     grind
    have k:=h.opp (x:=s) (y:=x) (by have:=Rat.mul_pos hp0 (show 0 < -Ze p x by grind);grind)
    exact⟨s,O4,O4,Zrs h.tr h.ne hC h.otr h.one h.ed y1 z k.1⟩
  have u4:Bv F p t<Bv F p x:=by
   by_cases z:Ze (Go.Sky.sqf F p) t=0
   ·exact Zlz h.tr h.ne hC y2 hx0 z
   ·have hp0:0<Ze p t:=by
     have:Ze p t≠0:=fun c=>z ((Ybb h.tr h.ne hC t).1 c)
     grind
    have k:=h.opp (x:=x) (y:=t) (by have:=Rat.mul_pos hp0 (show 0 < -Ze p x by grind);grind)
    exact Zrs h.tr h.ne hC h.otr h.one h.ed y2 hx0 k.1
  have:=sep u t O4 O4 h2 O4
  omega
def Zbi(xs:List Int)(m:Nat):Prop:=xs.length=0∨(xs.length+2)*(xs.length+2)*(Xw xs+m+2*(xs.length-1)+32)≤65536
instance (xs:List Int) (m:Nat):Decidable (Zbi xs m):=by unfold Zbi;infer_instance
theorem sgf_t{xs:List Int}{m:Nat}(h:xs.length=0):Value.bool (decide (Zbi xs m))= .bool true:=congrArg Value.bool (decide_eq_true (.inl h))
theorem sgf_i{xs:List Int}{m:Nat}{n:Int}(h:xs.length≠0)(hn:n=(((xs.length+2)*(xs.length+2)*(Xw xs+m+2*(xs.length-1)+32):Nat):Int)):Value.bool (decide (Zbi xs m))= .bool (decide (n≤65536)):=congrArg Value.bool (decide_eq_decide.2 (by
 subst hn
 show(xs.length=0∨_≤65536)↔_
 constructor
 ·intro h1;rcases h1 with h1 | h1
  ·exact absurd h1 h
  ·exact Int.ofNat_le.2 h1
 ·intro h1;exact .inr (Int.ofNat_le.1 h1)))
def efit(z:R2):Bool:=decide (max (bl z.1.natAbs) (bl z.2.natAbs)≤512)
def Zhy:List Int→Int
 | []=>0
 | x :: r=>if x=0 then Zhy r else x
theorem Zrk{s:Int}(h:s≠0):∀{L:List Int} {i:Nat},i<L.length→(∀k,k<i→L.getD k 0=0)→L.getD i 0=s→Zhy L=s
 | [],i,hi,_,_=>absurd hi O5
 | x :: r,0,_,_,hs=>by have e:x=s:=hs;subst e;unfold Zhy;rw [if_neg h]
 | x :: r,i+1,hi,hz,hs=>by
  have e:x=0:=hz 0 O
  unfold Zhy;rw [if_pos e]
  exact Zrk h (L:=r) (i:=i) (by simpa using hi) (fun k hk=>hz (k+1) O) hs
theorem Zmk:∀{L:List Int},(∀k,k<L.length→L.getD k 0=0)→Zhy L=0
 | [],_=>rfl
 | x :: r,hz=>by
  have e:x=0:=hz 0 O5
  unfold Zhy;rw [if_pos e]
  exact Zmk fun k hk=>hz (k+1) (by simpa using hk)
def aft(Ls:List (List Int))(m:R2):Int:=Zhy (Ls.map (Fv m.1 m.2))
def vlu(Ls:List (List Int))(m:R2):Int:=if Ls.length=0 then 0 else Fv m.1 m.2 (Ls.getD 0 [])
def chv(Ls:List (List Int))(m:R2):Int:=chg (Ls.map (Fv m.1 m.2))
def crb(Ls:List (List Int))(a b:R2):Bool:=if Ls.length=0 then false else decide (0<chv Ls a-chv Ls b-if Fv b.1 b.2 (Ls.getD 0 [])=0 then 1 else 0)
def cmp(a b:R2):Int:=(a.1*b.2-b.1*a.2).sign
def ngb(ds cs:List (List Int))(a b:R2):Bool:=if cmp a b=0 then decide (vlu ds a<0)else(decide (aft ds a<0) || crb cs a b)
theorem Zyf(ls:List (SL×List Int))(x y:Int):aft (ls.map Prod.snd) (x,y)=Zhy (sgx ls (Fv x y)):=by unfold aft;rw [Zva rfl]
theorem Yi4(ls:List (SL×List Int))(x y:Int):chv (ls.map Prod.snd) (x,y)=chg (sgx ls (Fv x y)):=by unfold chv;rw [Zva rfl]
theorem Zgd(ls:List (SL×List Int)){i:Nat}(h:i<ls.length):(ls.map Prod.snd).getD i []=(ls.getD i Z0).2:=by
 rw [List.getD_eq_getElem?_getD,List.getD_eq_getElem?_getD,List.getElem?_map,List.getElem?_eq_getElem h];rfl
theorem Zxw(Ls:List (List Int))(m:R2):0≤chv Ls m∧chv Ls m≤(Ls.length:Int):=by
 have:=Ar (Ls.map (Fv m.1 m.2));rw [List.length_map]at this;exact this
theorem Zqd{x:Rat}(h:Gl x=0):x=0:=by
 rcases Qw x with⟨h5,h6⟩ | ⟨h5,h6⟩ | ⟨h5,h6⟩
 ·rw [h6]at h;exact absurd h O3
 ·rw [h6]at h;exact absurd h O3
 ·exact h5
theorem sgm_i{x l:Int}(hx:-1≤x∧x≤1)(hl:-1≤l∧l≤1):Pu (x*l):=by
 rcases(show x=-1∨x=0∨x=1 by omega)with h | h | h<;>subst h
 ·exact⟨O,O⟩
 ·exact⟨O,O⟩
 ·exact⟨O,O⟩
theorem Zvc{x l:Int}(hx:-1≤x∧x≤1)(hl:-1≤l∧l≤1)(h:x*l<0):x=-l:=by
 rcases(show x=-1∨x=0∨x=1 by omega)with h | h | h<;>subst h<;>omega
theorem Zvb{x l:Int}(hx:-1≤x∧x≤1)(hl:-1≤l∧l≤1)(h:¬x*l<0)(h0:x≠0):¬x=-l:=by
 rcases(show x=-1∨x=0∨x=1 by omega)with h | h | h<;>subst h<;>omega
theorem Zvd{x l:Int}(h:x=0):¬x*l<0:=by subst h;omega
theorem crb_t{cs:List (SL×List Int)}{x y x2 y2:Int}(h:cs.length≠0)(h0:Fv x2 y2 (cs.getD 0 Z0).2=0):Value.bool (crb (cs.map Prod.snd) (x,y) (x2,y2))= .bool (decide (0<chv (cs.map Prod.snd) (x,y)-chv (cs.map Prod.snd) (x2,y2)-1)):=by
 unfold crb;rw [List.length_map,if_neg h,Zgd _ O,if_pos h0]
theorem crb_f{cs:List (SL×List Int)}{x y x2 y2:Int}(h:cs.length≠0)(h0:¬Fv x2 y2 (cs.getD 0 Z0).2=0):Value.bool (crb (cs.map Prod.snd) (x,y) (x2,y2))= .bool (decide (0<chv (cs.map Prod.snd) (x,y)-chv (cs.map Prod.snd) (x2,y2))):=by
 unfold crb;rw [List.length_map,if_neg h,Zgd _ O,if_neg h0,Int.sub_zero]
theorem ngb_t{ds cs:List (List Int)}{a b:R2}(h:¬cmp a b=0)(h0:aft ds a<0):Value.bool (ngb ds cs a b)= .bool true:=by
 unfold ngb;rw [if_neg h,decide_eq_true h0];rfl
theorem ngb_f{ds cs:List (List Int)}{a b:R2}(h:¬cmp a b=0)(h0:¬aft ds a<0):Value.bool (ngb ds cs a b)= .bool (crb cs a b):=by
 unfold ngb;rw [if_neg h,decide_eq_false h0];rfl
def Zee:Nat→List Int→List (List Int)
 | 0,_=>[]
 | n+1,p=>if p.length=0 then []else p :: Zee n (Yi p)
theorem Zrw{m:R2}(hm:0<m.2):∀(n:Nat) (p:List Int),p.length≤n→aft (Zee n p) m=Gz n p (qv m)
 | 0,p,hl=>rfl
 | n+1,p,hl=>by
  unfold Zee
  by_cases h0:p.length=0
  ·rw [if_pos h0]
   have:p=[]:=List.eq_nil_of_length_eq_zero h0
   subst this
   have hz:∀n,Gz n [] (qv m)=0:=fun n=>by
    induction n with
    | zero=>rfl
    | succ n ih=>unfold Gz;rw [if_neg (by show ¬(0:Rat)≠0;simp)];exact ih
   rw [hz];rfl
  ·rw [if_neg h0]
   have ld':=Pn p
   have ih:=Zrw hm n (Yi p) O
   unfold aft at ih ⊢
   rw [List.map_cons]
   unfold Zhy Gz
   have hf:Fv m.1 m.2 p=Gl (Ze p (qv m)):=Zc6 hm p
   rw [hf]
   by_cases hz:Ze p (qv m)=0
   ·rw [if_pos (Zqe hz),if_neg (by simpa using hz)];exact ih
   ·rw [if_neg (fun e=>hz (Zqd e)),if_pos hz]
structure Cvd (xs:List Int):Prop where
 v:Vp xs
 s:Sz 185 xs
 l:xs.length≤9
theorem Zfs{xs r:List Int}(h:Cvd xs)(h0:xs≠[])(hr:Dp xs r):Sz 315 r∧r.length≤9:=by
 obtain⟨s1,s2⟩:=hr.sz h.v.tr h0 h.s (by have:=h.l;omega)
 exact⟨s1,by have:=h.l;omega⟩
theorem Zcr{xs r:List Int}(h:Cvd xs)(h0:xs≠[])(hr:Dp xs r) :
  Vp r∧r≠[]∧(∀i,bl (cf r (i+1)*((i:Int)+1)).natAbs≤65536)∧Vp (Yi r)∧¬Zmi r (Yi r)∧eok 13 (gA r (Yi r)) (gB r (Yi r))∧Ou 13 r (Yi r)=Ps 13 r∧Vp (Ps 13 r)∧
  Ds r (Ps 13 r)=0∧pdv r (Ps 13 r)∧Ms r (Ps 13 r)=sqf 13 r∧Vp (sqf 13 r)∧Sz 445 (sqf 13 r)∧(sqf 13 r).length≤9∧Dp xs (Ps 13 r)∧sqf 13 r≠[]∧((sqf 13 r).length≠1→(Ps 13 r).length<r.length)∧Gu 13 r:=by
 obtain⟨s1,s2⟩:=Zfs h h0 hr
 have hv:Vp r:=⟨s1.mono O,hr.1,O⟩
 have hok:=hr.ok h.v.tr h0 h.s O (by have:=h.l;omega) (show xs.length≤13+1 by have:=h.l;omega)
 obtain⟨⟨q1,q2,q3,q4,q5⟩,-,-⟩:=hok.1
 have hn:=hr.2.2.1
 have hs9:=(chG 13 hr.1 hr.2.1 s1 O O O).2.1
 have hl9:=(chG 13 hr.1 hr.2.1 s1 O O O).2.2.1
 have hvs:=Zir hv hr.2.1 hok.1.1
 have hg:Ps 13 r=Ou 13 r (Yi r):=by unfold Ps;rw [hn]
 have hd:=hr.next hok.2
 have hvg:Vp (Ps 13 r):=by obtain⟨t1,t2⟩:=Zfs h h0 hd;exact⟨t1.mono O,hd.1,O⟩
 have hsq:sqf 13 r=Ms r (Ps 13 r):=by unfold sqf Ps;rw [hn]
 obtain⟨f1,f2,f3,f4,f5,f6⟩:=Og (F:=13) hr.1 hr.2.1 hok.2
 have hq1:∀i,bl (cf r (i+1)*((i:Int)+1)).natAbs≤65536:=fun i=>by
  by_cases hi:i<r.length
  ·have:=q1 i hi;rwa [hn]at this
  ·rw [Yb O];simp [Lx]
 rw [hn]at q2 q3 q4 q5
 rw [←hg]at q4 q5
 refine⟨hv,hr.2.1,hq1,Zem hv (fun i _=>hq1 i),q2,q3,hg.symm,hvg,q4,q5,hsq.symm,hvs,hs9,O,hd,f3,fun hne=>?_,hok.2⟩
 refine Zj9 hr.1 hr.2.1 hok.2 ?_
 have:=Qy hr.1 hr.2.1 hok.2
 have l1:=List.length_pos_iff.2 f3
 have l2:=List.length_pos_iff.2 this.2.1
 omega
def Mt(xs:List Int):List Int:=Zny 13 xs.length [1] (Yn xs)
structure OddI (xs:List Int) (t:Nat) (rest out before:List Int):Prop where
 ex:∃f q,Dp xs q∧q.length≤f∧Zny 13 f out q=Mt xs∧Tr out∧Op xs out q∧((t%2=1∧rest=q)∨(t%2=0∧rest=Ps 13 q∧before=sqf 13 q∧(sqf 13 q).length≠1))
theorem OddI.start{xs b:List Int}(h:Cvd xs)(h0:xs≠[]):OddI xs 1 (Yn xs) [1] b:=
 ⟨xs.length,Yn xs,Dp.start h.v.tr h0,by rw [Pe h.v.tr];exact Nat.le_refl _,rfl,.inr O3,Op.start h.v.tr,.inl ⟨rfl,rfl⟩⟩
theorem OddI.dp{xs:List Int}{t:Nat}{rest out before:List Int}(h:Cvd xs)(h0:xs≠[])(hI:OddI xs t rest out before):Dp xs rest:=by
 obtain⟨f,q,h1,h2,h3,h4,h5,h6 | ⟨-,rfl,-⟩⟩:=hI.ex
 ·rw [h6.2];exact h1
 ·exact(Zcr h h0 h1).2.2.2.2.2.2.2.2.2.2.2.2.2.2.1
theorem OddI.out{xs:List Int}{t:Nat}{rest out before:List Int}(h:Cvd xs)(h0:xs≠[])(hI:OddI xs t rest out before):Vp out∧Sz 315 out∧out.length≤9:=by
 obtain⟨f,q,h1,h2,h3,h4,h5,-⟩:=hI.ex
 obtain⟨s1,s2,s3⟩:=h5.sz h.v.tr h0 h.s (by have:=h.l;omega) h4 h1.1
 have:=h.l
 exact⟨⟨s1.mono O,h4,O⟩,s1,O⟩
theorem OddI.odd_end{xs:List Int}{t:Nat}{rest out before:List Int}(h:Cvd xs)(h0:xs≠[])(hI:OddI xs t rest out before)(ht:t%2=1)(hl:(sqf 13 rest).length=1):out=Mt xs:=by
 obtain⟨f,q,h1,h2,h3,h4,h5,⟨-,rfl⟩ | ⟨h7,-⟩⟩:=hI.ex
 ·cases f with
  | zero=>exact absurd (List.length_pos_iff.2 h1.2.1) O
  | succ f=>unfold Zny at h3;rw [if_pos hl]at h3;exact h3
 ·omega
theorem OddI.odd_next{xs:List Int}{t:Nat}{rest out before:List Int}(hI:OddI xs t rest out before)(ht:t%2=1)(hl:(sqf 13 rest).length≠1):OddI xs (t+1) (Ps 13 rest) out (sqf 13 rest):=by
 obtain⟨f,q,h1,h2,h3,h4,h5,⟨-,rfl⟩ | ⟨h7,-⟩⟩:=hI.ex
 ·exact⟨f,rest,h1,h2,h3,h4,h5,.inr ⟨O,rfl,rfl,hl⟩⟩
 ·omega
theorem OddI.even{xs:List Int}{t:Nat}{rest out before:List Int}(h:Cvd xs)(h0:xs≠[])(hI:OddI xs t rest out before)(ht:t%2=0) :
  Vp before∧Ds before (sqf 13 rest)=0∧pdv before (sqf 13 rest)∧Vp (Ms before (sqf 13 rest))∧¬Zav out (Ms before (sqf 13 rest))∧
  ((sqf 13 rest).length=1→Xq out (Ms before (sqf 13 rest))=Mt xs)∧((sqf 13 rest).length≠1→OddI xs (t+1) (Ps 13 rest) (Xq out (Ms before (sqf 13 rest))) (sqf 13 rest))∧Vp (Xq out (Ms before (sqf 13 rest))):=by
 obtain⟨f,q,h1,h2,h3,h4,h5,⟨h7,-⟩ | ⟨-,rfl,rfl,hq⟩⟩:=hI.ex
 ·omega
 obtain⟨a1,a2,a3,a4,a5,a6,a7,a8,a9,a10,a11,a12,a13,a14,a15,a16,a17,a18⟩:=Zcr h h0 h1
 obtain⟨b1,b2,b3,b4,b5,b6,b7,b8,b9,b10,b11,b12,b13,b14,b15,b16,b17,b18⟩:=Zcr h h0 a15
 obtain⟨c1,c2,c3,c4⟩:=Ej h1.1 h1.2.1 a18 b18
 have hO:=h5.next h1.1 h1.2.1 h1.2.2.1 a18 b18
 have ho:=h.l
 obtain⟨s1,s2,s3⟩:=hO.sz h.v.tr h0 h.s O (Qc _ _) b15.1
 obtain⟨o1,o2,o3⟩:=h5.sz h.v.tr h0 h.s O h4 h1.1
 have hol:(Ey 13 q).length≤9:=by
  have e:=congrArg List.length c2
  rw [Po c3 b12.tr c4 b16]at e
  have:=List.length_pos_iff.2 b16
  omega
 have hos:Sz 450 (Ey 13 q):=by
  obtain⟨a,ha,e⟩:=hO
  have e2:Yn xs=Xq (Xq (Xq a (Ps 13 (Ps 13 q))) out) (Ey 13 q):=e.trans ((Qc _ _).ext (Qc _ _) fun i=>Ny (fun x=>by simp only [Zz];grind) i)
  exact(Zt0 h.v.tr h0 h.s O (Qc _ _) c3 e2).1.mono O
 have hd:Ds (sqf 13 q) (sqf 13 (Ps 13 q))=0:=by
  have m1:=Qn a13
  have m2:=Qn b13
  have l1:=List.length_pos_iff.2 b16
  unfold Ds
  rw [if_neg O]
  split
  ·rfl
  ·have:((sqf 13 q).length-(sqf 13 (Ps 13 q)).length+1)*(Xw (sqf 13 (Ps 13 q))+1)≤10*446:=Nat.mul_le_mul O O
   rw [if_neg O]
 have hvo:Vp (Ey 13 q):=⟨hos.mono O,c3,O⟩
 have hm:¬Zav out (Ey 13 q):=fun hF=>by
  have m1:=Qn o1
  have m2:=Qn hos
  rcases hF.2.2 with w | w<;>omega
 refine⟨a12,hd,c1,hvo,hm,fun hl=>?_,fun hl=>?_,⟨s1.mono O,Qc _ _,Nat.le_trans s2 O⟩⟩
 ·cases f with
  | zero=>exact absurd (List.length_pos_iff.2 h1.2.1) O
  | succ f=>unfold Zny at h3;rw [if_neg hq,if_pos hl]at h3;exact h3
 ·cases f with
  | zero=>exact absurd (List.length_pos_iff.2 h1.2.1) O
  | succ f=>
   unfold Zny at h3;rw [if_neg hq,if_neg hl]at h3
   have l1:=a17 hq
   have l2:=b17 hl
   exact⟨f,Ps 13 (Ps 13 q),b15,O,h3,Qc _ _,hO,.inl ⟨O,rfl⟩⟩
end Go.Sky

