/- rules, arithmetic and contracts: part 15
   Proved without conditions of its own: each theorem bears its own. -/
import Derived.Test.YtcmiiammekgooaaGreatSl13
import Derived.Test.YtcmiiammekgooaaGreatSl02
import Derived.Test.YtcmiiammekgooaaGreatSl11
import Derived.Test.YtcmiiammekgooaaGreatSl09
import Derived.Test.YtcmiiammekgooaaGreatSl12
import Derived.Scope
set_option linter.all false
namespace Go.Sky
theorem Ed.const{g a:List Int}(h:Ed g a)(hg:Tr g)(ha:Tr a)(h0:a≠[])(hl:g.length=a.length):∃k c:Int,k≠0∧c≠0∧∀x:Rat,(k:Rat)*rev a x=(c:Rat)*rev g x:=by
 obtain⟨k,s,hk,h⟩:=h
 obtain⟨a1,a2,a3⟩:=Ztt hk hg ha h0 h
 have hl1:=List.length_pos_iff.2 a2
 match hs:tzl s,hl1,a3 with
 | [c],_,_=>
  have hc:c≠0:=by have:=(Oy s).mem a2;rw [hs]at this;exact this
  refine⟨k,c,hk,hc,fun x=>?_⟩
  rw [h x,←Lc s,hs,Ot]
 | c :: d :: r,_,h9=>simp at h9;omega
theorem Zf4(p:List Int)(c:Int)(x:Rat):rev (Xj p c) x=(c:Rat)*rev p x:=by
 rw [←Yd];exact Mr x _ _ fun i=>by rw [Xn,Pg,Int.mul_comm]
theorem Zjo{p:List Int}{c:Int}(hp:Tr p)(h0:p≠[])(hc:c≠0):Xj p c≠[]:=fun e=>by
 have h1:=Xn p c (p.length-1)
 rw [e,Zbh]at h1
 exact Int.mul_ne_zero (hp.mem h0) hc h1.symm
theorem Ed.dv{g a:List Int}(h:Ed g a):Dv g a:=by
 obtain⟨k,s,hk,h⟩:=h
 refine⟨k,s,hk,fun t=>?_⟩
 have:=Mh (p:=a.map fun c=>k*c) (q:=Mb s g) (fun x=>by rw [Yd,Yz];exact h x) t
 rw [Pg,Hc]at this
 exact this
theorem ed_cop{t u w s:List Int}{k:Int}(hk:k≠0)(ht:Tr t)(hw:Tr w)(t0:t≠[])(hc:∀d,Tr d→Ed d t→Ed d w→d.length≤1)(h:∀x:Rat,(k:Rat)*(rev u x*rev w x)=rev s x*rev t x):Ed t u:=by
 obtain⟨g,A,B,hg,g1,g2,hb⟩:=Zkp w.length t w ht hw (Nat.le_refl _)
 have hl:=hc g hg g1 g2
 have hgn:=(g1.len hg ht t0).1
 match hgg:g,hl,hgn with
 | [c],_,_=>
  have hc0:c≠0:=by have:=hg.mem (by simp);exact this
  refine⟨k*c,Gf ((Mb A u).map fun a=>k*a) (Mb B s),Int.mul_ne_zero hk hc0,fun x=>?_⟩
  rw [Qd,Yd,Yz,Yz]
  have h1:=hb x
  rw [Ot]at h1
  have h2:=h x
  push_cast
  rw [show(k:Rat)*c*rev u x=k*(rev u x*(c:Rat)) by grind,h1]
  have h3:(k:Rat)*(rev u x*(rev A x*rev t x+rev B x*rev w x))=k*rev A x*rev u x*rev t x+rev B x*(k*(rev u x*rev w x)):=by grind
  rw [h3,h2];grind
 | c :: d :: r,h9,_=>simp at h9
def gcf(F:Nat)(p:List Int):List Int:=Ku F (nrm p) (Pf (nrm p))
def Za8(F:Nat)(p:List Int):Prop:=eok F (gA (nrm p) (Pf (nrm p))) (gB (nrm p) (Pf (nrm p)))
theorem Pp{F:Nat}{p:List Int}(hp:Tr p)(h0:p≠[])(hok:Za8 F p):Tr (gcf F p)∧gcf F p≠[]∧nrm (gcf F p)=gcf F p∧nrm p=Mb (sqf F p) (gcf F p)∧(sqf F p).length+(gcf F p).length=p.length+1:=by
 obtain⟨f1,f2,f3,f4,f5,f6⟩:=Nh (F:=F) hp h0 hok
 have ht:Tr (nrm p):=Nk (Xi hp)
 have hd:Tr (Pf (nrm p)):=Nv ht
 have hg:=Zbt (F:=F) ht hd
 have hl:=Oe f2 hg f3 f5
 rw [←f4,Pt hp]at hl
 have l1:=List.length_pos_iff.2 f3
 have l2:=List.length_pos_iff.2 f5
 refine⟨hg,f5,Zsg hg (Zgb ht hd f5) (Ej (Zl7 F (Zi6 ht hd) (Zi5 ht hd)) (fun e=>f5 (by unfold Ku;rw [e];rfl))),f4,?_⟩
 unfold gcf;omega
theorem rev_div{a b h:List Int}(hh:Tr h)(h0:h≠[]){k m:Int}(e:∀x:Rat,(k:Rat)*(rev a x*rev h x)=(m:Rat)*(rev b x*rev h x))(x:Rat):(k:Rat)*rev a x=(m:Rat)*rev b x:=by
 have hz:=Hk (v:=h) (f:=Gf (a.map fun c=>k*c) (b.map fun c=>(-m)*c)) (by rw [Zae hh];exact h0) (fun x=>by
  rw [Qd,Yd,Yd];have:=e x;push_cast;grind) x
 rw [Qd,Yd,Yd]at hz
 push_cast at hz;grind
theorem Zsa{F:Nat}{p:List Int}(hp:Tr p)(h0:p≠[])(hok:Za8 F p)(hok2:Za8 F (gcf F p)):Ed (sqf F (gcf F p)) (sqf F p):=by
 obtain⟨a1,a2,a3,a4,a5⟩:=Pp hp h0 hok
 obtain⟨b1,b2,b3,b4,b5⟩:=Pp a1 a2 hok2
 obtain⟨-,u2,u3,-,-,-⟩:=Nh (F:=F) hp h0 hok
 obtain⟨-,t2,t3,-,-,-⟩:=Nh (F:=F) a1 a2 hok2
 have ht:Tr (nrm p):=Nk (Xi hp)
 have e1:Ed (gcf F p) (Pf (nrm p)):=(Zb4 ht (Nv ht) hok).2.ed
 have e2:Ed (gcf F (gcf F p)) (Pf (gcf F p)):=by
  have:=(Zb4 (F:=F) (p:=nrm (gcf F p)) (q:=Pf (nrm (gcf F p))) (by rw [a3];exact a1) (Nv (by rw [a3];exact a1)) hok2).2.ed
  have h9:gcf F (gcf F p)=Ku F (nrm (gcf F p)) (Pf (nrm (gcf F p))):=rfl
  rw [←h9,a3]at this
  exact this
 have hgr:∀d,Tr d→Ed d (gcf F p)→Ed d (Pf (gcf F p))→Ed d (gcf F (gcf F p)):=fun d hd h1 h2=>by
  unfold gcf at *
  have:=Zf9 (F:=F) (d:=d) (p:=nrm (Ku F (nrm p) (Pf (nrm p)))) (q:=Pf (nrm (Ku F (nrm p) (Pf (nrm p))))) (by rw [a3];exact a1) (Nv (by rw [a3];exact a1)) (by rw [a3];exact h1) (by rw [a3];exact h2)
  exact this
 rw [a3]at b4
 generalize hg:gcf F p=g at *
 generalize hh:gcf F g=h at *
 generalize hu:sqf F p=u at *
 generalize htt:sqf F g=t at *
 obtain⟨k,s,hk,hks⟩:=e1
 obtain⟨m,w,hm,hmw⟩:=e2
 have hP:∀x:Rat,rev (nrm p) x=rev (Mn u g) x:=fun x=>by rw [a4,Yz,Yt]
 have hG:∀x:Rat,rev g x=rev (Mn t h) x:=fun x=>by
  have:rev g x=rev (Mb t h) x:=by rw [←b4]
  rw [this,Yz,Yt]
 have hd1:∀x:Rat,rev (Pf (nrm p)) x=rev (ld u) x*rev g x+rev u x*rev (ld g) x:=fun x=>by rw [Kd,Gx hP,Da]
 have hd2:∀x:Rat,(m:Rat)*rev (ld g) x=rev w x*rev h x:=fun x=>by rw [←Kd];exact hmw x
 have key:∀x:Rat,(k:Rat)*(rev (Mb u w) x*rev h x)=(m:Rat)*(rev (Mb (Gf s ((ld u).map fun c=>(-k)*c)) t) x*rev h x):=fun x=>by
  rw [Yz,Yz,Qd,Yd]
  have h1:=hks x;have h2:=hd1 x;have h3:=hd2 x;have h4:=hG x
  rw [Yt]at h4
  rw [h2]at h1
  have:(k:Rat)*(rev u x*rev w x*rev h x)=rev u x*k*(rev w x*rev h x):=by grind
  rw [this,←h3]
  push_cast
  have:rev u x*(k:Rat)*(m*rev (ld g) x)=m*(k*(rev (ld u) x*rev g x+rev u x*rev (ld g) x)-k*rev (ld u) x*rev g x):=by grind
  rw [this,h1,h4];grind
 have key2:=rev_div b1 b2 key
 refine ed_cop (s:=(Mb (Gf s ((ld u).map fun c=>(-k)*c)) [m])) hk t2 (w:=tzl w) (Oy w) t3 (fun d hd h1 h2=>?_) (fun x=>?_)
 ·have h2':Ed d w:=h2.congr fun x=>Lc w x
  have hdh:Ed (Mb d h) h:=hgr _ (Pi _ _) (by
   obtain⟨k1,s1,hk1,e1⟩:=h1
   exact⟨k1,s1,hk1,fun x=>by rw [hG x,Yt,Yz];have:=e1 x;grind⟩) (by
   obtain⟨k1,s1,hk1,e1⟩:=h2'
   exact⟨k1*m,s1,Int.mul_ne_zero hk1 hm,fun x=>by rw [Kd,Yz];have:=e1 x;have:=hd2 x;push_cast;grind⟩)
  have d0:=(h1.len hd t2 t3).1
  have hl:=Oe hd b1 d0 b2
  have:=(hdh.len (Pi _ _) b1 b2).2
  have l2:=List.length_pos_iff.2 b2
  omega
 ·rw [Lc,Yz,Ot]
  have:=key2 x
  rw [Yz,Yz]at this
  rw [this];grind
theorem Zrw{u t:List Int}(hu:Tr u)(u0:u≠[])(ht:Tr t)(t0:t≠[])(hn:nrm t=t)(h:Ed t u):pdv u t∧u=Mb (Kn u t) t∧Tr (Kn u t)∧Kn u t≠[]:=by
 have hc:Qc t=1:=by have:=Cf ht t0;rwa [hn]at this
 obtain⟨k,s,hk,h⟩:=h.dv
 obtain⟨q,hq⟩:=gauss hc _ k s rfl hk h
 have hqe:u=Mb (tzl q) t:=hu.ext (Pi _ _) fun i=>by rw [Hc,hq,ps_tzl]
 obtain⟨p1,p2⟩:=Zlm (Oy q) ht t0
 rw [←hqe]at p1 p2
 rw [p2]
 exact⟨p1,hqe,Oy q,fun e=>u0 (by rw [hqe,e,Iw])⟩
theorem Zj4{F:Nat}{p:List Int}(hp:Tr p)(h0:p≠[])(hok:Za8 F p)(h2:2≤p.length):(gcf F p).length<p.length:=by
 obtain⟨a1,a2,-⟩:=Pp hp h0 hok
 have ht:Tr (nrm p):=Nk (Xi hp)
 have e1:Ed (gcf F p) (Pf (nrm p)):=(Zb4 ht (Nv ht) hok).2.ed
 have hl:=Oj (nrm p)
 have hn:=Pt hp
 have:=(e1.len a1 (Nv ht) (fun e=>by rw [e]at hl;simp at hl;omega)).2
 omega
theorem nrm1{p:List Int}(hp:Tr p)(hn:nrm p=p)(hl:p.length=1):p=[1]:=by
 have h0:p≠[]:=fun e=>by rw [e]at hl;simp at hl
 have hc:=Cf hp h0
 have hd:0<cf (nrm p) ((nrm p).length-1):=Ej (Xi hp) (fun e=>h0 (List.eq_nil_of_length_eq_zero (by rw [←Yi,e];rfl)))
 rw [hn]at hc hd
 match p,hl with
 | [c],_=>
  have hd':0<c:=hd
  have h1:c∣Qc [c]:=Hm fun i=>by
   match i with
   | 0=>exact Int.dvd_refl c
   | i+1=>rw [Qf (by simp)];exact Int.dvd_zero c
  rw [hc]at h1
  have:=Int.le_of_dvd (by decide) h1
  rw [show c=1 by omega]
def Dp(p q:List Int):Prop:=Tr q∧q≠[]∧nrm q=q∧∃a,Tr a∧nrm p=Mb a q
theorem Dp.start{p:List Int}(hp:Tr p)(h0:p≠[]):Dp p (nrm p):=
 ⟨Nk (Xi hp),Zgd hp h0,Zsg (Nk (Xi hp)) (Cf hp h0) (Ej (Xi hp) (fun e=>h0 (List.eq_nil_of_length_eq_zero (by rw [←Yi,e];rfl)))),[1],.inr (show cf [1] 0≠0 by decide),by
  refine(Nk (Xi hp)).ext (Pi _ _) fun i=>?_
  rw [Hc,Znu];rfl⟩
theorem Dp.sz{p q:List Int}{n:Nat}(hp:Tr p)(h0:p≠[])(hs:Sz n p)(hl:p.length≤13)(h:Dp p q):Sz (n+130) q∧q.length≤p.length:=by
 obtain⟨h1,h2,h3,a,ha,e⟩:=h
 have hK:kkR 24 13*(24+1)^13<2^130:=by decide +kernel
 have hln:=Pt hp
 have hn0:=Zgd hp h0
 have ht:Tr (nrm p):=Nk (Xi hp)
 have a0:a≠[]:=fun e2=>hn0 (by rw [e,e2,Iw])
 refine⟨Iy (L:=13) (R:=24) h1 ha (Zm1 hs) hn0 ht (by omega) (by decide) hK (by rw [Ee];exact e),?_⟩
 have hlq:=Oe ha h1 a0 h2
 rw [←e,hln]at hlq
 have:=List.length_pos_iff.2 a0
 omega
theorem Dp.ok{p q:List Int}{n F:Nat}(hp:Tr p)(h0:p≠[])(hs:Sz n p)(hn:n≤130)(hl:p.length≤13)(hF:p.length≤F+1)(h:Dp p q):Zfh F q∧Za8 F q:=by
 obtain⟨s1,s2⟩:=h.sz hp h0 hs hl
 have:=(chF F h.1 h.2.1 s1 (by omega) (by omega) (by omega)).1
 exact⟨this,this.1.2.2.1⟩
theorem Dp.next{p q:List Int}{F:Nat}(h:Dp p q)(hok:Za8 F q):Dp p (gcf F q):=by
 obtain⟨h1,h2,h3,a,ha,e⟩:=h
 obtain⟨a1,a2,a3,a4,a5⟩:=Pp h1 h2 hok
 refine⟨a1,a2,a3,Mb a (sqf F q),Pi _ _,?_⟩
 rw [h3]at a4
 refine e.trans ((congrArg (Mb a) a4).trans ?_)
 refine(Pi _ _).ext (Pi _ _) fun i=>Mh (fun x=>?_) i
 rw [Yz,Yz,Yz,Yz];grind
def Zcz(F:Nat):Nat→List Int→List Int
 | 0,p=>sqf F p
 | f+1,p=>if(sqf F p).length=1 then sqf F p else Mb (Kn (sqf F p) (sqf F (gcf F p))) (Zcz F f (gcf F (gcf F p)))
def Zw3(F:Nat):Nat→List Int→List Int→List Int
 | 0,out,_=>out
 | f+1,out,q=>if(sqf F q).length=1 then out else if(sqf F (gcf F q)).length=1 then Mb out (Kn (sqf F q) (sqf F (gcf F q)))else Zw3 F f (Mb out (Kn (sqf F q) (sqf F (gcf F q)))) (gcf F (gcf F q))
theorem Zd9{F:Nat}{q:List Int}(hq:Tr q)(h0:q≠[])(hok:Za8 F q)(h:(sqf F q).length=1):sqf F q=[1]∧q.length=1∧(gcf F q).length=1:=by
 obtain⟨f1,f2,f3,f4,f5,f6⟩:=Nh (F:=F) hq h0 hok
 obtain⟨a1,a2,a3,a4,a5⟩:=Pp hq h0 hok
 have l0:=List.length_pos_iff.2 h0
 have hl:q.length=1:=by
  rcases Nat.lt_or_ge q.length 2 with h2 | h2
  ·omega
  ·have:=Zj4 hq h0 hok h2;omega
 exact⟨nrm1 f2 f6 h,hl,by omega⟩
theorem Zlk{p:List Int}(hp:Tr p):Mb p [1]=p:=by
 refine(Pi _ _).ext hp fun i=>Mh (fun x=>?_) i
 rw [Yz,Ot];push_cast;grind
theorem Zwu{F:Nat}{q:List Int}(hq:Tr q)(h0:q≠[])(hok:Za8 F q)(h:q.length=1):∀f,Zcz F f q=[1]:=fun f=>by
 obtain⟨f1,f2,f3,f4,f5,f6⟩:=Nh (F:=F) hq h0 hok
 obtain⟨a1,a2,a3,a4,a5⟩:=Pp hq h0 hok
 have l1:=List.length_pos_iff.2 f3
 have l2:=List.length_pos_iff.2 a2
 have hs:(sqf F q).length=1:=by omega
 have:=(Zd9 hq h0 hok hs).1
 cases f with
 | zero=>exact this
 | succ f=>unfold Zcz;rw [if_pos hs];exact this
theorem Zhx{F:Nat}{p:List Int}{f:Nat}{q:List Int}(hq:Tr q)(h0:q≠[])(hok:Za8 F q):Tr (Zcz F f q):=by
 obtain⟨f1,f2,f3,f4,f5,f6⟩:=Nh (F:=F) hq h0 hok
 cases f with
 | zero=>exact f2
 | succ f=>unfold Zcz;split;exact f2;exact Pi _ _
theorem Zse{F n:Nat}{p:List Int}(hp:Tr p)(h0:p≠[])(hs:Sz n p)(hn:n≤130)(hl:p.length≤13)(hF:p.length≤F+1):∀(f:Nat) (out q:List Int),Tr out→Dp p q→q.length≤f→Zw3 F f out q=Mb out (Zcz F f q):=by
 intro f
 induction f with
 | zero=>intro out q _ hq hlq;have:=List.length_pos_iff.2 hq.2.1;omega
 | succ f ih=>
  intro out q ho hq hlq
  have hok:=(hq.ok hp h0 hs hn hl hF).2
  have hg:=hq.next hok
  have hok2:=(hg.ok hp h0 hs hn hl hF).2
  have hg2:=hg.next hok2
  have hok3:=(hg2.ok hp h0 hs hn hl hF).2
  unfold Zw3 Zcz
  by_cases c1:(sqf F q).length=1
  ·rw [if_pos c1,if_pos c1,(Zd9 hq.1 hq.2.1 hok c1).1,Zlk ho]
  ·rw [if_neg c1,if_neg c1]
   have lq:2≤q.length:=by
    obtain⟨f1,f2,f3,f4,f5,f6⟩:=Nh (F:=F) hq.1 hq.2.1 hok
    obtain⟨a1,a2,a3,a4,a5⟩:=Pp hq.1 hq.2.1 hok
    have l1:=List.length_pos_iff.2 f3
    have l2:=List.length_pos_iff.2 a2
    omega
   have lt1:=Zj4 hq.1 hq.2.1 hok lq
   obtain⟨-,-,-,-,b5⟩:=Pp hg.1 hg.2.1 hok2
   obtain⟨-,b2,b3,-,-,-⟩:=Nh (F:=F) hg.1 hg.2.1 hok2
   have lb:=List.length_pos_iff.2 b3
   by_cases c2:(sqf F (gcf F q)).length=1
   ·obtain⟨s1,s2,s3⟩:=Zd9 hg.1 hg.2.1 hok2 c2
    rw [if_pos c2,Zwu hg2.1 hg2.2.1 hok3 s3]
    refine(Pi _ _).ext (Pi _ _) fun i=>Mh (fun x=>?_) i
    rw [Yz,Yz,Yz,Ot];push_cast;grind
   ·rw [if_neg c2,ih _ _ (Pi _ _) hg2 (by omega)]
    refine(Pi _ _).ext (Pi _ _) fun i=>Mh (fun x=>?_) i
    rw [Yz,Yz,Yz,Yz];grind
theorem Zpt{q:List Int}{e:Int}(he:e=1∨e=-1)(h:Qc q=1):Qc (Xj q e)=1:=by
 have h1:Qc (Xj q e)∣Qc q:=Hm fun i=>by
  have:=Mt (Xj q e) i
  rw [Xn]at this
  rcases he with rfl | rfl
  ·rwa [Int.mul_one]at this
  ·rw [Int.mul_neg_one]at this;exact(Int.dvd_neg.1 this)
 rw [h]at h1
 have h2:=Ns (Xj q e)
 have h3:=Int.le_of_dvd (by decide) h1
 rcases(show Qc (Xj q e)=0∨Qc (Xj q e)=1 by omega)with h4 | h4
 ·rw [h4]at h1;exact absurd (Int.zero_dvd.1 h1) (by decide)
 ·exact h4
theorem Zwq{q:List Int}(h:Qc q=1):Yx q=q:=by
 unfold Yx;rw [h];simp
theorem Zm8{F:Nat}{q:List Int}{e:Int}(hq:Tr q)(q0:q≠[])(hn:nrm q=q)(hok:Za8 F q)(he:e=1∨e=-1) :
  Tr (Xj q e)∧Xj q e≠[]∧nrm (Xj q e)=q∧Yx (Xj q e)=Xj q e∧pdv (Xj q e) (sqf F q)∧Kn (Xj q e) (sqf F q)=Xj (gcf F q) e:=by
 have e0:e≠0:=by rcases he with rfl | rfl<;>decide
 obtain⟨f1,f2,f3,f4,f5,f6⟩:=Nh (F:=F) hq q0 hok
 obtain⟨a1,a2,a3,a4,a5⟩:=Pp hq q0 hok
 have hc:Qc q=1:=by have:=Cf hq q0;rwa [hn]at this
 rw [hn]at a4
 have hw:Xj q e=Mb (Xj (gcf F q) e) (sqf F q):=by
  refine(Qw _ _).ext (Pi _ _) fun i=>Mh (fun x=>?_) i
  have:rev q x=rev (Mb (sqf F q) (gcf F q)) x:=by rw [←a4]
  rw [Zf4,Yz,Zf4,this,Yz];grind
 obtain⟨p1,p2⟩:=Zlm (Qw (gcf F q) e) f2 f3
 rw [←hw]at p1 p2
 exact⟨Qw _ _,Zjo hq q0 e0,by rw [Zlr (Qw _ _) hq (Zbx q e0).symm,hn],Zwq (Zpt he hc),p1,p2⟩
theorem Zwp{p:List Int}(hp:Tr p)(h0:p≠[]):∃e:Int,(e=1∨e=-1)∧Yx p=Xj (nrm p) e:=by
 by_cases h:cf (Yx p) ((Yx p).length-1)<0
 ·refine⟨-1,.inr rfl,?_⟩
  rw [Zh3 (fun e=>h0 (List.eq_nil_of_length_eq_zero (by rw [←Yi,e]))) h]
  refine(Xi hp).ext (Qw _ _) fun i=>?_
  rw [Xn,Xn];omega
 ·refine⟨1,.inl rfl,?_⟩
  rw [Zh2 h]
  refine(Xi hp).ext (Qw _ _) fun i=>?_
  rw [Xn];omega
def Mq(F:Nat)(p:List Int):List Int:=Kn (Xj (Yx p) 1) (sqf F p)
def Af(F:Nat)(p:List Int):List Int:=Kn (Yx (Mq F p)) (sqf F (Mq F p))
def Zjh(F:Nat):Nat→List Int→List Int
 | 0,p=>sqf F p
 | f+1,p=>if(sqf F p).length=1 then sqf F p else Mb (Kn (sqf F p) (sqf F (Mq F p))) (Zjh F f (Af F p))
theorem Fg{F:Nat}{p q:List Int}(h:nrm p=nrm q):sqf F p=sqf F q:=by unfold sqf;rw [h]
theorem Zib{F:Nat}{p q:List Int}(h:nrm p=nrm q):gcf F p=gcf F q:=by unfold gcf;rw [h]
theorem Zhy{F:Nat}{p q:List Int}(h:nrm p=nrm q):∀f,Zcz F f p=Zcz F f q
 | 0=>Fg h
 | f+1=>by unfold Zcz;rw [Fg h,Zib h]
theorem Zf3{F:Nat}{p:List Int}(hp:Tr p)(h0:p≠[])(hok:Za8 F p)(hok2:Za8 F (gcf F p)) :
  (∃e:Int,(e=1∨e=-1)∧Xj (Yx p) 1=Xj (nrm p) e∧pdv (Xj (nrm p) e) (sqf F p)∧Mq F p=Xj (gcf F p) e∧Yx (Mq F p)=Mq F p∧pdv (Mq F p) (sqf F (gcf F p))∧Af F p=Xj (gcf F (gcf F p)) e)∧
  nrm (Mq F p)=gcf F p∧nrm (Af F p)=gcf F (gcf F p)∧Tr (Mq F p)∧Mq F p≠[]∧Tr (Af F p)∧Af F p≠[]:=by
 obtain⟨b1,b2,b3,-⟩:=Dp.start hp h0
 have hok':Za8 F (nrm p):=by unfold Za8;rw [b3];exact hok
 have hgn:gcf F (nrm p)=gcf F p:=Zib b3
 have hsn:sqf F (nrm p)=sqf F p:=Fg b3
 obtain⟨e,he,hpe⟩:=Zwp hp h0
 have hp1:Xj (Yx p) 1=Xj (nrm p) e:=by
  rw [hpe];refine(Qw _ _).ext (Qw _ _) fun i=>?_
  rw [Xn,Int.mul_one]
 obtain⟨-,-,-,-,c5,c6⟩:=Zm8 b1 b2 b3 hok' he
 rw [hgn,hsn]at c6
 rw [hsn]at c5
 have hl:Mq F p=Xj (gcf F p) e:=by unfold Mq;rw [hp1,c6]
 obtain⟨a1,a2,a3,-,-⟩:=Pp hp h0 hok
 obtain⟨d1,d2,d3,d4,d5,d6⟩:=Zm8 a1 a2 a3 hok2 he
 rw [←hl]at d1 d2 d3 d4 d5 d6
 have hsl:sqf F (Mq F p)=sqf F (gcf F p):=Fg (by rw [d3,a3])
 have hr:Af F p=Xj (gcf F (gcf F p)) e:=by unfold Af;rw [d4,hsl,d6]
 obtain⟨g1,g2,g3,-,-⟩:=Pp a1 a2 hok2
 have e0:e≠0:=by rcases he with rfl | rfl<;>decide
 refine⟨⟨e,he,hp1,c5,hl,d4,d5,hr⟩,d3,?_,d1,d2,?_,?_⟩
 ·rw [hr,Zlr (Qw _ _) g1 (Zbx _ e0).symm,g3]
 ·rw [hr];exact Qw _ _
 ·rw [hr];exact Zjo g1 g2 e0
theorem Zrk{F n:Nat}{p:List Int}(hp:Tr p)(h0:p≠[])(hs:Sz n p)(hn:n≤130)(hl:p.length≤13)(hF:p.length≤F+1):∀(f:Nat) (q:List Int),Tr q→q≠[]→Dp p (nrm q)→Zjh F f q=Zcz F f q:=by
 intro f
 induction f with
 | zero=>intro q _ _ _;rfl
 | succ f ih=>
  intro q hq q0 hD
  have hok:=(hD.ok hp h0 hs hn hl hF).2
  have hok':Za8 F q:=by unfold Za8 at hok ⊢;rwa [hD.2.2.1]at hok
  have hg:=hD.next hok
  rw [Zib hD.2.2.1]at hg
  have hok2:=(hg.ok hp h0 hs hn hl hF).2
  have hg2:=hg.next hok2
  obtain⟨-,r1,r2,r3,r4,r5,r6⟩:=Zf3 hq q0 hok' hok2
  unfold Zjh Zcz
  have a3:=hg.2.2.1
  rw [Fg (show nrm (Mq F q)=nrm (gcf F q) by rw [r1,a3]),ih _ r5 r6 (by rw [r2];exact hg2),Zhy (show nrm (Af F q)=nrm (gcf F (gcf F q)) by rw [r2,hg2.2.2.1])]
def Bp(F:Nat)(q:List Int):List Int:=Kn (sqf F q) (sqf F (gcf F q))
theorem Gh{F:Nat}{q:List Int}(hq:Tr q)(q0:q≠[])(hok:Za8 F q)(hok2:Za8 F (gcf F q)):pdv (sqf F q) (sqf F (gcf F q))∧sqf F q=Mb (Bp F q) (sqf F (gcf F q))∧Tr (Bp F q)∧Bp F q≠[]:=by
 obtain⟨f1,f2,f3,f4,f5,f6⟩:=Nh (F:=F) hq q0 hok
 obtain⟨a1,a2,a3,a4,a5⟩:=Pp hq q0 hok
 obtain⟨-,t2,t3,-,-,t6⟩:=Nh (F:=F) a1 a2 hok2
 exact Zrw f2 f3 t2 t3 t6 (Zsa hq q0 hok hok2)
theorem Zth{p a b:List Int}{n:Nat}(hp:Tr p)(h0:p≠[])(hs:Sz n p)(hl:p.length≤13)(ha:Tr a)(hb:Tr b)(e:nrm p=Mb a b):Sz (n+130) b∧b.length≤p.length∧b≠[]:=by
 have hK:kkR 24 13*(24+1)^13<2^130:=by decide +kernel
 have hln:=Pt hp
 have hn0:=Zgd hp h0
 have ht:Tr (nrm p):=Nk (Xi hp)
 have a0:a≠[]:=fun e2=>hn0 (by rw [e,e2,Iw])
 have b0:b≠[]:=fun e2=>hn0 (by rw [e,e2,Zb3])
 refine⟨Iy (L:=13) (R:=24) hb ha (Zm1 hs) hn0 ht (by omega) (by decide) hK (by rw [Ee];exact e),?_,b0⟩
 have hlq:=Oe ha hb a0 b0
 rw [←e,hln]at hlq
 have:=List.length_pos_iff.2 a0
 omega
def Op(p out q:List Int):Prop:=∃a,Tr a∧nrm p=Mb a (Mb out q)
theorem Op.start{p:List Int}(hp:Tr p):Op p [1] (nrm p):=⟨[1],.inr (show cf [1] 0≠0 by decide),by
 refine(Nk (Xi hp)).ext (Pi _ _) fun i=>Mh (fun x=>?_) i
 rw [Yz,Yz,Ot];push_cast;show rev (nrm p) x=_;grind⟩
theorem Op.next{p out q:List Int}{F:Nat}(hq:Tr q)(q0:q≠[])(hn:nrm q=q)(hok:Za8 F q)(hok2:Za8 F (gcf F q))(h:Op p out q):Op p (Mb out (Bp F q)) (gcf F (gcf F q)):=by
 obtain⟨a,ha,e⟩:=h
 obtain⟨-,o2,o3,o4⟩:=Gh hq q0 hok hok2
 obtain⟨a1,a2,a3,a4,a5⟩:=Pp hq q0 hok
 obtain⟨-,-,-,b4,-⟩:=Pp a1 a2 hok2
 rw [hn]at a4
 rw [a3]at b4
 refine⟨Mb a (Mb (sqf F (gcf F q)) (sqf F (gcf F q))),Pi _ _,e.trans ?_⟩
 refine(Pi _ _).ext (Pi _ _) fun i=>Mh (fun x=>?_) i
 have e1:rev q x=rev (sqf F q) x*rev (gcf F q) x:=by rw [←Yz,←a4]
 have e2:rev (sqf F q) x=rev (Bp F q) x*rev (sqf F (gcf F q)) x:=by rw [←Yz,←o2]
 have e3:rev (gcf F q) x=rev (sqf F (gcf F q)) x*rev (gcf F (gcf F q)) x:=by rw [←Yz,←b4]
 simp only [Yz]
 rw [e1,e2]
 rw [e3]
 generalize rev (sqf F (gcf F q)) x=A
 generalize rev (gcf F (gcf F q)) x=B
 grind
theorem Op.sz{p out q:List Int}{n:Nat}(hp:Tr p)(h0:p≠[])(hs:Sz n p)(hl:p.length≤13)(ho:Tr out)(hq:Tr q)(h:Op p out q):Sz (n+130) out∧out.length≤p.length∧out≠[]:=by
 obtain⟨a,ha,e⟩:=h
 exact Zth hp h0 hs hl (Pi a q) ho (e.trans ((Pi _ _).ext (Pi _ _) fun i=>Mh (fun x=>by rw [Yz,Yz,Yz,Yz];grind) i))
theorem Zr5{p:List Int}(hp:Tr p):Mb [1] p=p:=by rw [Ee];exact Zlk hp
theorem Zw2{F n:Nat}{p:List Int}(hp:Tr p)(h0:p≠[])(hs:Sz n p)(hn:n≤130)(hl:p.length≤13)(hF:p.length≤F+1):Zw3 F p.length [1] (nrm p)=Zjh F p.length p:=by
 have hD:=Dp.start hp h0
 have hok:=(hD.ok hp h0 hs hn hl hF).2
 rw [Zse hp h0 hs hn hl hF p.length [1] (nrm p) (.inr (show cf [1] 0≠0 by decide)) hD (by rw [Pt hp];exact Nat.le_refl _),Zr5 (Zhx (p:=p) hD.1 hD.2.1 hok),Zrk hp h0 hs hn hl hF p.length p hp h0 hD]
 exact Zhy hD.2.2.1 _
theorem Zgy{xs:List Int}{F:Nat}(hx:Tr xs)(h0:xs≠[])(hC:Zfh F xs){s t:Rat}(hst:s≤t):vch F xs t≤vch F xs s:=Zil hx h0 hC hst
theorem Sqn.imp{P P':R2→R2→Prop}{hi:Rat}(hp:∀x y,P x y→P' x y):∀{lo:Rat} {l:List (R2×R2)},Sqn P hi lo l→Sqn P' hi lo l
 | _,[],h=>h
 | _,_ :: _,h=>⟨h.1,h.2.1,hp _ _ h.2.2.1,Sqn.imp hp h.2.2.2⟩
def oe(f:Nat→Int):Nat→Int
 | 0=>0
 | k+1=>err (oe f k) (f k)
def mon(d n:Nat):List Int:=mono d ((2:Int)^n)
theorem bl_pow2(n:Nat):bl ((2:Int)^n).natAbs=n+1:=by
 rw [Int.natAbs_pow]
 refine Nat.le_antisymm ((Me (n+1) _).2 (Nat.pow_lt_pow_right (by decide) (Nat.lt_succ_self n))) ?_
 rcases Nat.lt_or_ge n (bl (Int.natAbs 2^n))with h | h
 ·exact h
 ·have:=(Me n _).1 h
  exact absurd this (Nat.lt_irrefl _)
theorem Zws(n:Nat):(0:Int)<2^n:=Int.pow_pos (by decide)
theorem dg_pow2(n:Nat):dg 256 (2^n)=List.replicate (n/8) 0 ++ [2^(n%8)]:=by
 have hlt:2^(n%8)<256:=Nat.lt_of_lt_of_le (Nat.pow_lt_pow_right (by decide) (Nat.mod_lt n (by decide))) (by decide)
 have hp:0<2^(n%8):=Nat.pow_pos (by decide)
 have e:2^n=256^(n/8)*2^(n%8):=by
  rw [show(256:Nat)=2^8 from rfl,←Nat.pow_mul,←Nat.pow_add];congr 1;omega
 have hlen:(dg 256 (2^n)).length=n/8+1:=by
  refine Nat.le_antisymm ((Xo (by omega) (n/8+1) (2^n)).2 ?_) ?_
  ·rw [e,Nat.pow_succ];exact Nat.mul_lt_mul_of_pos_left hlt (Nat.pow_pos (by decide))
  ·rcases Nat.lt_or_ge (n/8) (dg 256 (2^n)).length with h | h
   ·exact h
   ·have:=(Xo (by omega) (n/8) (2^n)).1 h
    rw [e]at this
    have h3:256^(n/8)*1≤256^(n/8)*2^(n%8):=Nat.mul_le_mul_left _ hp
    omega
 refine Bg (by rw [hlen];simp) fun j hj=>?_
 rw [Ij (by omega),e]
 rw [hlen]at hj
 rcases Nat.lt_or_ge j (n/8)with h | h
 ·have e2:256^(n/8)*2^(n%8)=256^j*(256*(256^(n/8-j-1)*2^(n%8))):=by
   rw [←Nat.mul_assoc,←Nat.mul_assoc,←Nat.pow_succ,←Nat.pow_add];congr 2;omega
  rw [e2,Nat.mul_div_cancel_left _ (Nat.pow_pos (by decide)),Nat.mul_mod_right]
  simp [List.getD,List.getElem?_append,h]
 ·obtain rfl:j=n/8:=by omega
  rw [Nat.mul_div_cancel_left _ (Nat.pow_pos (by decide)),Nat.mod_eq_of_lt hlt]
  simp [List.getD]
theorem Zut(n:Nat):Qq ((2:Int)^n).natAbs=⟨(((List.replicate (n/8+1) 0).set 0 (2^(n%8))).map UInt8.ofNat).toArray⟩:=by
 unfold Qq
 rw [Int.natAbs_pow,show Int.natAbs 2=2 from rfl,dg_pow2,List.reverse_append,List.reverse_replicate]
 rfl
variable {P:Program} {N:Nat} {sc:Nat→Prop} {env:Env} {H:Hp}
theorem d_shl8{o:Oper}{t t':TypeId}{x y:Operand}{m n:Nat}{n':Int}(ho:o.op= .binOp .shl t x y t')(hx:ev env x=some (.int .u8 (m:Int)))(hy:ev env y=some (.int .i64 n'))(hn':n'=(n:Int))(hn:n≤8)(hlt:m*2^n<256):Det P N sc o env H (.int .u8 ((m*2^n:Nat):Int)):=fun a w hs=>by
 subst hn'
 have h1:min n 8=n:=by omega
 have h2:IntKind.u8.wrap ((m:Int)*2^n)=((m*2^n:Nat):Int):=by
  simp only [IntKind.wrap,IntKind.bits,IntKind.signed]
  have:((m:Int)*2^n)=((m*2^n:Nat):Int):=by push_cast;rfl
  rw [this]
  simp
  omega
 have h3:¬((n:Int)<0):=by omega
 have h2':IntKind.u8.wrap (↑m*2^n)=↑m*2^n:=by rw [h2];push_cast;rfl
 simp [execOp,ho,hs.ev hx,hs.ev hy,eqGuard,binOp,Op.shift,IntKind.bits,h1,h2',h3]
end Go.Sky
namespace Go.Sky
def HD(xs ys:List Int):Prop:=Vp ys∧ys≠[]∧Zbz ys∧Zfh 13 ys∧chn 13 ys=chn 13 xs
def PH(xs:List Int)(x y:R2):Prop:=(0<x.2∧bl x.1.natAbs≤506∧bl x.2.natAbs≤506)∧(0<y.2∧bl y.1.natAbs≤506∧bl y.2.natAbs≤506)∧cvc 13 xs x-cvc 13 xs y=1
def DR:R2×R2:=((0,0),(0,0))
theorem Zdt(d:Rat){h:Rat}(h1:0<h):∃n:Nat,d≤(n:Rat)*h:=by
 have h4:0<h⁻¹:=Rat.inv_pos.2 h1
 refine⟨(d*h⁻¹).ceil.toNat,?_⟩
 have h5:=@Rat.le_ceil (d*h⁻¹)
 have h6:(((d*h⁻¹).ceil:Int):Rat)≤(((d*h⁻¹).ceil.toNat:Nat):Rat):=by
  have:(d*h⁻¹).ceil≤(((d*h⁻¹).ceil.toNat:Nat):Int):=Int.self_le_toNat _
  exact_mod_cast this
 have h7:=Rat.mul_le_mul_of_nonneg_right (Rat.le_trans h5 h6) (show 0≤h by grind)
 have h8:d*h⁻¹*h=d:=by grind
 grind
theorem Zme{f:Rat→Rat}{u v:Rat}(h:crs f u v≤0)(h0:f u≠0):0<f u*f v:=by
 unfold crs at h
 by_cases h1:f u≠0∧f u*f v≤0
 ·rw [if_pos h1]at h;exact absurd h (by decide)
 ·have:¬f u*f v≤0:=fun h2=>h1 ⟨h0,h2⟩
  grind
theorem Za6{xs:List Int}{F:Nat}(hx:Tr xs)(h0:xs≠[])(hC:Zfh F xs){s t:Rat}(hst:s≤t)(hV:vch F xs s≤vch F xs t)(hs:rev (sqf F xs) s≠0):∀y,s≤y→y≤t→0<rev (sqf F xs) s*rev (sqf F xs) y:=by
 obtain⟨h,h1,h2⟩:=Zik hx h0 hC s t
 have hcv:∀u v,s≤u→u≤v→v≤t→v-u≤h→crs (rev (sqf F xs)) u v≤0:=fun u v a b c d=>by
  have e:=h2 u v a b c d
  have m1:vat ((chn F xs).map rev) u≤vat ((chn F xs).map rev) s:=Zil hx h0 hC a
  have m2:vat ((chn F xs).map rev) t≤vat ((chn F xs).map rev) v:=Zil hx h0 hC c
  have m3:vat ((chn F xs).map rev) s≤vat ((chn F xs).map rev) t:=hV
  omega
 generalize rev (sqf F xs)=f at *
 have key:∀n:Nat,∀y,s≤y→y≤t→y-s≤(n:Rat)*h→0<f s*f y:=fun n=>by
  induction n with
  | zero=>
   intro y a b c
   have:y=s:=by push_cast at c;grind
   subst this
   exact Zme (hcv _ _ a (by grind) b (by grind)) hs
  | succ n ih=>
   intro y a b c
   push_cast at c
   by_cases hy:y-s≤h
   ·exact Zme (hcv s y (by grind) a b hy) hs
   ·have i1:=ih (y-h) (by grind) (by grind) (by grind)
    have hz:f (y-h)≠0:=fun e=>by rw [e]at i1;grind
    have i2:=Zme (hcv (y-h) y (by grind) (by grind) b (by grind)) hz
    have i3:=Rat.mul_pos i1 i2
    have e1:f s*f (y-h)*(f (y-h)*f y)=(f (y-h)*f (y-h))*(f s*f y):=by grind
    rw [e1]at i3
    have i4:0<f (y-h)*f (y-h):=by
     rcases(show 0<f (y-h)∨f (y-h)<0 by grind)with q | q
     ·exact Rat.mul_pos q q
     ·have:=Rat.mul_pos (a:=-f (y-h)) (b:=-f (y-h)) (by grind) (by grind);grind
    rcases(show 0<f s*f y∨f s*f y≤0 by grind)with q | q
    ·exact q
    ·have:=Rat.mul_nonneg (a:=f (y-h)*f (y-h)) (b:=-(f s*f y)) (by grind) (by grind);grind
 intro y a b
 obtain⟨n,hn⟩:∃n:Nat,y-s≤(n:Rat)*h:=by
  obtain⟨n,hn⟩:=Zdt (y-s) h1
  exact⟨n,hn⟩
 exact key n y a b hn
theorem Zdi{p:List Int}{s t:Rat}(hst:s≤t)(hd:∀u,s≤u→u≤t→0≤rev (ld p) u):rev p s≤rev p t:=by
 rcases(show rev p s≤rev p t∨rev p t<rev p s by grind)with h | h
 ·exact h
 ·exfalso
  obtain⟨M,m1,m2⟩:=Zhq s t p
  have hlt:s<t:=by
   rcases(show s<t∨s=t by grind)with h9 | h9
   ·exact h9
   ·rw [h9]at h;grind
  obtain⟨n,hn⟩:=Zdt (M*(t-s)*(t-s)+1) (show 0<rev p s-rev p t by grind)
  have hn0:(0:Rat)<(n:Rat):=by
   rcases Nat.eq_zero_or_pos n with h9 | h9
   ·subst h9
    have:=Rat.mul_nonneg (a:=M*(t-s)) (b:=t-s) (Rat.mul_nonneg (by grind) (by grind)) (by grind)
    push_cast at hn;grind
   ·exact_mod_cast h9
  have hn1:(n:Rat)≠0:=fun e=>by rw [e]at hn0;exact absurd hn0 (by decide)
  have hnn0:(n:Rat)*((t-s)/n)=t-s:=by
   rw [Rat.div_def,←Rat.mul_assoc,Rat.mul_comm (n:Rat),Rat.mul_assoc,Rat.mul_inv_cancel _ hn1,Rat.mul_one]
  have key:∀k:Nat,(k:Rat)≤(n:Rat)→-(M*((t-s)/n)*((t-s)/n))*k≤rev p (s+k*((t-s)/n))-rev p s:=fun k=>by
   induction k with
   | zero=>intro _;push_cast;rw [show s+0*((t-s)/n)=s by grind];grind
   | succ k ih=>
    intro hk
    push_cast at hk ⊢
    have i1:=ih (by grind)
    have hh:0≤(t-s)/n:=by
     rw [Rat.div_def];exact Rat.mul_nonneg (by grind) (Rat.le_of_lt (Rat.inv_pos.2 hn0))
    have hnn:=hnn0
    generalize (t-s)/(n:Rat)=h at *
    have k0:(0:Rat)≤(k:Rat):=by exact_mod_cast Nat.zero_le k
    have b1:=Rat.mul_nonneg (a:=(k:Rat)) (b:=h) k0 hh
    have b2:=Rat.mul_nonneg (a:=(n:Rat)-(k+1)) (b:=h) (by grind) hh
    have j:=(m2 (s+k*h) (s+(k+1)*h) (by grind) (by grind) (by grind)).1
    have e:=hd (s+k*h) (by grind) (by grind)
    have e2:=Rat.mul_nonneg hh e
    rw [show s+(k+1)*h-(s+k*h)=h by grind]at j
    grind
  have k1:=key n (by grind)
  have hnn:=hnn0
  rw [hnn,show s+(t-s)=t by grind]at k1
  have k2:-(M*((t-s)/n)*((t-s)/n))*n=-(M*((t-s)/n)*(t-s)):=by grind
  rw [k2]at k1
  have k3:M*((t-s)/n)*(t-s)*n=M*(t-s)*(t-s):=by grind
  have k4:=Rat.mul_nonneg (a:=rev p t-rev p s+M*((t-s)/n)*(t-s)) (b:=(n:Rat)) (by grind) (by grind)
  grind
theorem Zdb(p:List Int)(x:Rat):rev (p.map fun a=>-1*a) x=-rev p x:=by rw [Yd];push_cast;grind
theorem Zkr{p:List Int}{s t:Rat}(hst:s<t)(hd:∀u,s<u→u≤t→0<rev (ld p) u)(h0:0≤rev (ld p) s):rev p s<rev p t:=by
 have hm:s<(s+t)/2∧(s+t)/2<t:=by constructor<;>grind
 generalize (s+t)/2=m at *
 have a1:=Zdi (p:=p) (s:=s) (t:=m) (by grind) (fun u a b=>by
  rcases(show s<u∨u=s by grind)with h | h
  ·exact Rat.le_of_lt (hd u h (by grind))
  ·rw [h];exact h0)
 obtain⟨M,m1,m2⟩:=Zhq m t p
 have hp:=hd m hm.1 (by grind)
 obtain⟨η,q1,q2,q3⟩:=Ih (show 0<t-m by grind) m1 (show 0<rev (ld p) m/2 by grind)
 have b:=(m2 m (m+η) (by grind) (by grind) (by grind)).1
 rw [show m+η-m=η by grind]at b
 have a2:=Zdi (p:=p) (s:=m+η) (t:=t) (by grind) (fun u a b=>Rat.le_of_lt (hd u (by grind) b))
 have c:=Rat.mul_nonneg (a:=η) (b:=rev (ld p) m/2-η*M) (by grind) (by grind)
 have d:=Rat.mul_pos q1 hp
 grind
def Zbn:Nat→List Int→Rat→Int
 | 0,_,_=>0
 | n+1,p,x=>if rev p x≠0 then rsg (rev p x)else Zbn n (Pf p) x
theorem Zwa{x:Rat}(h:0<x):rsg x=1:=Dz h
theorem Zpj{x:Rat}(h:x<0):rsg x=-1:=Ca h
theorem Zrg{x:Rat}(h:x=0):rsg x=0:=by subst h;rfl
theorem Po(x:Rat):(0<x∧rsg x=1)∨(x<0∧rsg x=-1)∨(x=0∧rsg x=0):=by
 rcases(show 0<x∨x<0∨x=0 by grind)with h | h | h
 ·exact .inl ⟨h,Zwa h⟩
 ·exact .inr (.inl ⟨h,Zpj h⟩)
 ·exact .inr (.inr ⟨h,Zrg h⟩)
theorem Zu3(n:Nat)(p:List Int)(x:Rat)(h:rev p x≠0)(hl:p.length≤n):Zbn n p x=rsg (rev p x):=by
 cases n with
 | zero=>have:p=[]:=List.eq_nil_of_length_eq_zero (by omega);subst this;exact absurd rfl h
 | succ n=>unfold Zbn;rw [if_pos h]
theorem Zjv(p:List Int)(x:Rat)(h:rev p x≠0):∃δ:Rat,0<δ∧∀y,x<y→y≤x+δ→rsg (rev p y)=rsg (rev p x):=by
 obtain⟨L,l1,l2⟩:=Ez x (x+1) p
 have ha:0<(if 0<rev p x then rev p x else -rev p x):=by split<;>grind
 obtain⟨δ,d1,d2,d3⟩:=Ih (show(0:Rat)<1 by decide) (show 0<L+1 by grind) (show 0<(if 0<rev p x then rev p x else -rev p x)/2 by grind)
 refine⟨δ,d1,fun y h1 h2=>?_⟩
 have l:=l2 x y (by grind) (by grind) (by grind)
 have b:=Rat.mul_nonneg (a:=L) (b:=δ-(y-x)) (by grind) (by grind)
 have c:L*(y-x)≤δ*(L+1):=by grind
 rcases Po (rev p x)with⟨h3,h4⟩ | ⟨h3,h4⟩ | ⟨h3,h4⟩
 ·rw [if_pos h3]at d3 ha;rw [h4];exact Zwa (by grind)
 ·rw [if_neg (by grind)]at d3 ha;rw [h4];exact Zpj (by grind)
 ·exact absurd h3 h
theorem Er:∀(n:Nat) (p:List Int) (x:Rat),p.length≤n→∃δ:Rat,0<δ∧∀y,x<y→y≤x+δ→rsg (rev p y)=Zbn n p x
 | 0,p,x,hl=>⟨1,by decide,fun y _ _=>by
  have:p=[]:=List.eq_nil_of_length_eq_zero (by omega)
  subst this;exact Zrg rfl⟩
 | n+1,p,x,hl=>by
  by_cases h:rev p x≠0
  ·rw [Zu3 (n+1) p x h hl];exact Zjv p x h
  ·have h0:rev p x=0:=Classical.not_not.1 h
   have ld':=Oj p
   obtain⟨δ,d1,d2⟩:=Er n (Pf p) x (by omega)
   have hu:Zbn (n+1) p x=Zbn n (Pf p) x:=by unfold Zbn;rw [if_neg h];cases n<;>rfl
   have hx:rev (ld p) x≠0→rsg (rev (ld p) x)=Zbn n (Pf p) x:=fun h9=>by
    rw [←Kd]at h9 ⊢;exact(Zu3 n (Pf p) x h9 (by omega)).symm
   refine⟨δ,d1,fun y h1 h2=>?_⟩
   rw [hu]
   have hd:∀u,x<u→u≤y→rsg (rev (ld p) u)=Zbn n (Pf p) x:=fun u a b=>by rw [←Kd];exact d2 u a (by grind)
   have hyy:=hd y h1 (by grind)
   generalize Zbn n (Pf p) x=σ at *
   rcases Po (rev (ld p) y)with⟨h3,h4⟩ | ⟨h3,h4⟩ | ⟨h3,h4⟩
   ·rw [h4]at hyy;subst hyy
    refine Zwa ?_
    have:=Zkr (p:=p) h1 (fun u a b=>by
     rcases Po (rev (ld p) u)with⟨h5,h6⟩ | ⟨h5,h6⟩ | ⟨h5,h6⟩
     ·exact h5
     ·have:=hd u a b;rw [h6]at this;exact absurd this (by decide)
     ·have:=hd u a b;rw [h6]at this;exact absurd this (by decide)) (by
     rcases Po (rev (ld p) x)with⟨h5,h6⟩ | ⟨h5,h6⟩ | ⟨h5,h6⟩
     ·exact Rat.le_of_lt h5
     ·have:=hx (by grind);rw [h6]at this;exact absurd this (by decide)
     ·grind)
    grind
   ·rw [h4]at hyy;subst hyy
    refine Zpj ?_
    have hn:∀u,rev (ld (p.map fun a=>-1*a)) u=-rev (ld p) u:=fun u=>by rw [Cb];push_cast;grind
    have:=Zkr (p:=p.map fun a=>-1*a) h1 (fun u a b=>by
     rw [hn]
     rcases Po (rev (ld p) u)with⟨h5,h6⟩ | ⟨h5,h6⟩ | ⟨h5,h6⟩
     ·have:=hd u a b;rw [h6]at this;exact absurd this (by decide)
     ·grind
     ·have:=hd u a b;rw [h6]at this;exact absurd this (by decide)) (by
     rw [hn]
     rcases Po (rev (ld p) x)with⟨h5,h6⟩ | ⟨h5,h6⟩ | ⟨h5,h6⟩
     ·have:=hx (by grind);rw [h6]at this;exact absurd this (by decide)
     ·grind
     ·grind)
    rw [Zdb,Zdb]at this
    grind
   ·rw [h4]at hyy;subst hyy
    refine Zrg ?_
    have hz:∀u,x≤u→u≤y→rev (ld p) u=0:=fun u a b=>by
     rcases(show x<u∨u=x by grind)with h9 | h9
     ·rcases Po (rev (ld p) u)with⟨h5,h6⟩ | ⟨h5,h6⟩ | ⟨h5,h6⟩
      ·have:=hd u h9 b;rw [h6]at this;exact absurd this (by decide)
      ·have:=hd u h9 b;rw [h6]at this;exact absurd this (by decide)
      ·exact h5
     ·subst h9
      rcases Po (rev (ld p) u)with⟨h5,h6⟩ | ⟨h5,h6⟩ | ⟨h5,h6⟩
      ·have:=hx (by grind);rw [h6]at this;exact absurd this (by decide)
      ·have:=hx (by grind);rw [h6]at this;exact absurd this (by decide)
      ·exact h5
    have a1:=Zdi (p:=p) (s:=x) (t:=y) (by grind) (fun u a b=>by rw [hz u a b];grind)
    have a2:=Zdi (p:=p.map fun a=>-1*a) (s:=x) (t:=y) (by grind) (fun u a b=>by rw [Cb,hz u a b];push_cast;grind)
    rw [Zdb,Zdb]at a2
    grind
theorem Ed.mul_l{a b c:List Int}(h:Ed a b):Ed (Mb c a) (Mb c b):=by
 obtain⟨k,s,hk,e⟩:=h
 exact⟨k,s,hk,fun x=>by rw [Yz,Yz];have:=e x;grind⟩
theorem Iv{F n:Nat}{p:List Int}(hp:Tr p)(h0:p≠[])(hs:Sz n p)(hn:n≤130)(hl:p.length≤13)(hF:p.length≤F+1):∀(f:Nat) (q:List Int),Dp p q→q.length≤f→
  (∃B:List Int,∀x:Rat,rev q x=rev (Zcz F f q) x*(rev B x*rev B x))∧Ed (Zcz F f q) (sqf F q):=by
 intro f
 induction f with
 | zero=>intro q hq hlq;have:=List.length_pos_iff.2 hq.2.1;omega
 | succ f ih=>
  intro q hq hlq
  have hok:=(hq.ok hp h0 hs hn hl hF).2
  have hg:=hq.next hok
  have hok2:=(hg.ok hp h0 hs hn hl hF).2
  have hg2:=hg.next hok2
  unfold Zcz
  by_cases c1:(sqf F q).length=1
  ·rw [if_pos c1]
   obtain⟨s1,s2,s3⟩:=Zd9 hq.1 hq.2.1 hok c1
   refine⟨⟨[1],fun x=>?_⟩,Ed.refl _⟩
   rw [s1,nrm1 hq.1 hq.2.2.1 s2,Ot];push_cast;grind
  ·rw [if_neg c1]
   have lq:2≤q.length:=by
    obtain⟨f1,f2,f3,f4,f5,f6⟩:=Nh (F:=F) hq.1 hq.2.1 hok
    obtain⟨a1,a2,a3,a4,a5⟩:=Pp hq.1 hq.2.1 hok
    have l1:=List.length_pos_iff.2 f3
    have l2:=List.length_pos_iff.2 a2
    omega
   have lt1:=Zj4 hq.1 hq.2.1 hok lq
   obtain⟨a1,a2,a3,a4,a5⟩:=Pp hq.1 hq.2.1 hok
   obtain⟨b1,b2,b3,b4,b5⟩:=Pp hg.1 hg.2.1 hok2
   obtain⟨-,t2,t3,-,-,-⟩:=Nh (F:=F) hg.1 hg.2.1 hok2
   have lb:=List.length_pos_iff.2 t3
   obtain⟨⟨B,hB⟩,hE⟩:=ih _ hg2 (by omega)
   obtain⟨-,o2,o3,o4⟩:=Gh hq.1 hq.2.1 hok hok2
   have hok3:=(hg2.ok hp h0 hs hn hl hF).2
   rw [hq.2.2.1]at a4
   rw [a3]at b4
   have e1:∀x,rev q x=rev (sqf F q) x*rev (gcf F q) x:=fun x=>by rw [←Yz,←a4]
   have e2:∀x,rev (sqf F q) x=rev (Bp F q) x*rev (sqf F (gcf F q)) x:=fun x=>by rw [←Yz,←o2]
   have e3:∀x,rev (gcf F q) x=rev (sqf F (gcf F q)) x*rev (gcf F (gcf F q)) x:=fun x=>by rw [←Yz,←b4]
   refine⟨⟨Mb (sqf F (gcf F q)) B,fun x=>?_⟩,?_⟩
   ·rw [Yz,Yz,e1 x,e2 x,e3 x,hB x]
    show _=rev (Bp F q) x*_*_
    generalize rev (sqf F (gcf F q)) x=S
    generalize rev B x=C
    grind
   ·have h9:Ed (Zcz F f (gcf F (gcf F q))) (sqf F (gcf F q)):=hE.trans (Zsa hg.1 hg.2.1 hok2 hok3)
    have h8:=h9.mul_l (c:=Bp F q)
    rw [←o2]at h8
    exact h8
theorem Zns{F n:Nat}{p:List Int}(hp:Tr p)(h0:p≠[])(hs:Sz n p)(hn:n≤130)(hl:p.length≤13)(hF:p.length≤F+1){o:List Int}(ho:Tr o)(o0:o≠[])(hok:Za8 F o)(hpk:Za8 F p)(h:Ed o (sqf F p)):(gcf F o).length=1∧sqf F o=nrm o:=by
 obtain⟨a1,a2,a3,a4,a5⟩:=Pp ho o0 hok
 obtain⟨f1,f2,f3,f4,f5,f6⟩:=Nh (F:=F) hp h0 hpk
 obtain⟨-,s2,s3,s4,s5,s6⟩:=Nh (F:=F) ho o0 hok
 have ht:Tr (nrm o):=Nk (Xi ho)
 have hd:=Zb4 ht (Nv ht) hok
 have e1:Ed (gcf F o) (nrm o):=hd.1.ed
 have e2:Ed (gcf F o) (ld (nrm o)):=(hd.2.ed:Ed (gcf F o) (Pf (nrm o))).congr fun x=>Kd _ x
 have hsim:Sim (nrm o) o:=(Kg (Yx o)).trans (Qo ho)
 obtain⟨k,w,hk,hkw⟩:Ed (nrm o) (sqf F p):=by
  obtain⟨k,w,hk,e⟩:=h
  obtain⟨c,d,hc,hd',hcd⟩:=hsim
  have hcd':∀x:Rat,(c:Rat)*rev (nrm o) x=(d:Rat)*rev o x:=fun x=>by
   rw [←Yd,←Yd];exact Mr x _ _ fun i=>by rw [Pg,Pg];exact hcd i
  exact⟨d*k,w.map fun a=>c*a,Int.mul_ne_zero hd' hk,fun x=>by
   rw [Yd];have a:=e x;have b:=hcd' x;push_cast;grind⟩
 have hlen:(gcf F o).length≤1:=by
  refine Zea hp h0 hpk a1 (e1.trans ⟨k,w,hk,hkw⟩) ?_
  have h1:Ed (gcf F o) (Mn w (ld (nrm o))):=by
   obtain⟨m,z,hm,e⟩:=e2
   exact⟨m,Mn w z,hm,fun x=>by rw [Yt,Yt];have:=e x;grind⟩
  have h2:Ed (gcf F o) (ld (sqf F p)):=Ed.lin e1 h1 (ld w) k hk fun x=>by
   have:=Gx (p:=(sqf F p).map fun a=>k*a) (q:=Mn w (nrm o)) (fun y=>by rw [Yd,Yt];exact hkw y) x
   rw [Cb,Da]at this
   rw [Yt,this]
  exact h2.congr fun x=>(Kd _ x).symm
 have hl1:(gcf F o).length=1:=by have:=List.length_pos_iff.2 a2;omega
 refine⟨hl1,?_⟩
 rw [nrm1 a1 a3 hl1,Zlk s2]at a4
 exact a4.symm
theorem Zec{a b:List Int}(h:Sim a b):∃c d:Int,c≠0∧d≠0∧∀x:Rat,(c:Rat)*rev a x=(d:Rat)*rev b x:=by
 obtain⟨c,d,hc,hd,e⟩:=h
 exact⟨c,d,hc,hd,fun x=>by rw [←Yd,←Yd];exact Mr x _ _ fun i=>by rw [Pg,Pg];exact e i⟩
theorem Hs{x:Rat}(h:x≠0):0<x*x:=by
 rcases(show 0<x∨x<0 by grind)with q | q
 ·exact Rat.mul_pos q q
 ·have:=Rat.mul_pos (a:=-x) (b:=-x) (by grind) (by grind);grind
theorem Ob{c:Int}(h:c≠0):(c:Rat)≠0:=fun e=>h (by exact_mod_cast e)
theorem Zes{a b a' b' c d:Rat}(hc:c≠0)(hd:d≠0)(e1:c*a'=d*a)(e2:c*b'=d*b)(h:a*b<0):a'*b'<0:=by
 have h1:(c*c)*(a'*b')=(d*d)*(a*b):=by grind
 have h2:=Hs hc
 have h3:=Hs hd
 rcases(show a'*b'<0∨0≤a'*b' by grind)with q | q
 ·exact q
 ·have h4:=Rat.mul_nonneg (a:=c*c) (b:=a'*b') (by grind) q
  have h5:=Rat.mul_pos (a:=d*d) (b:=-(a*b)) h3 (by grind)
  grind
theorem opp_sq{o1 o2 B1 B2:Rat}(h:o1*(B1*B1)*(o2*(B2*B2))<0):o1*o2<0:=by
 rcases(show o1*o2<0∨0≤o1*o2 by grind)with q | q
 ·exact q
 ·have h1:0≤B1*B2*(B1*B2):=by
   by_cases hz:B1*B2=0
   ·rw [hz];grind
   ·exact Rat.le_of_lt (Hs hz)
  have h2:=Rat.mul_nonneg q h1
  grind
theorem Zju{F n:Nat}{p o:List Int}(hp:Tr p)(h0:p≠[])(hs:Sz n p)(hn:n≤130)(hl:p.length≤13)(hF:p.length≤F+1)(ho:o=Zcz F p.length (nrm p))(hot:Tr o)(o0:o≠[])(hC:Zfh F o){a b:Rat}(hab:a<b)(h1:Zbn p.length p a=1)(h2:rev p b<0):vch F o b<vch F o a:=by
 have hD:=Dp.start hp h0
 have hokn:=(hD.ok hp h0 hs hn hl hF).2
 have hokp:Za8 F p:=by unfold Za8 at hokn ⊢;rwa [hD.2.2.1]at hokn
 obtain⟨⟨B,hB⟩,hE⟩:=Iv hp h0 hs hn hl hF p.length (nrm p) hD (by rw [Pt hp];exact Nat.le_refl _)
 rw [←ho]at hB hE
 rw [Fg hD.2.2.1]at hE
 obtain⟨-,hsq⟩:=Zns hp h0 hs hn hl hF hot o0 hC.1.2.2.1 hokp hE
 obtain⟨δ,d1,d2⟩:=Er p.length p a (Nat.le_refl _)
 obtain⟨s,s1,s2,s3⟩:∃s,a<s∧s≤a+δ∧s<b:=by
  rcases(show a+δ<b∨b≤a+δ by grind)with q | q
  ·exact⟨a+δ,by grind,by grind,q⟩
  ·exact⟨(a+b)/2,by grind,by grind,by grind⟩
 have hps:0<rev p s:=by
  have:=d2 s s1 s2
  rw [h1]at this
  rcases Po (rev p s)with⟨h5,h6⟩ | ⟨h5,h6⟩ | ⟨h5,h6⟩
  ·exact h5
  ·rw [h6]at this;exact absurd this (by decide)
  ·rw [h6]at this;exact absurd this (by decide)
 have k1:rev p s*rev p b<0:=by have:=Rat.mul_pos (a:=rev p s) (b:=-rev p b) hps (by grind);grind
 obtain⟨c,d,hc,hd,e⟩:=Zec ((Kg (Yx p)).trans (Qo hp):Sim (nrm p) p)
 have k2:rev (nrm p) s*rev (nrm p) b<0:=Zes (Ob hc) (Ob hd) (e s) (e b) k1
 rw [hB s,hB b]at k2
 have k3:=opp_sq k2
 obtain⟨c',d',hc',hd',e'⟩:=Zec ((Kg (Yx o)).trans (Qo hot):Sim (nrm o) o)
 have k4:rev (nrm o) s*rev (nrm o) b<0:=Zes (Ob hc') (Ob hd') (e' s) (e' b) k3
 rw [←hsq]at k4
 have m1:=Zgy hot o0 hC (Rat.le_of_lt s1)
 rcases Int.lt_or_le (vch F o b) (vch F o s)with q | q
 ·exact Int.lt_of_lt_of_le q m1
 ·exfalso
  have hz:rev (sqf F o) s≠0:=fun e9=>by rw [e9]at k4;grind
  have:=Za6 hot o0 hC (Rat.le_of_lt s3) q hz b (Rat.le_of_lt s3) (by grind)
  grind
theorem Zfe:∀(n:Nat) (p:List Int) (x:Rat),Tr p→p≠[]→p.length≤n→Zbn n p x≠0
 | 0,p,x,_,h0,hl=>absurd (List.eq_nil_of_length_eq_zero (by omega)) h0
 | n+1,p,x,hp,h0,hl=>by
  unfold Zbn
  by_cases h:rev p x≠0
  ·rw [if_pos h]
   rcases Po (rev p x)with⟨h5,h6⟩ | ⟨h5,h6⟩ | ⟨h5,h6⟩
   ·rw [h6];decide
   ·rw [h6];decide
   ·exact absurd h5 h
  ·rw [if_neg h]
   have hz:rev p x=0:=Classical.not_not.1 h
   have ld':=Oj p
   refine Zfe n (Pf p) x (Nv hp) (fun e=>?_) (by omega)
   rw [e]at ld'
   have l0:=List.length_pos_iff.2 h0
   have hl1:p.length=1:=by simp at ld';omega
   match p,hl1 with
   | [c],_=>
    have hc:c≠0:=hp.mem (by simp)
    rw [Ot]at hz
    exact Ob hc hz
theorem Zo4(n:Nat)(p:List Int)(x:Rat):-1≤Zbn n p x∧Zbn n p x≤1:=by
 induction n generalizing p with
 | zero=>show -1≤(0:Int)∧(0:Int)≤1;decide
 | succ n ih=>unfold Zbn;split;exact rsg_r _;exact ih _
def Cq(F:Nat)(o:List Int)(a b:Rat):Prop:=0<vch F o a-vch F o b-(if rev o b=0 then 1 else 0)
theorem Zxb{F n:Nat}{p o:List Int}(hp:Tr p)(h0:p≠[])(hs:Sz n p)(hn:n≤130)(hl:p.length≤13)(hF:p.length≤F+1)(ho:o=Zcz F p.length (nrm p))(hot:Tr o)(o0:o≠[])(hC:Zfh F o){a b:Rat}(hab:a<b) :
  (rev p a<0∨rev p b<0∨Zbn p.length p a<0∨Cq F o a b)↔(Zbn p.length p a<0∨Cq F o a b):=by
 constructor
 ·rintro(h | h | h | h)
  ·left
   rw [Zu3 p.length p a (by grind) (Nat.le_refl _),Zpj h];decide
  ·have r:=Zo4 p.length p a
   have r0:=Zfe p.length p a hp h0 (Nat.le_refl _)
   rcases(show Zbn p.length p a<0∨Zbn p.length p a=1 by omega)with h1 | h1
   ·exact .inl h1
   ·right
    have hv:=Zju hp h0 hs hn hl hF ho hot o0 hC hab h1 h
    have hD:=Dp.start hp h0
    obtain⟨⟨B,hB⟩,-⟩:=Iv hp h0 hs hn hl hF p.length (nrm p) hD (by rw [Pt hp];exact Nat.le_refl _)
    rw [←ho]at hB
    obtain⟨c,d,hc,hd,e⟩:=Zec ((Kg (Yx p)).trans (Qo hp):Sim (nrm p) p)
    have hob:rev o b≠0:=fun e9=>by
     have h5:(c:Rat)*rev (nrm p) b=(d:Rat)*rev p b:=e b
     rw [hB b,e9]at h5
     have h6:=Ob hd
     have h7:(d:Rat)*rev p b=0:=by rw [←h5];grind
     rcases Rat.mul_eq_zero.1 h7 with q | q
     ·exact h6 q
     ·rw [q]at h;grind
    unfold Cq
    rw [if_neg hob]
    omega
  ·exact .inl h
  ·exact .inr h
 ·rintro(h | h)
  ·exact .inr (.inr (.inl h))
  ·exact .inr (.inr (.inr h))
theorem Zs2(p:List Int)(x:Rat)(h:rev p x≠0):∃δ:Rat,0<δ∧∀y,x-δ≤y→y≤x→rsg (rev p y)=rsg (rev p x):=by
 obtain⟨L,l1,l2⟩:=Ez (x-1) x p
 have ha:0<(if 0<rev p x then rev p x else -rev p x):=by split<;>grind
 obtain⟨δ,d1,d2,d3⟩:=Ih (show(0:Rat)<1 by decide) (show 0<L+1 by grind) (show 0<(if 0<rev p x then rev p x else -rev p x)/2 by grind)
 refine⟨δ,d1,fun y h1 h2=>?_⟩
 have l:=l2 y x (by grind) (by grind) (by grind)
 have b:=Rat.mul_nonneg (a:=L) (b:=δ-(x-y)) (by grind) (by grind)
 have c:L*(x-y)≤δ*(L+1):=by grind
 rcases Po (rev p x)with⟨h3,h4⟩ | ⟨h3,h4⟩ | ⟨h3,h4⟩
 ·rw [if_pos h3]at d3 ha;rw [h4];exact Zwa (by grind)
 ·rw [if_neg (by grind)]at d3 ha;rw [h4];exact Zpj (by grind)
 ·exact absurd h3 h
theorem rsg_1{x:Rat}(h:rsg x=1):0<x:=by
 rcases Po x with⟨h5,h6⟩ | ⟨h5,h6⟩ | ⟨h5,h6⟩
 ·exact h5
 ·rw [h6]at h;exact absurd h (by decide)
 ·rw [h6]at h;exact absurd h (by decide)
theorem Znc{x:Rat}(h:rsg x=-1):x<0:=by
 rcases Po x with⟨h5,h6⟩ | ⟨h5,h6⟩ | ⟨h5,h6⟩
 ·rw [h6]at h;exact absurd h (by decide)
 ·exact h5
 ·rw [h6]at h;exact absurd h (by decide)
def NegI(p:List Int)(a b:Rat):Prop:=∃x,a≤x∧x≤b∧rev p x<0
theorem Zxt {xs:List Int} {F:Nat} (hx:Tr xs) (h0:xs≠[]) (hC:Zfh F xs) {a b σ:Rat} (hσ:σ≠0) (hab:a<b)
  (hpos:∀x,a≤x→x<b→∃δ:Rat,0<δ∧∀y,x<y→y≤x+δ→y≤b→0<σ*rev (sqf F xs) y) :
  vch F xs a-vch F xs b≤(if rev (sqf F xs) b=0 then 1 else 0):=by
 obtain⟨h,h1,h2⟩:=Zik hx h0 hC a b
 have hge:∀x,a≤x→x<b→0≤σ*rev (sqf F xs) x:=fun x ha hb=>by
  rcases(show 0≤σ*rev (sqf F xs) x∨σ*rev (sqf F xs) x<0 by grind)with q | q
  ·exact q
  ·exfalso
   have hz:rev (sqf F xs) x≠0:=fun e=>by rw [e]at q;grind
   obtain⟨δ,d1,d2⟩:=hpos x ha hb
   obtain⟨ε,e1,e2⟩:=Zjv (sqf F xs) x hz
   obtain⟨y,y1,y2,y3,y4⟩:∃y,x<y∧y≤x+δ∧y≤x+ε∧y≤b:=by
    rcases(show δ≤ε∨ε≤δ by grind)with w | w
    ·rcases(show x+δ≤b∨b≤x+δ by grind)with v | v
     ·exact⟨x+δ,by grind,by grind,by grind,v⟩
     ·exact⟨b,by grind,by grind,by grind,by grind⟩
    ·rcases(show x+ε≤b∨b≤x+ε by grind)with v | v
     ·exact⟨x+ε,by grind,by grind,by grind,v⟩
     ·exact⟨b,by grind,by grind,by grind,by grind⟩
   have k1:=d2 y y1 y2 y4
   have k2:=e2 y y1 y3
   rcases Po (rev (sqf F xs) x)with⟨h5,h6⟩ | ⟨h5,h6⟩ | ⟨h5,h6⟩
   ·rw [h6]at k2
    have k3:=rsg_1 k2
    rcases(show σ<0∨0<σ by grind)with s | s
    ·have:=Rat.mul_pos (a:=-σ) (b:=rev (sqf F xs) y) (by grind) k3;grind
    ·have:=Rat.mul_pos s h5;grind
   ·rw [h6]at k2
    have k3:=Znc k2
    rcases(show σ<0∨0<σ by grind)with s | s
    ·have:=Rat.mul_pos (a:=-σ) (b:=-rev (sqf F xs) x) (by grind) (by grind);grind
    ·have:=Rat.mul_pos (a:=σ) (b:=-rev (sqf F xs) y) s (by grind);grind
   ·exact hz h5
 have hgb:0≤σ*rev (sqf F xs) b:=by
  rcases(show 0≤σ*rev (sqf F xs) b∨σ*rev (sqf F xs) b<0 by grind)with q | q
  ·exact q
  ·exfalso
   have hz:rev (sqf F xs) b≠0:=fun e=>by rw [e]at q;grind
   obtain⟨ε,e1,e2⟩:=Zs2 (sqf F xs) b hz
   obtain⟨y,y1,y2,y3⟩:∃y,a≤y∧y<b∧b-ε≤y:=by
    rcases(show a≤b-ε∨b-ε≤a by grind)with v | v
    ·exact⟨b-ε,v,by grind,by grind⟩
    ·exact⟨a,by grind,hab,v⟩
   obtain⟨δ,d1,d2⟩:=hpos y y1 y2
   obtain⟨z,z1,z2,z3⟩:∃z,y<z∧z≤y+δ∧z≤b:=by
    rcases(show y+δ≤b∨b≤y+δ by grind)with v | v
    ·exact⟨y+δ,by grind,by grind,v⟩
    ·exact⟨b,y2,by grind,by grind⟩
   have k1:=d2 z z1 z2 z3
   have k2:=e2 z (by grind) z3
   rcases Po (rev (sqf F xs) b)with⟨h5,h6⟩ | ⟨h5,h6⟩ | ⟨h5,h6⟩
   ·rw [h6]at k2
    have k3:=rsg_1 k2
    rcases(show σ<0∨0<σ by grind)with s | s
    ·have:=Rat.mul_pos (a:=-σ) (b:=rev (sqf F xs) z) (by grind) k3;grind
    ·have:=Rat.mul_pos s h5;grind
   ·rw [h6]at k2
    have k3:=Znc k2
    rcases(show σ<0∨0<σ by grind)with s | s
    ·have:=Rat.mul_pos (a:=-σ) (b:=-rev (sqf F xs) b) (by grind) (by grind);grind
    ·have:=Rat.mul_pos (a:=σ) (b:=-rev (sqf F xs) z) s (by grind);grind
   ·exact hz h5
 have hstep:∀u v,a≤u→u≤v→v≤b→v-u≤h/2→vch F xs u-vch F xs v≤(if v=b∧rev (sqf F xs) b=0 then 1 else 0):=fun u v c1 c2 c3 c4=>by
  have e:=h2 u v c1 c2 c3 (by grind)
  have e':vch F xs u-vch F xs v=crs (rev (sqf F xs)) u v:=e
  rw [e']
  unfold crs
  by_cases hc:rev (sqf F xs) u≠0∧rev (sqf F xs) u*rev (sqf F xs) v≤0
  ·rw [if_pos hc]
   have hub:u<b:=by
    rcases(show u<b∨u=b by grind)with q | q
    ·exact q
    ·exfalso
     have:v=u:=by grind
     subst this
     have:=Hs hc.1;grind
   have g1:=hge u c1 hub
   have g2:0≤σ*rev (sqf F xs) v:=by
    rcases(show v<b∨v=b by grind)with q | q
    ·exact hge v (by grind) q
    ·rw [q];exact hgb
   have hv0:rev (sqf F xs) v=0:=by
    rcases(show rev (sqf F xs) v=0∨rev (sqf F xs) v≠0 by grind)with q | q
    ·exact q
    ·exfalso
     have m1:=Rat.mul_nonneg g1 g2
     have m2:=Hs hσ
     have m3:(σ*σ)*(rev (sqf F xs) u*rev (sqf F xs) v)≥0:=by grind
     rcases(show rev (sqf F xs) u*rev (sqf F xs) v<0∨rev (sqf F xs) u*rev (sqf F xs) v=0 by grind)with w | w
     ·have:=Rat.mul_pos m2 (show 0 < -(rev (sqf F xs) u*rev (sqf F xs) v) by grind);grind
     ·rcases Rat.mul_eq_zero.1 w with z | z
      ·exact hc.1 z
      ·exact q z
   rcases(show v<b∨v=b by grind)with q | q
   ·exfalso
    obtain⟨δ,d1,d2⟩:=hpos v (by grind) q
    obtain⟨z,z1,z2,z3,z4⟩:∃z,v<z∧z≤v+δ∧z≤b∧z-v≤h/2:=by
     rcases(show δ≤h/2∨h/2≤δ by grind)with w | w
     ·rcases(show v+δ≤b∨b≤v+δ by grind)with t | t
      ·exact⟨v+δ,by grind,by grind,t,by grind⟩
      ·exact⟨b,q,by grind,by grind,by grind⟩
     ·rcases(show v+h/2≤b∨b≤v+h/2 by grind)with t | t
      ·exact⟨v+h/2,by grind,by grind,t,by grind⟩
      ·exact⟨b,q,by grind,by grind,by grind⟩
    have k1:=d2 z z1 z2 z3
    have a1:=h2 u z c1 (by grind) z3 (by grind)
    have a2:=h2 v z (by grind) (by grind) z3 (by grind)
    have r1:crs (rev (sqf F xs)) u z=0:=by
     unfold crs
     rw [if_neg]
     rintro⟨w1,w2⟩
     have g3:0<σ*rev (sqf F xs) u:=by
      rcases(show σ*rev (sqf F xs) u=0∨0<σ*rev (sqf F xs) u by grind)with t | t
      ·rcases Rat.mul_eq_zero.1 t with t | t
       ·exact absurd t hσ
       ·exact absurd t w1
      ·exact t
     have m1:=Rat.mul_pos g3 k1
     have m2:=Hs hσ
     have m3:0<(σ*σ)*(rev (sqf F xs) u*rev (sqf F xs) z):=by grind
     have m4:=Rat.mul_nonneg (a:=σ*σ) (b:=-(rev (sqf F xs) u*rev (sqf F xs) z)) (by grind) (by grind)
     grind
    have r2:crs (rev (sqf F xs)) v z=0:=by unfold crs;rw [if_neg];rintro⟨w1,w2⟩;exact w1 hv0
    have r3:crs (rev (sqf F xs)) u v=1:=by unfold crs;rw [if_pos hc]
    rw [r1]at a1;rw [r2]at a2;rw [r3]at e
    omega
   ·rw [q]at hv0
    rw [if_pos ⟨q,hv0⟩];decide
  ·rw [if_neg hc]
   split<;>decide
 have key:∀n:Nat,∀u,a≤u→u≤b→b-u≤(n:Rat)*(h/2)→vch F xs u-vch F xs b≤(if rev (sqf F xs) b=0 then 1 else 0):=fun n=>by
  induction n with
  | zero=>
   intro u c1 c2 c3
   have:u=b:=by push_cast at c3;grind
   subst this
   rw [Int.sub_self]
   split<;>decide
  | succ n ih=>
   intro u c1 c2 c3
   push_cast at c3
   by_cases hy:b-u≤h/2
   ·have:=hstep u b c1 c2 (by grind) hy
    by_cases hz:rev (sqf F xs) b=0
    ·rw [if_pos ⟨rfl,hz⟩]at this;rw [if_pos hz];exact this
    ·rw [if_neg (fun e=>hz e.2)]at this;rw [if_neg hz];exact this
   ·have i1:=ih (u+h/2) (by grind) (by grind) (by grind)
    have i2:=hstep u (u+h/2) c1 (by grind) (by grind) (by grind)
    rw [if_neg (fun e=>by have:=e.1;grind)]at i2
    generalize (if rev (sqf F xs) b=0 then(1:Int)else 0)=t at *
    omega
 obtain⟨n,hn⟩:=Zdt (b-a) (show 0<h/2 by grind)
 exact key n a (by grind) (by grind) hn
structure Odp (F n:Nat) (p o:List Int):Prop where
 tr:Tr p
 ne:p≠[]
 sz:Sz n p
 hn:n≤130
 hl:p.length≤13
 hF:p.length≤F+1
 eq:o=Zcz F p.length (nrm p)
 otr:Tr o
 one:o≠[]
 ok:Zfh F o
theorem Odp.sq{F n:Nat}{p o:List Int}(h:Odp F n p o):∃(c d:Int) (B:List Int),c≠0∧d≠0∧∀x:Rat,(d:Rat)*rev p x=(c:Rat)*(rev o x*(rev B x*rev B x)):=by
 have hD:=Dp.start h.tr h.ne
 obtain⟨⟨B,hB⟩,-⟩:=Iv h.tr h.ne h.sz h.hn h.hl h.hF p.length (nrm p) hD (by rw [Pt h.tr];exact Nat.le_refl _)
 rw [←h.eq]at hB
 obtain⟨c,d,hc,hd,e⟩:=Zec ((Kg (Yx p)).trans (Qo h.tr):Sim (nrm p) p)
 exact⟨c,d,B,hc,hd,fun x=>by rw [←hB x];exact(e x).symm⟩
theorem Odp.sqf{F n:Nat}{p o:List Int}(h:Odp F n p o):Go.Sky.sqf F o=nrm o:=by
 have hD:=Dp.start h.tr h.ne
 have hokn:=(hD.ok h.tr h.ne h.sz h.hn h.hl h.hF).2
 have hokp:Za8 F p:=by unfold Za8 at hokn ⊢;rwa [hD.2.2.1]at hokn
 obtain⟨-,hE⟩:=Iv h.tr h.ne h.sz h.hn h.hl h.hF p.length (nrm p) hD (by rw [Pt h.tr];exact Nat.le_refl _)
 rw [←h.eq]at hE
 rw [Fg hD.2.2.1]at hE
 exact(Zns h.tr h.ne h.sz h.hn h.hl h.hF h.otr h.one h.ok.1.2.2.1 hokp hE).2
theorem Odp.srt{F n:Nat}{p o:List Int}(h:Odp F n p o):∃c d:Int,c≠0∧d≠0∧∀x:Rat,(c:Rat)*rev (Go.Sky.sqf F o) x=(d:Rat)*rev o x:=by
 rw [h.sqf]
 exact Zec ((Kg (Yx o)).trans (Qo h.otr):Sim (nrm o) o)
theorem Odp.zero{F n:Nat}{p o:List Int}(h:Odp F n p o)(x:Rat):rev (Go.Sky.sqf F o) x=0↔rev o x=0:=by
 obtain⟨c,d,hc,hd,e⟩:=h.srt
 have e1:=e x
 constructor
 ·intro z;rw [z]at e1;rcases Rat.mul_eq_zero.1 (show(d:Rat)*rev o x=0 by grind)with q | q
  ·exact absurd q (Ob hd)
  ·exact q
 ·intro z;rw [z]at e1;rcases Rat.mul_eq_zero.1 (show(c:Rat)*rev (Go.Sky.sqf F o) x=0 by grind)with q | q
  ·exact absurd q (Ob hc)
  ·exact q
theorem Odp.nz{F n:Nat}{p o:List Int}(h:Odp F n p o){x:Rat}(hx:rev p x≠0):rev o x≠0:=fun z=>by
 obtain⟨c,d,B,hc,hd,e⟩:=h.sq
 have e1:=e x
 rw [z]at e1
 rcases Rat.mul_eq_zero.1 (show(d:Rat)*rev p x=0 by grind)with q | q
 ·exact Ob hd q
 ·exact hx q
theorem Odp.opp{F n:Nat}{p o:List Int}(h:Odp F n p o){x y:Rat}(hxy:rev p x*rev p y<0):rev o x*rev o y<0∧rev (Go.Sky.sqf F o) x*rev (Go.Sky.sqf F o) y<0:=by
 obtain⟨c,d,B,hc,hd,e⟩:=h.sq
 have k1:(rev o x*(rev B x*rev B x))*(rev o y*(rev B y*rev B y))<0:=Zes (Ob hc) (Ob hd) (e x).symm (e y).symm hxy
 have k2:=opp_sq k1
 obtain⟨c',d',hc',hd',e'⟩:=h.srt
 exact⟨k2,Zes (Ob hc') (Ob hd') (e' x) (e' y) k2⟩
theorem Odp.sem{F n:Nat}{p o:List Int}(h:Odp F n p o){a b:Rat}(hab:a<b):(Zbn p.length p a<0∨Cq F o a b)↔NegI p a b:=by
 have hsame:=Zxb h.tr h.ne h.sz h.hn h.hl h.hF h.eq h.otr h.one h.ok hab
 constructor
 ·rintro(h1 | h1)
  ·obtain⟨δ,d1,d2⟩:=Er p.length p a (Nat.le_refl _)
   have r:=Zo4 p.length p a
   have hm:Zbn p.length p a=-1:=by omega
   rcases(show a+δ≤b∨b≤a+δ by grind)with q | q
   ·exact⟨a+δ,by grind,q,Znc (by rw [d2 (a+δ) (by grind) (by grind),hm])⟩
   ·exact⟨b,by grind,by grind,Znc (by rw [d2 b hab q,hm])⟩
  ·rcases Classical.em (NegI p a b)with q | q
   ·exact q
   ·exfalso
    have hge:∀x,a≤x→x≤b→0≤rev p x:=fun x u v=>by
     rcases(show 0≤rev p x∨rev p x<0 by grind)with w | w
     ·exact w
     ·exact absurd ⟨x,u,v,w⟩ q
    have haft:∀x,a≤x→x<b→∃δ:Rat,0<δ∧∀y,x<y→y≤x+δ→y≤b→0<rev p y:=fun x u v=>by
     obtain⟨δ,d1,d2⟩:=Er p.length p x (Nat.le_refl _)
     have r:=Zo4 p.length p x
     have r0:=Zfe p.length p x h.tr h.ne (Nat.le_refl _)
     refine⟨δ,d1,fun y c1 c2 c3=>?_⟩
     have s:=d2 y c1 c2
     rcases Po (rev p y)with⟨h5,h6⟩ | ⟨h5,h6⟩ | ⟨h5,h6⟩
     ·exact h5
     ·have:=hge y (by grind) c3;grind
     ·rw [h6]at s;exact absurd s.symm r0
    obtain⟨δ,d1,d2⟩:=haft a (by grind) hab
    obtain⟨z,z1,z2,z3⟩:∃z,a<z∧z≤a+δ∧z≤b:=by
     rcases(show a+δ≤b∨b≤a+δ by grind)with w | w
     ·exact⟨a+δ,by grind,by grind,w⟩
     ·exact⟨b,hab,w,by grind⟩
    have hz:=d2 z z1 z2 z3
    have hσ:rev (Go.Sky.sqf F o) z≠0:=fun e=>h.nz (x:=z) (by grind) ((h.zero z).1 e)
    have hf:=Zxt h.otr h.one h.ok (σ:=rev (Go.Sky.sqf F o) z) hσ hab (fun x u v=>by
     obtain⟨ε,e1,e2⟩:=haft x u v
     refine⟨ε,e1,fun y c1 c2 c3=>?_⟩
     have hy:=e2 y c1 c2 c3
     have hyn:rev (Go.Sky.sqf F o) y≠0:=fun e=>h.nz (x:=y) (by grind) ((h.zero y).1 e)
     rcases(show 0<rev (Go.Sky.sqf F o) z*rev (Go.Sky.sqf F o) y∨rev (Go.Sky.sqf F o) z*rev (Go.Sky.sqf F o) y<0∨rev (Go.Sky.sqf F o) z*rev (Go.Sky.sqf F o) y=0 by grind)with w | w | w
     ·exact w
     ·exfalso
      obtain⟨c,d,B,hc,hd,e⟩:=h.sq
      obtain⟨c',d',hc',hd',e'⟩:=h.srt
      have w1:rev o z*rev o y<0:=Zes (Ob hd') (Ob hc') (e' z).symm (e' y).symm w
      have p1:=Rat.mul_pos hz hy
      have q1:((d:Rat)*(d:Rat))*(rev p z*rev p y)=((c:Rat)*(c:Rat))*((rev o z*rev o y)*((rev B z*rev B y)*(rev B z*rev B y))):=by
       have a1:=e z
       have a2:=e y
       have:((d:Rat)*rev p z)*((d:Rat)*rev p y)=((c:Rat)*(rev o z*(rev B z*rev B z)))*((c:Rat)*(rev o y*(rev B y*rev B y))):=by rw [a1,a2]
       grind
      have q2:=Rat.mul_pos (Hs (Ob hd)) p1
      have q3:0≤(rev B z*rev B y)*(rev B z*rev B y):=by
       by_cases t:rev B z*rev B y=0
       ·rw [t];grind
       ·exact Rat.le_of_lt (Hs t)
      have q4:=Rat.mul_nonneg (Rat.le_of_lt (Hs (Ob hc))) (Rat.mul_nonneg (show 0≤-(rev o z*rev o y) by grind) q3)
      grind
     ·rcases Rat.mul_eq_zero.1 w with t | t
      ·exact absurd t hσ
      ·exact absurd t hyn)
    unfold Cq at h1
    by_cases hb0:rev o b=0
    ·rw [if_pos hb0]at h1;rw [if_pos ((h.zero b).2 hb0)]at hf;omega
    ·rw [if_neg hb0]at h1;rw [if_neg (fun e=>hb0 ((h.zero b).1 e))]at hf;omega
 ·rintro⟨x,x1,x2,x3⟩
  rcases(show x=a∨x=b∨(a<x∧x<b) by grind)with q | q | ⟨q1,q2⟩
  ·subst q;exact hsame.1 (.inl x3)
  ·subst q;exact hsame.1 (.inr (.inl x3))
  ·have r:=Zo4 p.length p a
   have r0:=Zfe p.length p a h.tr h.ne (Nat.le_refl _)
   rcases(show Zbn p.length p a<0∨Zbn p.length p a=1 by omega)with h1 | h1
   ·exact .inl h1
   ·right
    have hv:=Zju h.tr h.ne h.sz h.hn h.hl h.hF h.eq h.otr h.one h.ok q1 h1 x3
    have m1:=Zgy h.otr h.one h.ok (Rat.le_of_lt q2)
    unfold Cq
    by_cases hb0:rev o b=0
    ·rw [if_pos hb0]
     have hx:rev (Go.Sky.sqf F o) x≠0:=fun e=>h.nz (x:=x) (by grind) ((h.zero x).1 e)
     rcases Int.lt_or_le (vch F o b) (vch F o x)with w | w
     ·omega
     ·exfalso
      have:=Za6 h.otr h.one h.ok (Rat.le_of_lt q2) w hx b (Rat.le_of_lt q2) (by grind)
      rw [(h.zero b).2 hb0]at this
      grind
    ·rw [if_neg hb0];omega
theorem Zn8(g:Rat→Rat){h:Rat}(hh:0<h):∀(n:Nat) (u v:Rat),u<v→v-u≤(n:Rat)*h→g u*g v<0→∃x y,u≤x∧x<y∧y≤v∧y-x≤h∧g x≠0∧g x*g y≤0
 | 0,u,v,a,b,_=>by push_cast at b;grind
 | n+1,u,v,a,b,c=>by
  push_cast at b
  have hu:g u≠0:=fun e=>by rw [e]at c;grind
  by_cases hd:v-u≤h
  ·exact⟨u,v,by grind,a,by grind,hd,hu,by grind⟩
  ·rcases(show g u*g (u+h)≤0∨0<g u*g (u+h) by grind)with q | q
   ·exact⟨u,u+h,by grind,by grind,by grind,by grind,hu,q⟩
   ·have hz:g (u+h)*g v<0:=by
     have s1:=Hs hu
     rcases(show g (u+h)*g v<0∨0≤g (u+h)*g v by grind)with w | w
     ·exact w
     ·have m1:=Rat.mul_pos q (show 0 < -(g u*g v) by grind)
      have m2:=Rat.mul_nonneg (Rat.le_of_lt s1) w
      grind
    obtain⟨x,y,i1,i2,i3,i4,i5,i6⟩:=Zn8 g hh n (u+h) v (by grind) (by grind) hz
    exact⟨x,y,by grind,i2,i3,i4,i5,i6⟩
theorem Zjt{a b c:Rat}(h:a*b<0)(h1:a-b≤c)(h2:b-a≤c):-c≤a∧a≤c:=by
 rcases(show 0<a∨a<0∨a=0 by grind)with q | q | q
 ·have:b<0:=by
   rcases(show b<0∨0≤b by grind)with w | w
   ·exact w
   ·have:=Rat.mul_nonneg (Rat.le_of_lt q) w;grind
  grind
 ·have:0<b:=by
   rcases(show 0<b∨b≤0 by grind)with w | w
   ·exact w
   ·have:=Rat.mul_nonneg (show 0≤-a by grind) (show 0≤-b by grind);grind
  grind
 ·rw [q]at h;grind
theorem Zon{xs o:List Int}{F:Nat}(hx:Tr xs)(h0:xs≠[])(hC:Zfh F xs)(ho:Tr o)(o0:o≠[])(hE:Ed o (sqf F xs)){u v:Rat}(huv:u<v)(hu:rev (sqf F xs) u≠0)(h:rev o u*rev o v<0):vch F xs v<vch F xs u:=by
 rcases Int.lt_or_le (vch F xs v) (vch F xs u)with q | q
 ·exact q
 ·exfalso
  have hk:=Za6 hx h0 hC (Rat.le_of_lt huv) q hu
  obtain⟨k,w,k0,hw⟩:=hE
  have hkr:=Ob k0
  have hcop:∀d,Tr d→Ed d o→Ed d (tzl w)→d.length≤1:=fun d hd e1 e2=>by
   obtain⟨k1,s1,c1,r1⟩:=e1
   obtain⟨k2,s2,c2,r2⟩:=e2
   refine Zea hx h0 hC.1.2.2.1 hd ⟨k*k1,Mn w s1,Int.mul_ne_zero k0 c1,fun x=>?_⟩ ⟨k*k1*k2,Gf ((Mn (ld w) s1).map fun a=>k2*a) ((Mn s2 (ld o)).map fun a=>k1*a),Int.mul_ne_zero (Int.mul_ne_zero k0 c1) c2,fun x=>?_⟩
   ·rw [Yt];have a1:=hw x;have a2:=r1 x;push_cast;grind
   ·rw [Qd,Yd,Yd,Yt,Yt,Kd]
    have a0:=Gx (p:=(sqf F xs).map fun a=>k*a) (q:=Mn w o) (fun y=>by rw [Yd,Yt];exact hw y) x
    rw [Cb,Da]at a0
    have a2:=r1 x
    have a3:=r2 x
    rw [Lc]at a3
    push_cast
    have b1:(k:Rat)*k1*k2*rev (ld (sqf F xs)) x=(k1:Rat)*k2*(rev (ld w) x*rev o x+rev w x*rev (ld o) x):=by rw [←a0];grind
    rw [b1]
    have b2:(k1:Rat)*k2*(rev (ld w) x*rev o x+rev w x*rev (ld o) x)=(k2:Rat)*(rev (ld w) x*((k1:Rat)*rev o x))+(k1:Rat)*(((k2:Rat)*rev w x)*rev (ld o) x):=by grind
    rw [b2,a2,a3]
    grind
  obtain⟨ε,e1,e2⟩:=Zt9 ho (Oy w) o0 hcop u v
  obtain⟨L1,l1,l2⟩:=Ez u v o
  obtain⟨L2,m1,m2⟩:=Ez u v w
  obtain⟨h',d1,-,d3⟩:=Ih (show(0:Rat)<1 by decide) (show 0<L1+L2 by grind) (show 0<ε/2 by grind)
  obtain⟨n,hn⟩:=Zdt (v-u) d1
  obtain⟨x,y,x1,x2,x3,x4,x5,x6⟩:=Zn8 (rev o) d1 n u v huv hn h
  have sx:=hk x x1 (by grind)
  have sy:=hk y (by grind) x3
  have ox:=hw x
  have oy:=hw y
  have hy0:rev o y≠0:=fun e=>by
   rw [e]at oy
   rcases Rat.mul_eq_zero.1 (show(k:Rat)*rev (sqf F xs) y=0 by grind)with t | t
   ·exact hkr t
   ·rw [t]at sy;grind
  have hoo:rev o x*rev o y<0:=by
   rcases(show rev o x*rev o y<0∨rev o x*rev o y=0 by grind)with t | t
   ·exact t
   ·rcases Rat.mul_eq_zero.1 t with t | t
    ·exact absurd t x5
    ·exact absurd t hy0
  have sxy:0<rev (sqf F xs) x*rev (sqf F xs) y:=by
   have a1:=Rat.mul_pos sx sy
   have a2:=Hs hu
   rcases(show 0<rev (sqf F xs) x*rev (sqf F xs) y∨rev (sqf F xs) x*rev (sqf F xs) y≤0 by grind)with t | t
   ·exact t
   ·have:=Rat.mul_nonneg (Rat.le_of_lt a2) (show 0≤-(rev (sqf F xs) x*rev (sqf F xs) y) by grind);grind
  have hww:rev w x*rev w y<0:=by
   have a1:(k:Rat)*k*(rev (sqf F xs) x*rev (sqf F xs) y)=(rev w x*rev w y)*(rev o x*rev o y):=by
    have:((k:Rat)*rev (sqf F xs) x)*((k:Rat)*rev (sqf F xs) y)=(rev w x*rev o x)*(rev w y*rev o y):=by rw [ox,oy]
    grind
   have a2:=Rat.mul_pos (Hs hkr) sxy
   rcases(show rev w x*rev w y<0∨0≤rev w x*rev w y by grind)with t | t
   ·exact t
   ·have:=Rat.mul_nonneg t (show 0≤-(rev o x*rev o y) by grind);grind
  have c1:=l2 x y x1 (by grind) x3
  have c2:=m2 x y x1 (by grind) x3
  have n1:=Rat.mul_nonneg (a:=L1) (b:=h'-(y-x)) (by grind) (by grind)
  have n2:=Rat.mul_nonneg (a:=L2) (b:=h'-(y-x)) (by grind) (by grind)
  have n3:=Rat.mul_nonneg (a:=L1) (b:=h') (by grind) (by grind)
  have n4:=Rat.mul_nonneg (a:=L2) (b:=h') (by grind) (by grind)
  obtain⟨b1,b2⟩:=Zjt (c:=ε/2) hoo (by grind) (by grind)
  obtain⟨b3,b4⟩:=Zjt (c:=ε/2) hww (by grind) (by grind)
  rcases e2 x x1 (by grind)with t | t
  ·unfold Big at t;grind
  ·unfold Big at t;rw [Lc]at t;grind
theorem Zjg{xs:List Int}{F:Nat}(hx:Tr xs)(h0:xs≠[])(hC:Zfh F xs){u v:Rat}(huv:u<v)(hu:rev (sqf F xs) u≠0)(hv:rev (sqf F xs) v=0):vch F xs v<vch F xs u:=by
 rcases Int.lt_or_le (vch F xs v) (vch F xs u)with q | q
 ·exact q
 ·exfalso
  have:=Za6 hx h0 hC (Rat.le_of_lt huv) q hu v (Rat.le_of_lt huv) (by grind)
  rw [hv]at this;grind
theorem Odp.ed{F n:Nat}{p o:List Int}(h:Odp F n p o):Ed o (Go.Sky.sqf F p):=by
 have hD:=Dp.start h.tr h.ne
 obtain⟨-,hE⟩:=Iv h.tr h.ne h.sz h.hn h.hl h.hF p.length (nrm p) hD (by rw [Pt h.tr];exact Nat.le_refl _)
 rw [←h.eq]at hE
 rwa [Fg hD.2.2.1]at hE
theorem sqf_z{xs:List Int}{F:Nat}(hx:Tr xs)(h0:xs≠[])(hC:Zfh F xs)(x:Rat):rev xs x=0↔rev (sqf F xs) x=0:=by
 constructor
 ·intro h
  have hd:(x.den:Int)≠0:=by exact_mod_cast x.den_nz
  have e:((x.num:Int):Rat)/((x.den:Int):Rat)=x:=by rw [←Rat.divInt_eq_div];exact Rat.num_divInt_den x
  have:=Zvv hx h0 hC.1.2.2.1 hd (r:=x.num) (by rw [e];exact h)
  rwa [e]at this
 ·intro h
  obtain⟨g,hg⟩:=rev_sqf hx h0 hC.1.2.2.1
  rw [hg x,h];grind
theorem neg_sep {F n:Nat} {p o:List Int} (h:Odp F n p o) (hC:Zfh F p) {K:Nat} {e:Nat} (sep:∀u v:Rat,-(K:Rat)≤u→u≤v→v≤(K:Rat)→v-u≤1/((2^e:Nat):Rat)→vch F p u-vch F p v≤1)
  {s t:Rat} (h1:-(K:Rat)+1≤s) (h2:t≤(K:Rat)) (hs:0≤rev p s) (ht:0≤rev p t) (hn:NegI p s t):1/((2^(e+1):Nat):Rat)<t-s:=by
 obtain⟨x,x1,x2,x3⟩:=hn
 have y1:s<x:=by rcases(show s<x∨s=x by grind)with q | q;exact q;subst q;grind
 have y2:x<t:=by rcases(show x<t∨x=t by grind)with q | q;exact q;subst q;grind
 obtain⟨f1,f2,f3,f4,f5,f6⟩:=Nh (F:=F) h.tr h.ne hC.1.2.2.1
 have hx0:rev (Go.Sky.sqf F p) x≠0:=fun z=>by have:=(sqf_z h.tr h.ne hC x).2 z;grind
 rcases(show 1/((2^(e+1):Nat):Rat)<t-s∨t-s≤1/((2^(e+1):Nat):Rat) by grind)with q | q
 ·exact q
 ·exfalso
  have hp:=two_pow_pos e
  have hp1:=two_pow_pos (e+1)
  have e2:((2^(e+1):Nat):Rat)=2*((2^e:Nat):Rat):=by rw [Nat.pow_succ];push_cast;grind
  have hi:0<((2^e:Nat):Rat)⁻¹:=Rat.inv_pos.2 hp
  have h2e:1/((2^(e+1):Nat):Rat)=((2^e:Nat):Rat)⁻¹/2:=by rw [e2];grind
  have h1e:1/((2^e:Nat):Rat)=((2^e:Nat):Rat)⁻¹:=by grind
  have hle:((2^e:Nat):Rat)⁻¹≤1:=by
   have g1:(1:Rat)≤((2^e:Nat):Rat):=by have:1≤2^e:=Nat.two_pow_pos e;exact_mod_cast this
   have g2:=Rat.mul_nonneg (a:=((2^e:Nat):Rat)-1) (b:=((2^e:Nat):Rat)⁻¹) (by grind) (by grind)
   have g3:((2^e:Nat):Rat)*((2^e:Nat):Rat)⁻¹=1:=Rat.mul_inv_cancel _ (by grind)
   grind
  obtain⟨u,u1,u2,u3⟩:∃u,s-((2^e:Nat):Rat)⁻¹/2≤u∧u≤s∧vch F p x<vch F p u:=by
   by_cases z:rev (Go.Sky.sqf F p) s=0
   ·obtain⟨δ,d1,d2⟩:=Er (Go.Sky.sqf F p).length (Go.Sky.sqf F p) (s-((2^e:Nat):Rat)⁻¹/2) (Nat.le_refl _)
    have a0:=Zfe (Go.Sky.sqf F p).length (Go.Sky.sqf F p) (s-((2^e:Nat):Rat)⁻¹/2) f2 f3 (Nat.le_refl _)
    obtain⟨u,w1,w2,w3⟩:∃u,s-((2^e:Nat):Rat)⁻¹/2<u∧u≤s-((2^e:Nat):Rat)⁻¹/2+δ∧u<s:=by
     rcases(show s-((2^e:Nat):Rat)⁻¹/2+δ<s∨s≤s-((2^e:Nat):Rat)⁻¹/2+δ by grind)with w | w
     ·exact⟨_,by grind,Rat.le_refl,w⟩
     ·exact⟨s-((2^e:Nat):Rat)⁻¹/4,by grind,by grind,by grind⟩
    have hu:rev (Go.Sky.sqf F p) u≠0:=fun c=>by have:=d2 u w1 w2;rw [c]at this;exact a0 this.symm
    have m1:=Zjg h.tr h.ne hC w3 hu z
    have m2:=Zgy h.tr h.ne hC (Rat.le_of_lt y1)
    exact⟨u,by grind,by grind,by omega⟩
   ·have hp0:0<rev p s:=by
     have:rev p s≠0:=fun c=>z ((sqf_z h.tr h.ne hC s).1 c)
     grind
    have k:=h.opp (x:=s) (y:=x) (by have:=Rat.mul_pos hp0 (show 0 < -rev p x by grind);grind)
    exact⟨s,by grind,by grind,Zon h.tr h.ne hC h.otr h.one h.ed y1 z k.1⟩
  have u4:vch F p t<vch F p x:=by
   by_cases z:rev (Go.Sky.sqf F p) t=0
   ·exact Zjg h.tr h.ne hC y2 hx0 z
   ·have hp0:0<rev p t:=by
     have:rev p t≠0:=fun c=>z ((sqf_z h.tr h.ne hC t).1 c)
     grind
    have k:=h.opp (x:=x) (y:=t) (by have:=Rat.mul_pos hp0 (show 0 < -rev p x by grind);grind)
    exact Zon h.tr h.ne hC h.otr h.one h.ed y2 hx0 k.1
  have:=sep u t (by grind) (by grind) h2 (by grind)
  omega
def Dn(xs:List Int)(m:Nat):Prop:=xs.length=0∨(xs.length+2)*(xs.length+2)*(msz xs+m+2*(xs.length-1)+32)≤65536
instance (xs:List Int) (m:Nat):Decidable (Dn xs m):=by unfold Dn;infer_instance
theorem Zv4{xs:List Int}{m:Nat}(h:xs.length=0):Value.bool (decide (Dn xs m))= .bool true:=congrArg Value.bool (decide_eq_true (.inl h))
theorem Zv5{xs:List Int}{m:Nat}{n:Int}(h:xs.length≠0)(hn:n=(((xs.length+2)*(xs.length+2)*(msz xs+m+2*(xs.length-1)+32):Nat):Int)):Value.bool (decide (Dn xs m))= .bool (decide (n≤65536)):=congrArg Value.bool (decide_eq_decide.2 (by
 subst hn
 show(xs.length=0∨_≤65536)↔_
 constructor
 ·intro h1;rcases h1 with h1 | h1
  ·exact absurd h1 h
  ·exact Int.ofNat_le.2 h1
 ·intro h1;exact .inr (Int.ofNat_le.1 h1)))
def efit(z:R2):Bool:=decide (max (bl z.1.natAbs) (bl z.2.natAbs)≤512)
def Zp9:List Int→Int
 | []=>0
 | x :: r=>if x=0 then Zp9 r else x
theorem Zob{s:Int}(h:s≠0):∀{L:List Int} {i:Nat},i<L.length→(∀k,k<i→L.getD k 0=0)→L.getD i 0=s→Zp9 L=s
 | [],i,hi,_,_=>absurd hi (by simp)
 | x :: r,0,_,_,hs=>by have e:x=s:=hs;subst e;unfold Zp9;rw [if_neg h]
 | x :: r,i+1,hi,hz,hs=>by
  have e:x=0:=hz 0 (by omega)
  unfold Zp9;rw [if_pos e]
  exact Zob h (L:=r) (i:=i) (by simpa using hi) (fun k hk=>hz (k+1) (by omega)) hs
theorem Zj5:∀{L:List Int},(∀k,k<L.length→L.getD k 0=0)→Zp9 L=0
 | [],_=>rfl
 | x :: r,hz=>by
  have e:x=0:=hz 0 (by simp)
  unfold Zp9;rw [if_pos e]
  exact Zj5 fun k hk=>hz (k+1) (by simpa using hk)
def aft(Ls:List (List Int))(m:R2):Int:=Zp9 (Ls.map (fat m.1 m.2))
def vlu(Ls:List (List Int))(m:R2):Int:=if Ls.length=0 then 0 else fat m.1 m.2 (Ls.getD 0 [])
def chv(Ls:List (List Int))(m:R2):Int:=chg (Ls.map (fat m.1 m.2))
def crb(Ls:List (List Int))(a b:R2):Bool:=if Ls.length=0 then false else decide (0<chv Ls a-chv Ls b-if fat b.1 b.2 (Ls.getD 0 [])=0 then 1 else 0)
def cmp(a b:R2):Int:=(a.1*b.2-b.1*a.2).sign
def ngb(ds cs:List (List Int))(a b:R2):Bool:=if cmp a b=0 then decide (vlu ds a<0)else(decide (aft ds a<0) || crb cs a b)
theorem Zu4(ls:List (SL×List Int))(x y:Int):aft (ls.map Prod.snd) (x,y)=Zp9 (sgx ls (fat x y)):=by unfold aft;rw [Zq6 rfl]
theorem chv_sgx(ls:List (SL×List Int))(x y:Int):chv (ls.map Prod.snd) (x,y)=chg (sgx ls (fat x y)):=by unfold chv;rw [Zq6 rfl]
theorem Zeb(ls:List (SL×List Int)){i:Nat}(h:i<ls.length):(ls.map Prod.snd).getD i []=(ls.getD i Z0).2:=by
 rw [List.getD_eq_getElem?_getD,List.getD_eq_getElem?_getD,List.getElem?_map,List.getElem?_eq_getElem h];rfl
theorem Zx8(Ls:List (List Int))(m:R2):0≤chv Ls m∧chv Ls m≤(Ls.length:Int):=by
 have:=Cs (Ls.map (fat m.1 m.2));rw [List.length_map]at this;exact this
theorem Znb{x:Rat}(h:rsg x=0):x=0:=by
 rcases Po x with⟨h5,h6⟩ | ⟨h5,h6⟩ | ⟨h5,h6⟩
 ·rw [h6]at h;exact absurd h (by decide)
 ·rw [h6]at h;exact absurd h (by decide)
 ·exact h5
theorem sgm_i{x l:Int}(hx:-1≤x∧x≤1)(hl:-1≤l∧l≤1):inI (x*l):=by
 rcases(show x=-1∨x=0∨x=1 by omega)with h | h | h<;>subst h
 ·exact⟨by omega,by omega⟩
 ·exact⟨by omega,by omega⟩
 ·exact⟨by omega,by omega⟩
theorem Zv2{x l:Int}(hx:-1≤x∧x≤1)(hl:-1≤l∧l≤1)(h:x*l<0):x=-l:=by
 rcases(show x=-1∨x=0∨x=1 by omega)with h | h | h<;>subst h<;>omega
theorem Zv1{x l:Int}(hx:-1≤x∧x≤1)(hl:-1≤l∧l≤1)(h:¬x*l<0)(h0:x≠0):¬x=-l:=by
 rcases(show x=-1∨x=0∨x=1 by omega)with h | h | h<;>subst h<;>omega
theorem Zv3{x l:Int}(h:x=0):¬x*l<0:=by subst h;omega
theorem crb_t{cs:List (SL×List Int)}{x y x2 y2:Int}(h:cs.length≠0)(h0:fat x2 y2 (cs.getD 0 Z0).2=0):Value.bool (crb (cs.map Prod.snd) (x,y) (x2,y2))= .bool (decide (0<chv (cs.map Prod.snd) (x,y)-chv (cs.map Prod.snd) (x2,y2)-1)):=by
 unfold crb;rw [List.length_map,if_neg h,Zeb _ (by omega),if_pos h0]
theorem crb_f{cs:List (SL×List Int)}{x y x2 y2:Int}(h:cs.length≠0)(h0:¬fat x2 y2 (cs.getD 0 Z0).2=0):Value.bool (crb (cs.map Prod.snd) (x,y) (x2,y2))= .bool (decide (0<chv (cs.map Prod.snd) (x,y)-chv (cs.map Prod.snd) (x2,y2))):=by
 unfold crb;rw [List.length_map,if_neg h,Zeb _ (by omega),if_neg h0,Int.sub_zero]
theorem ngb_t{ds cs:List (List Int)}{a b:R2}(h:¬cmp a b=0)(h0:aft ds a<0):Value.bool (ngb ds cs a b)= .bool true:=by
 unfold ngb;rw [if_neg h,decide_eq_true h0];rfl
theorem ngb_f{ds cs:List (List Int)}{a b:R2}(h:¬cmp a b=0)(h0:¬aft ds a<0):Value.bool (ngb ds cs a b)= .bool (crb cs a b):=by
 unfold ngb;rw [if_neg h,decide_eq_false h0];rfl
def Zmc:Nat→List Int→List (List Int)
 | 0,_=>[]
 | n+1,p=>if p.length=0 then []else p :: Zmc n (Pf p)
theorem Zoq{m:R2}(hm:0<m.2):∀(n:Nat) (p:List Int),p.length≤n→aft (Zmc n p) m=Zbn n p (qv m)
 | 0,p,hl=>rfl
 | n+1,p,hl=>by
  unfold Zmc
  by_cases h0:p.length=0
  ·rw [if_pos h0]
   have:p=[]:=List.eq_nil_of_length_eq_zero h0
   subst this
   have hz:∀n,Zbn n [] (qv m)=0:=fun n=>by
    induction n with
    | zero=>rfl
    | succ n ih=>unfold Zbn;rw [if_neg (by show ¬(0:Rat)≠0;simp)];exact ih
   rw [hz];rfl
  ·rw [if_neg h0]
   have ld':=Oj p
   have ih:=Zoq hm n (Pf p) (by omega)
   unfold aft at ih ⊢
   rw [List.map_cons]
   unfold Zp9 Zbn
   have hf:fat m.1 m.2 p=rsg (rev p (qv m)):=Zcb hm p
   rw [hf]
   by_cases hz:rev p (qv m)=0
   ·rw [if_pos (Zrg hz),if_neg (by simpa using hz)];exact ih
   ·rw [if_neg (fun e=>hz (Znb e)),if_pos hz]
variable {P:Program} {N:Nat} {sc:Nat→Prop} {env env':Env} {H H':Hp} {Q Q':Exit→Act→World→Prop}
theorem Zk7(w:World)(g:Nat)(cs:Array Value)(t:TypeId)(fr:Nat×Nat)(hg:w.heap[g]? = some (.cells cs t fr)):w.setRow g cs=w:=by
 obtain⟨hlt,hv⟩:=Array.getElem?_eq_some_iff.1 hg
 have h:(w.setRow g cs).heap=w.heap:=by
  apply Array.ext_getElem?
  intro i
  by_cases h:g=i
  ·subst h;rw [setRow_heap w g cs cs t fr hg,hg]
  ·unfold World.setRow
   dsimp only
   rw [Array.getElem?_modify,if_neg h]
 have e:w.setRow g cs={ w with heap:=(w.setRow g cs).heap }:=rfl
 rw [e,h]
theorem Zpf {M:Nat→Prop} {o:Oper} {x y:Operand} {t tb:TypeId} {i b j k:Nat} {cs:Array Value} {v:Value} {vs:List Value} (ho:o.op= .store t x y) (hd:o.dst=none)
  (hx:ev env x=some (.pointer (some ⟨b,j,none⟩))) (hy:ev env y=some v) (hH:lk H i=some (Zf5 b tb cs)) (hv:v.cells=vs.toArray) (hk:∀w,(sizeOf t).run P w= .ok k w) (hlen:vs.length=k)
  (hfit:Nat.ble (j+vs.length) cs.size=true) (h1:∀u∈vs,u.oneCell'=true) (hset:Ap cs j vs=cs) :
  T P N sc M o env H (G:=Unit) (fun _=>True) (fun _=>env) (fun _=>H):=fun a w hs K Q hK=>by
 have hb:w.heap[b]? = some (.cells cs tb (0,0)):=hs.hold i _ hH
 have hst:=run_storeCells_at P b j tb vs 0 cs w hb (by simpa using Nat.le_of_ble_eq_true hfit) h1
 simp only [Nat.add_zero]at hst
 have hr:(execOp a.eval o).run P w= .ok .skip (w.setRow b (Ap cs j vs)):=by
  simp [execOp,ho,hs.ev hx,hs.ev hy,Instr.storeAt,Instr.sureAddr,storeVar,hv,hk,hlen,hst,Ap]
 rw [hset,Zk7 w b cs tb _ hb]at hr
 unfold Oper.wp
 rw [hr]
 show K (a.put o.dst _) _
 rw [hd]
 exact hK () _ _ trivial (hs.put_none undef) (Chg.refl _ _)
theorem e_scope{c:Code}(h:E P N sc c (Exit.noGoto Q) env H):E P N sc (.scope c) Q env H:=fun a w hs=>wp_scope_straight (h a w hs)
theorem x_ngr(h:X N sc .ret Q env H):X N sc .ret (Exit.noGoto Q) env H:=h
theorem e_label{l:Nat}(h:X N sc .normal Q env H):E P N sc (.label l) Q env H:=fun a w hs=>wp_label (h a w hs)
theorem t_stp1 {M:Nat→Prop} {o:Oper} {x y:Operand} {t tb:TypeId} {i b j:Nat} {cs:Array Value} {v:Value} {w0:World} {M0:Nat→Prop} (ho:o.op= .store t x y) (hd:o.dst=none)
  (hx:ev env x=some (.pointer (some ⟨b,j,none⟩))) (hy:ev env y=some v) (hH:lk H i=some (box b tb cs)) (hk:∀w,(sizeOf t).run P w= .ok 1 w) (hfit:Nat.ble (j+1) cs.size=true) (h1:One N sc env H v)
  (h0:lk H 0=some (Ip w0 M0)) (hw:∀b,w0.heap.size≤b→sc b) (hM:M b) (hi0:i≠0:=by decide) :
  T P N sc M o env H (G:=Unit) (fun _=>True) (fun _=>env) (fun _=>(i,box b tb (Ap cs j [v])) :: H):=fun a w hs=>
 Zk0 (cs':=#[]) (vs:=[v]) ho hd hx hy hH hi0 (Md (h1 a w hs)) hk rfl hfit ⟨h1,trivial⟩ h0 hw hM a w hs
theorem pre_dZ{v:Value}{zs:List (SL×List Int)}{al:Bool}{r:List Pc}{z:SL×List Int}(i:Nat)(hi:lk H i=some (Au 1 Bh (fun y:SL×List Int=>slp 2 wv (svv y.1) y.2) v zs))(hi0:Nat.beq i 0=false)(hz:z∈zs)(h:PreOk H al r):PreOk H al (slp 2 wv (svv z.1) z.2 :: r):=Zno (q:=fun y:SL×List Int=>slp 2 wv (svv y.1) y.2) (z:=z) i hi hi0 hz h
theorem d_lr2 {o:Oper} {x:Operand} {t tb:TypeId} {i b j:Nat} {cs:Array Value} {v0 v1:Value} (ho:o.op= .load t x) (hx:ev env x=some (.pointer (some ⟨b,j,none⟩))) (hH:lk H i=some (Zf5 b tb cs)) (ht:∀w,(isAgg t).run P w= .ok true w) (hk:∀w,(sizeOf t).run P w= .ok 2 w)
  (h0:cs[j]? = some v0) (h1:cs[j+1]? = some v1):Det P N sc o env H (.agg #[v0,v1]):=
 d_lra (vs:=[v0,v1]) ho hx hH ht hk rfl (fun n u hn=>by
  match n,hn with
  | 0,hn=>simp at hn;subst hn;exact h0
  | 1,hn=>simp at hn;subst hn;exact h1)
end Go.Sky

