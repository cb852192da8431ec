/- Rules, arithmetic and contracts: part 15. No conditions but those that each theorem names. -/
import Derived.Test.YtcmiiammekgooaaGreatSp13
import Derived.Scope
set_option linter.all false
namespace Go.Sky
theorem Ed.const{g a:List Int}(h:Ed g a)(hg:Tr g)(ha:Tr a)(h0:a≠[])(hl:g.length=a.length):∃k c:Int,k≠0∧c≠0∧∀x:Rat,(k:Rat)*Zu a x=(c:Rat)*Zu g x:=by
 obtain⟨k,s,hk,h⟩:=h
 obtain⟨a1,a2,a3⟩:=Zt2 hk hg ha h0 h
 have hl1:=List.length_pos_iff.2 a2
 match hs:tzl s,hl1,a3 with
 | [c],_,_=>
  have hc:c≠0:=by have:=(Nk s).mem a2;rw [hs]at this;exact this
  refine⟨k,c,hk,hc,fun x=>?_⟩
  rw [h x,←Kf s,hs,Nn]
 | c :: d :: r,_,h9=>simp at h9;omega
theorem Zkf(p:List Int)(c:Int)(x:Rat):Zu (Xm p c) x=(c:Rat)*Zu p x:=by
 rw [←Yn];exact Kd x _ _ fun i=>by rw [Qd,Og,Int.mul_comm]
theorem Zm0{p:List Int}{c:Int}(hp:Tr p)(h0:p≠[])(hc:c≠0):Xm p c≠[]:=fun e=>by
 have h1:=Qd p c (p.length-1)
 rw [e,Zci]at h1
 exact Int.mul_ne_zero (hp.mem h0) hc h1.symm
theorem Ed.dv{g a:List Int}(h:Ed g a):Dv g a:=by
 obtain⟨k,s,hk,h⟩:=h
 refine⟨k,s,hk,fun t=>?_⟩
 have:=Lp (p:=a.map fun c=>k*c) (q:=Oo s g) (fun x=>by rw [Yn,Xo];exact h x) t
 rw [Og,Fa]at this
 exact this
theorem ed_cop{t u w s:List Int}{k:Int}(hk:k≠0)(ht:Tr t)(hw:Tr w)(t0:t≠[])(hc:∀d,Tr d→Ed d t→Ed d w→d.length≤1)(h:∀x:Rat,(k:Rat)*(Zu u x*Zu w x)=Zu s x*Zu t x):Ed t u:=by
 obtain⟨g,A,B,hg,g1,g2,hb⟩:=Zlu w.length t w ht hw (Nat.le_refl _)
 have hl:=hc g hg g1 g2
 have hgn:=(g1.len hg ht t0).1
 match hgg:g,hl,hgn with
 | [c],_,_=>
  have hc0:c≠0:=by have:=hg.mem (by simp);exact this
  refine⟨k*c,Ko ((Oo A u).map fun a=>k*a) (Oo B s),Int.mul_ne_zero hk hc0,fun x=>?_⟩
  rw [Qz,Yn,Xo,Xo]
  have h1:=hb x
  rw [Nn]at h1
  have h2:=h x
  push_cast
  rw [show(k:Rat)*c*Zu u x=k*(Zu u x*(c:Rat)) by grind,h1]
  have h3:(k:Rat)*(Zu u x*(Zu A x*Zu t x+Zu B x*Zu w x))=k*Zu A x*Zu u x*Zu t x+Zu B x*(k*(Zu u x*Zu w x)):=by grind
  rw [h3,h2];grind
 | c :: d :: r,h9,_=>simp at h9
def Ns(F:Nat)(p:List Int):List Int:=Mp F (Qa p) (Xy (Qa p))
def Di(F:Nat)(p:List Int):Prop:=eok F (gA (Qa p) (Xy (Qa p))) (gB (Qa p) (Xy (Qa p)))
theorem Oz{F:Nat}{p:List Int}(hp:Tr p)(h0:p≠[])(hok:Di F p):Tr (Ns F p)∧Ns F p≠[]∧Qa (Ns F p)=Ns F p∧Qa p=Oo (sqf F p) (Ns F p)∧(sqf F p).length+(Ns F p).length=p.length+1:=by
 obtain⟨f1,f2,f3,f4,f5,f6⟩:=Mf (F:=F) hp h0 hok
 have ht:Tr (Qa p):=Mm (Xu hp)
 have hd:Tr (Xy (Qa p)):=Mv ht
 have hg:=Zdv (F:=F) ht hd
 have hl:=Nv f2 hg f3 f5
 rw [←f4,Nf hp]at hl
 have l1:=List.length_pos_iff.2 f3
 have l2:=List.length_pos_iff.2 f5
 refine⟨hg,f5,Ztq hg (Zkq ht hd f5) (Ao (Zle F (Zh8 ht hd) (Zh7 ht hd)) (fun e=>f5 (by unfold Mp;rw [e];rfl))),f4,?_⟩
 unfold Ns;omega
theorem Yem{a b h:List Int}(hh:Tr h)(h0:h≠[]){k m:Int}(e:∀x:Rat,(k:Rat)*(Zu a x*Zu h x)=(m:Rat)*(Zu b x*Zu h x))(x:Rat):(k:Rat)*Zu a x=(m:Rat)*Zu b x:=by
 have hz:=Dh (v:=h) (f:=Ko (a.map fun c=>k*c) (b.map fun c=>(-m)*c)) (by rw [Zbw hh];exact h0) (fun x=>by
  rw [Qz,Yn,Yn];have:=e x;push_cast;grind) x
 rw [Qz,Yn,Yn]at hz
 push_cast at hz;grind
theorem Zvu{F:Nat}{p:List Int}(hp:Tr p)(h0:p≠[])(hok:Di F p)(hok2:Di F (Ns F p)):Ed (sqf F (Ns F p)) (sqf F p):=by
 obtain⟨a1,a2,a3,a4,a5⟩:=Oz hp h0 hok
 obtain⟨b1,b2,b3,b4,b5⟩:=Oz a1 a2 hok2
 obtain⟨-,u2,u3,-,-,-⟩:=Mf (F:=F) hp h0 hok
 obtain⟨-,t2,t3,-,-,-⟩:=Mf (F:=F) a1 a2 hok2
 have ht:Tr (Qa p):=Mm (Xu hp)
 have e1:Ed (Ns F p) (Xy (Qa p)):=(Zd7 ht (Mv ht) hok).2.ed
 have e2:Ed (Ns F (Ns F p)) (Xy (Ns F p)):=by
  have:=(Zd7 (F:=F) (p:=Qa (Ns F p)) (q:=Xy (Qa (Ns F p))) (by rw [a3];exact a1) (Mv (by rw [a3];exact a1)) hok2).2.ed
  have h9:Ns F (Ns F p)=Mp F (Qa (Ns F p)) (Xy (Qa (Ns F p))):=rfl
  rw [←h9,a3]at this
  exact this
 have hgr:∀d,Tr d→Ed d (Ns F p)→Ed d (Xy (Ns F p))→Ed d (Ns F (Ns F p)):=fun d hd h1 h2=>by
  unfold Ns at *
  have:=Zko (F:=F) (d:=d) (p:=Qa (Mp F (Qa p) (Xy (Qa p)))) (q:=Xy (Qa (Mp F (Qa p) (Xy (Qa p))))) (by rw [a3];exact a1) (Mv (by rw [a3];exact a1)) (by rw [a3];exact h1) (by rw [a3];exact h2)
  exact this
 rw [a3]at b4
 generalize hg:Ns F p=g at *
 generalize hh:Ns F g=h at *
 generalize hu:sqf F p=u at *
 generalize htt:sqf F g=t at *
 obtain⟨k,s,hk,hks⟩:=e1
 obtain⟨m,w,hm,hmw⟩:=e2
 have hP:∀x:Rat,Zu (Qa p) x=Zu (Nb u g) x:=fun x=>by rw [a4,Xo,Xe]
 have hG:∀x:Rat,Zu g x=Zu (Nb t h) x:=fun x=>by
  have:Zu g x=Zu (Oo t h) x:=by rw [←b4]
  rw [this,Xo,Xe]
 have hd1:∀x:Rat,Zu (Xy (Qa p)) x=Zu (ld u) x*Zu g x+Zu u x*Zu (ld g) x:=fun x=>by rw [Ha,Cv hP,Br]
 have hd2:∀x:Rat,(m:Rat)*Zu (ld g) x=Zu w x*Zu h x:=fun x=>by rw [←Ha];exact hmw x
 have key:∀x:Rat,(k:Rat)*(Zu (Oo u w) x*Zu h x)=(m:Rat)*(Zu (Oo (Ko s ((ld u).map fun c=>(-k)*c)) t) x*Zu h x):=fun x=>by
  rw [Xo,Xo,Qz,Yn]
  have h1:=hks x;have h2:=hd1 x;have h3:=hd2 x;have h4:=hG x
  rw [Xe]at h4
  rw [h2]at h1
  have:(k:Rat)*(Zu u x*Zu w x*Zu h x)=Zu u x*k*(Zu w x*Zu h x):=by grind
  rw [this,←h3]
  push_cast
  have:Zu u x*(k:Rat)*(m*Zu (ld g) x)=m*(k*(Zu (ld u) x*Zu g x+Zu u x*Zu (ld g) x)-k*Zu (ld u) x*Zu g x):=by grind
  rw [this,h1,h4];grind
 have key2:=Yem b1 b2 key
 refine ed_cop (s:=(Oo (Ko s ((ld u).map fun c=>(-k)*c)) [m])) hk t2 (w:=tzl w) (Nk w) t3 (fun d hd h1 h2=>?_) (fun x=>?_)
 ·have h2':Ed d w:=h2.congr fun x=>Kf w x
  have hdh:Ed (Oo d h) h:=hgr _ (Oj _ _) (by
   obtain⟨k1,s1,hk1,e1⟩:=h1
   exact⟨k1,s1,hk1,fun x=>by rw [hG x,Xe,Xo];have:=e1 x;grind⟩) (by
   obtain⟨k1,s1,hk1,e1⟩:=h2'
   exact⟨k1*m,s1,Int.mul_ne_zero hk1 hm,fun x=>by rw [Ha,Xo];have:=e1 x;have:=hd2 x;push_cast;grind⟩)
  have d0:=(h1.len hd t2 t3).1
  have hl:=Nv hd b1 d0 b2
  have:=(hdh.len (Oj _ _) b1 b2).2
  have l2:=List.length_pos_iff.2 b2
  omega
 ·rw [Kf,Xo,Nn]
  have:=key2 x
  rw [Xo,Xo]at this
  rw [this];grind
theorem Zx5{u t:List Int}(hu:Tr u)(u0:u≠[])(ht:Tr t)(t0:t≠[])(hn:Qa t=t)(h:Ed t u):pdv u t∧u=Oo (Kt u t) t∧Tr (Kt u t)∧Kt u t≠[]:=by
 have hc:Qc t=1:=by have:=Zbc ht t0;rwa [hn]at this
 obtain⟨k,s,hk,h⟩:=h.dv
 obtain⟨q,hq⟩:=gauss hc _ k s rfl hk h
 have hqe:u=Oo (tzl q) t:=hu.ext (Oj _ _) fun i=>by rw [Fa,hq,Zom]
 obtain⟨p1,p2⟩:=Zou (Nk q) ht t0
 rw [←hqe]at p1 p2
 rw [p2]
 exact⟨p1,hqe,Nk q,fun e=>u0 (by rw [hqe,e,Ec])⟩
theorem Zla{F:Nat}{p:List Int}(hp:Tr p)(h0:p≠[])(hok:Di F p)(h2:2≤p.length):(Ns F p).length<p.length:=by
 obtain⟨a1,a2,-⟩:=Oz hp h0 hok
 have ht:Tr (Qa p):=Mm (Xu hp)
 have e1:Ed (Ns F p) (Xy (Qa p)):=(Zd7 ht (Mv ht) hok).2.ed
 have hl:=Nq (Qa p)
 have hn:=Nf hp
 have:=(e1.len a1 (Mv ht) (fun e=>by rw [e]at hl;simp at hl;omega)).2
 omega
theorem Ye5{p:List Int}(hp:Tr p)(hn:Qa p=p)(hl:p.length=1):p=[1]:=by
 have h0:p≠[]:=fun e=>by rw [e]at hl;simp at hl
 have hc:=Zbc hp h0
 have hd:0<cf (Qa p) ((Qa p).length-1):=Ao (Xu hp) (fun e=>h0 (List.eq_nil_of_length_eq_zero (by rw [←Yv,e];rfl)))
 rw [hn]at hc hd
 match p,hl with
 | [c],_=>
  have hd':0<c:=hd
  have h1:c∣Qc [c]:=Et fun i=>by
   match i with
   | 0=>exact Int.dvd_refl c
   | i+1=>rw [Xt (by simp)];exact Int.dvd_zero c
  rw [hc]at h1
  have:=Int.le_of_dvd (by decide) h1
  rw [show c=1 by omega]
def Dp(p q:List Int):Prop:=Tr q∧q≠[]∧Qa q=q∧∃a,Tr a∧Qa p=Oo a q
theorem Dp.start{p:List Int}(hp:Tr p)(h0:p≠[]):Dp p (Qa p):=
 ⟨Mm (Xu hp),Zhy hp h0,Ztq (Mm (Xu hp)) (Zbc hp h0) (Ao (Xu hp) (fun e=>h0 (List.eq_nil_of_length_eq_zero (by rw [←Yv,e];rfl)))),[1],.inr (show cf [1] 0≠0 by decide),by
  refine(Mm (Xu hp)).ext (Oj _ _) fun i=>?_
  rw [Fa,Zre];rfl⟩
theorem Dp.sz{p q:List Int}{n:Nat}(hp:Tr p)(h0:p≠[])(hs:Sz n p)(hl:p.length≤13)(h:Dp p q):Sz (n+130) q∧q.length≤p.length:=by
 obtain⟨h1,h2,h3,a,ha,e⟩:=h
 have hK:kkR 24 13*(24+1)^13<2^130:=by decide +kernel
 have hln:=Nf hp
 have hn0:=Zhy hp h0
 have ht:Tr (Qa p):=Mm (Xu hp)
 have a0:a≠[]:=fun e2=>hn0 (by rw [e,e2,Ec])
 refine⟨Eg (L:=13) (R:=24) h1 ha (Zn0 hs) hn0 ht (by omega) (by decide) hK (by rw [Bz];exact e),?_⟩
 have hlq:=Nv ha h1 a0 h2
 rw [←e,hln]at hlq
 have:=List.length_pos_iff.2 a0
 omega
theorem Dp.ok{p q:List Int}{n F:Nat}(hp:Tr p)(h0:p≠[])(hs:Sz n p)(hn:n≤130)(hl:p.length≤13)(hF:p.length≤F+1)(h:Dp p q):Az F q∧Di F q:=by
 obtain⟨s1,s2⟩:=h.sz hp h0 hs hl
 have:=(chF F h.1 h.2.1 s1 (by omega) (by omega) (by omega)).1
 exact⟨this,this.1.2.2.1⟩
theorem Dp.next{p q:List Int}{F:Nat}(h:Dp p q)(hok:Di F q):Dp p (Ns F q):=by
 obtain⟨h1,h2,h3,a,ha,e⟩:=h
 obtain⟨a1,a2,a3,a4,a5⟩:=Oz h1 h2 hok
 refine⟨a1,a2,a3,Oo a (sqf F q),Oj _ _,?_⟩
 rw [h3]at a4
 refine e.trans ((congrArg (Oo a) a4).trans ?_)
 refine(Oj _ _).ext (Oj _ _) fun i=>Lp (fun x=>?_) i
 rw [Xo,Xo,Xo,Xo];grind
def Bd(F:Nat):Nat→List Int→List Int
 | 0,p=>sqf F p
 | f+1,p=>if(sqf F p).length=1 then sqf F p else Oo (Kt (sqf F p) (sqf F (Ns F p))) (Bd F f (Ns F (Ns F p)))
def Zoy(F:Nat):Nat→List Int→List Int→List Int
 | 0,out,_=>out
 | f+1,out,q=>if(sqf F q).length=1 then out else if(sqf F (Ns F q)).length=1 then Oo out (Kt (sqf F q) (sqf F (Ns F q)))else Zoy F f (Oo out (Kt (sqf F q) (sqf F (Ns F q)))) (Ns F (Ns F q))
theorem Zf1{F:Nat}{q:List Int}(hq:Tr q)(h0:q≠[])(hok:Di F q)(h:(sqf F q).length=1):sqf F q=[1]∧q.length=1∧(Ns F q).length=1:=by
 obtain⟨f1,f2,f3,f4,f5,f6⟩:=Mf (F:=F) hq h0 hok
 obtain⟨a1,a2,a3,a4,a5⟩:=Oz hq h0 hok
 have l0:=List.length_pos_iff.2 h0
 have hl:q.length=1:=by
  rcases Nat.lt_or_ge q.length 2 with h2 | h2
  ·omega
  ·have:=Zla hq h0 hok h2;omega
 exact⟨Ye5 f2 f6 h,hl,by omega⟩
theorem Zos{p:List Int}(hp:Tr p):Oo p [1]=p:=by
 refine(Oj _ _).ext hp fun i=>Lp (fun x=>?_) i
 rw [Xo,Nn];push_cast;grind
theorem Ya9{F:Nat}{q:List Int}(hq:Tr q)(h0:q≠[])(hok:Di F q)(h:q.length=1):∀f,Bd F f q=[1]:=fun f=>by
 obtain⟨f1,f2,f3,f4,f5,f6⟩:=Mf (F:=F) hq h0 hok
 obtain⟨a1,a2,a3,a4,a5⟩:=Oz hq h0 hok
 have l1:=List.length_pos_iff.2 f3
 have l2:=List.length_pos_iff.2 a2
 have hs:(sqf F q).length=1:=by omega
 have:=(Zf1 hq h0 hok hs).1
 cases f with
 | zero=>exact this
 | succ f=>unfold Bd;rw [if_pos hs];exact this
theorem Zjb{F:Nat}{p:List Int}{f:Nat}{q:List Int}(hq:Tr q)(h0:q≠[])(hok:Di F q):Tr (Bd F f q):=by
 obtain⟨f1,f2,f3,f4,f5,f6⟩:=Mf (F:=F) hq h0 hok
 cases f with
 | zero=>exact f2
 | succ f=>unfold Bd;split;exact f2;exact Oj _ _
theorem Zvw{F n:Nat}{p:List Int}(hp:Tr p)(h0:p≠[])(hs:Sz n p)(hn:n≤130)(hl:p.length≤13)(hF:p.length≤F+1):∀(f:Nat) (out q:List Int),Tr out→Dp p q→q.length≤f→Zoy F f out q=Oo out (Bd F f q):=by
 intro f
 induction f with
 | zero=>intro out q _ hq hlq;have:=List.length_pos_iff.2 hq.2.1;omega
 | succ f ih=>
  intro out q ho hq hlq
  have hok:=(hq.ok hp h0 hs hn hl hF).2
  have hg:=hq.next hok
  have hok2:=(hg.ok hp h0 hs hn hl hF).2
  have hg2:=hg.next hok2
  have hok3:=(hg2.ok hp h0 hs hn hl hF).2
  unfold Zoy Bd
  by_cases c1:(sqf F q).length=1
  ·rw [if_pos c1,if_pos c1,(Zf1 hq.1 hq.2.1 hok c1).1,Zos ho]
  ·rw [if_neg c1,if_neg c1]
   have lq:2≤q.length:=by
    obtain⟨f1,f2,f3,f4,f5,f6⟩:=Mf (F:=F) hq.1 hq.2.1 hok
    obtain⟨a1,a2,a3,a4,a5⟩:=Oz hq.1 hq.2.1 hok
    have l1:=List.length_pos_iff.2 f3
    have l2:=List.length_pos_iff.2 a2
    omega
   have lt1:=Zla hq.1 hq.2.1 hok lq
   obtain⟨-,-,-,-,b5⟩:=Oz hg.1 hg.2.1 hok2
   obtain⟨-,b2,b3,-,-,-⟩:=Mf (F:=F) hg.1 hg.2.1 hok2
   have lb:=List.length_pos_iff.2 b3
   by_cases c2:(sqf F (Ns F q)).length=1
   ·obtain⟨s1,s2,s3⟩:=Zf1 hg.1 hg.2.1 hok2 c2
    rw [if_pos c2,Ya9 hg2.1 hg2.2.1 hok3 s3]
    refine(Oj _ _).ext (Oj _ _) fun i=>Lp (fun x=>?_) i
    rw [Xo,Xo,Xo,Nn];push_cast;grind
   ·rw [if_neg c2,ih _ _ (Oj _ _) hg2 (by omega)]
    refine(Oj _ _).ext (Oj _ _) fun i=>Lp (fun x=>?_) i
    rw [Xo,Xo,Xo,Xo];grind
theorem Ztm{q:List Int}{e:Int}(he:e=1∨e=-1)(h:Qc q=1):Qc (Xm q e)=1:=by
 have h1:Qc (Xm q e)∣Qc q:=Et fun i=>by
  have:=Kn (Xm q e) i
  rw [Qd]at this
  rcases he with rfl | rfl
  ·rwa [Int.mul_one]at this
  ·rw [Int.mul_neg_one]at this;exact(Int.dvd_neg.1 this)
 rw [h]at h1
 have h2:=Lq (Xm q e)
 have h3:=Int.le_of_dvd (by decide) h1
 rcases(show Qc (Xm q e)=0∨Qc (Xm q e)=1 by omega)with h4 | h4
 ·rw [h4]at h1;exact absurd (Int.zero_dvd.1 h1) (by decide)
 ·exact h4
theorem Ya6{q:List Int}(h:Qc q=1):Yx q=q:=by
 unfold Yx;rw [h];simp
theorem Zqq{F:Nat}{q:List Int}{e:Int}(hq:Tr q)(q0:q≠[])(hn:Qa q=q)(hok:Di F q)(he:e=1∨e=-1) :
  Tr (Xm q e)∧Xm q e≠[]∧Qa (Xm q e)=q∧Yx (Xm q e)=Xm q e∧pdv (Xm q e) (sqf F q)∧Kt (Xm q e) (sqf F q)=Xm (Ns F q) e:=by
 have e0:e≠0:=by rcases he with rfl | rfl<;>decide
 obtain⟨f1,f2,f3,f4,f5,f6⟩:=Mf (F:=F) hq q0 hok
 obtain⟨a1,a2,a3,a4,a5⟩:=Oz hq q0 hok
 have hc:Qc q=1:=by have:=Zbc hq q0;rwa [hn]at this
 rw [hn]at a4
 have hw:Xm q e=Oo (Xm (Ns F q) e) (sqf F q):=by
  refine(Ob _ _).ext (Oj _ _) fun i=>Lp (fun x=>?_) i
  have:Zu q x=Zu (Oo (sqf F q) (Ns F q)) x:=by rw [←a4]
  rw [Zkf,Xo,Zkf,this,Xo];grind
 obtain⟨p1,p2⟩:=Zou (Ob (Ns F q) e) f2 f3
 rw [←hw]at p1 p2
 exact⟨Ob _ _,Zm0 hq q0 e0,by rw [Zo0 (Ob _ _) hq (Ze7 q e0).symm,hn],Ya6 (Ztm he hc),p1,p2⟩
theorem Ya5{p:List Int}(hp:Tr p)(h0:p≠[]):∃e:Int,(e=1∨e=-1)∧Yx p=Xm (Qa p) e:=by
 by_cases h:cf (Yx p) ((Yx p).length-1)<0
 ·refine⟨-1,.inr rfl,?_⟩
  rw [Zje (fun e=>h0 (List.eq_nil_of_length_eq_zero (by rw [←Yv,e]))) h]
  refine(Xu hp).ext (Ob _ _) fun i=>?_
  rw [Qd,Qd];omega
 ·refine⟨1,.inl rfl,?_⟩
  rw [Zjd h]
  refine(Xu hp).ext (Ob _ _) fun i=>?_
  rw [Qd];omega
def Mo(F:Nat)(p:List Int):List Int:=Kt (Xm (Yx p) 1) (sqf F p)
def Ah(F:Nat)(p:List Int):List Int:=Kt (Yx (Mo F p)) (sqf F (Mo F p))
def Zc6(F:Nat):Nat→List Int→List Int
 | 0,p=>sqf F p
 | f+1,p=>if(sqf F p).length=1 then sqf F p else Oo (Kt (sqf F p) (sqf F (Mo F p))) (Zc6 F f (Ah F p))
theorem Cj{F:Nat}{p q:List Int}(h:Qa p=Qa q):sqf F p=sqf F q:=by unfold sqf;rw [h]
theorem Zjg{F:Nat}{p q:List Int}(h:Qa p=Qa q):Ns F p=Ns F q:=by unfold Ns;rw [h]
theorem Zkn{F:Nat}{p q:List Int}(h:Qa p=Qa q):∀f,Bd F f p=Bd F f q
 | 0=>Cj h
 | f+1=>by unfold Bd;rw [Cj h,Zjg h]
theorem Zkd{F:Nat}{p:List Int}(hp:Tr p)(h0:p≠[])(hok:Di F p)(hok2:Di F (Ns F p)) :
  (∃e:Int,(e=1∨e=-1)∧Xm (Yx p) 1=Xm (Qa p) e∧pdv (Xm (Qa p) e) (sqf F p)∧Mo F p=Xm (Ns F p) e∧Yx (Mo F p)=Mo F p∧pdv (Mo F p) (sqf F (Ns F p))∧Ah F p=Xm (Ns F (Ns F p)) e)∧
  Qa (Mo F p)=Ns F p∧Qa (Ah F p)=Ns F (Ns F p)∧Tr (Mo F p)∧Mo F p≠[]∧Tr (Ah F p)∧Ah F p≠[]:=by
 obtain⟨b1,b2,b3,-⟩:=Dp.start hp h0
 have hok':Di F (Qa p):=by unfold Di;rw [b3];exact hok
 have hgn:Ns F (Qa p)=Ns F p:=Zjg b3
 have hsn:sqf F (Qa p)=sqf F p:=Cj b3
 obtain⟨e,he,hpe⟩:=Ya5 hp h0
 have hp1:Xm (Yx p) 1=Xm (Qa p) e:=by
  rw [hpe];refine(Ob _ _).ext (Ob _ _) fun i=>?_
  rw [Qd,Int.mul_one]
 obtain⟨-,-,-,-,c5,c6⟩:=Zqq b1 b2 b3 hok' he
 rw [hgn,hsn]at c6
 rw [hsn]at c5
 have hl:Mo F p=Xm (Ns F p) e:=by unfold Mo;rw [hp1,c6]
 obtain⟨a1,a2,a3,-,-⟩:=Oz hp h0 hok
 obtain⟨d1,d2,d3,d4,d5,d6⟩:=Zqq a1 a2 a3 hok2 he
 rw [←hl]at d1 d2 d3 d4 d5 d6
 have hsl:sqf F (Mo F p)=sqf F (Ns F p):=Cj (by rw [d3,a3])
 have hr:Ah F p=Xm (Ns F (Ns F p)) e:=by unfold Ah;rw [d4,hsl,d6]
 obtain⟨g1,g2,g3,-,-⟩:=Oz a1 a2 hok2
 have e0:e≠0:=by rcases he with rfl | rfl<;>decide
 refine⟨⟨e,he,hp1,c5,hl,d4,d5,hr⟩,d3,?_,d1,d2,?_,?_⟩
 ·rw [hr,Zo0 (Ob _ _) g1 (Ze7 _ e0).symm,g3]
 ·rw [hr];exact Ob _ _
 ·rw [hr];exact Zm0 g1 g2 e0
theorem Zve{F n:Nat}{p:List Int}(hp:Tr p)(h0:p≠[])(hs:Sz n p)(hn:n≤130)(hl:p.length≤13)(hF:p.length≤F+1):∀(f:Nat) (q:List Int),Tr q→q≠[]→Dp p (Qa q)→Zc6 F f q=Bd F f q:=by
 intro f
 induction f with
 | zero=>intro q _ _ _;rfl
 | succ f ih=>
  intro q hq q0 hD
  have hok:=(hD.ok hp h0 hs hn hl hF).2
  have hok':Di F q:=by unfold Di at hok ⊢;rwa [hD.2.2.1]at hok
  have hg:=hD.next hok
  rw [Zjg hD.2.2.1]at hg
  have hok2:=(hg.ok hp h0 hs hn hl hF).2
  have hg2:=hg.next hok2
  obtain⟨-,r1,r2,r3,r4,r5,r6⟩:=Zkd hq q0 hok' hok2
  unfold Zc6 Bd
  have a3:=hg.2.2.1
  rw [Cj (show Qa (Mo F q)=Qa (Ns F q) by rw [r1,a3]),ih _ r5 r6 (by rw [r2];exact hg2),Zkn (show Qa (Ah F q)=Qa (Ns F (Ns F q)) by rw [r2,hg2.2.2.1])]
def Bi(F:Nat)(q:List Int):List Int:=Kt (sqf F q) (sqf F (Ns F q))
theorem Cy{F:Nat}{q:List Int}(hq:Tr q)(q0:q≠[])(hok:Di F q)(hok2:Di F (Ns F q)):pdv (sqf F q) (sqf F (Ns F q))∧sqf F q=Oo (Bi F q) (sqf F (Ns F q))∧Tr (Bi F q)∧Bi F q≠[]:=by
 obtain⟨f1,f2,f3,f4,f5,f6⟩:=Mf (F:=F) hq q0 hok
 obtain⟨a1,a2,a3,a4,a5⟩:=Oz hq q0 hok
 obtain⟨-,t2,t3,-,-,t6⟩:=Mf (F:=F) a1 a2 hok2
 exact Zx5 f2 f3 t2 t3 t6 (Zvu hq q0 hok hok2)
theorem Ztx{p a b:List Int}{n:Nat}(hp:Tr p)(h0:p≠[])(hs:Sz n p)(hl:p.length≤13)(ha:Tr a)(hb:Tr b)(e:Qa p=Oo a b):Sz (n+130) b∧b.length≤p.length∧b≠[]:=by
 have hK:kkR 24 13*(24+1)^13<2^130:=by decide +kernel
 have hln:=Nf hp
 have hn0:=Zhy hp h0
 have ht:Tr (Qa p):=Mm (Xu hp)
 have a0:a≠[]:=fun e2=>hn0 (by rw [e,e2,Ec])
 have b0:b≠[]:=fun e2=>hn0 (by rw [e,e2,Zfb])
 refine⟨Eg (L:=13) (R:=24) hb ha (Zn0 hs) hn0 ht (by omega) (by decide) hK (by rw [Bz];exact e),?_,b0⟩
 have hlq:=Nv ha hb a0 b0
 rw [←e,hln]at hlq
 have:=List.length_pos_iff.2 a0
 omega
def Op(p out q:List Int):Prop:=∃a,Tr a∧Qa p=Oo a (Oo out q)
theorem Op.start{p:List Int}(hp:Tr p):Op p [1] (Qa p):=⟨[1],.inr (show cf [1] 0≠0 by decide),by
 refine(Mm (Xu hp)).ext (Oj _ _) fun i=>Lp (fun x=>?_) i
 rw [Xo,Xo,Nn];push_cast;show Zu (Qa p) x=_;grind⟩
theorem Op.next{p out q:List Int}{F:Nat}(hq:Tr q)(q0:q≠[])(hn:Qa q=q)(hok:Di F q)(hok2:Di F (Ns F q))(h:Op p out q):Op p (Oo out (Bi F q)) (Ns F (Ns F q)):=by
 obtain⟨a,ha,e⟩:=h
 obtain⟨-,o2,o3,o4⟩:=Cy hq q0 hok hok2
 obtain⟨a1,a2,a3,a4,a5⟩:=Oz hq q0 hok
 obtain⟨-,-,-,b4,-⟩:=Oz a1 a2 hok2
 rw [hn]at a4
 rw [a3]at b4
 refine⟨Oo a (Oo (sqf F (Ns F q)) (sqf F (Ns F q))),Oj _ _,e.trans ?_⟩
 refine(Oj _ _).ext (Oj _ _) fun i=>Lp (fun x=>?_) i
 have e1:Zu q x=Zu (sqf F q) x*Zu (Ns F q) x:=by rw [←Xo,←a4]
 have e2:Zu (sqf F q) x=Zu (Bi F q) x*Zu (sqf F (Ns F q)) x:=by rw [←Xo,←o2]
 have e3:Zu (Ns F q) x=Zu (sqf F (Ns F q)) x*Zu (Ns F (Ns F q)) x:=by rw [←Xo,←b4]
 simp only [Xo]
 rw [e1,e2]
 rw [e3]
 generalize Zu (sqf F (Ns F q)) x=A
 generalize Zu (Ns F (Ns F q)) x=B
 grind
theorem Op.sz{p out q:List Int}{n:Nat}(hp:Tr p)(h0:p≠[])(hs:Sz n p)(hl:p.length≤13)(ho:Tr out)(hq:Tr q)(h:Op p out q):Sz (n+130) out∧out.length≤p.length∧out≠[]:=by
 obtain⟨a,ha,e⟩:=h
 exact Ztx hp h0 hs hl (Oj a q) ho (e.trans ((Oj _ _).ext (Oj _ _) fun i=>Lp (fun x=>by rw [Xo,Xo,Xo,Xo];grind) i))
theorem Zvr{p:List Int}(hp:Tr p):Oo [1] p=p:=by rw [Bz];exact Zos hp
theorem Ybn{F n:Nat}{p:List Int}(hp:Tr p)(h0:p≠[])(hs:Sz n p)(hn:n≤130)(hl:p.length≤13)(hF:p.length≤F+1):Zoy F p.length [1] (Qa p)=Zc6 F p.length p:=by
 have hD:=Dp.start hp h0
 have hok:=(hD.ok hp h0 hs hn hl hF).2
 rw [Zvw hp h0 hs hn hl hF p.length [1] (Qa p) (.inr (show cf [1] 0≠0 by decide)) hD (by rw [Nf hp];exact Nat.le_refl _),Zvr (Zjb (p:=p) hD.1 hD.2.1 hok),Zve hp h0 hs hn hl hF p.length p hp h0 hD]
 exact Zkn hD.2.2.1 _
theorem Zjw{xs:List Int}{F:Nat}(hx:Tr xs)(h0:xs≠[])(hC:Az F xs){s t:Rat}(hst:s≤t):vch F xs t≤vch F xs s:=Zln hx h0 hC hst
theorem Sqn.imp{P P':R2→R2→Prop}{hi:Rat}(hp:∀x y,P x y→P' x y):∀{lo:Rat} {l:List (R2×R2)},Sqn P hi lo l→Sqn P' hi lo l
 | _,[],h=>h
 | _,_ :: _,h=>⟨h.1,h.2.1,hp _ _ h.2.2.1,Sqn.imp hp h.2.2.2⟩
def oe(f:Nat→Int):Nat→Int
 | 0=>0
 | k+1=>err (oe f k) (f k)
def mon(d n:Nat):List Int:=mono d ((2:Int)^n)
variable {P:Program} {N:Nat} {sc:Nat→Prop} {env:Kl} {H:Hp}
end Go.Sky
namespace Go.Sky
def HD(xs ys:List Int):Prop:=Vp ys∧ys≠[]∧Za5 ys∧Az 13 ys∧chn 13 ys=chn 13 xs
def PH(xs:List Int)(x y:R2):Prop:=(0<x.2∧bl x.1.natAbs≤506∧bl x.2.natAbs≤506)∧(0<y.2∧bl y.1.natAbs≤506∧bl y.2.natAbs≤506)∧cvc 13 xs x-cvc 13 xs y=1
def DR:R2×R2:=((0,0),(0,0))
theorem Zhe(d:Rat){h:Rat}(h1:0<h):∃n:Nat,d≤(n:Rat)*h:=by
 have h4:0<h⁻¹:=Rat.inv_pos.2 h1
 refine⟨(d*h⁻¹).ceil.toNat,?_⟩
 have h5:=@Rat.le_ceil (d*h⁻¹)
 have h6:(((d*h⁻¹).ceil:Int):Rat)≤(((d*h⁻¹).ceil.toNat:Nat):Rat):=by
  have:(d*h⁻¹).ceil≤(((d*h⁻¹).ceil.toNat:Nat):Int):=Int.self_le_toNat _
  exact_mod_cast this
 have h7:=Rat.mul_le_mul_of_nonneg_right (Rat.le_trans h5 h6) (show 0≤h by grind)
 have h8:d*h⁻¹*h=d:=by grind
 grind
theorem Zpo{f:Rat→Rat}{u v:Rat}(h:crs f u v≤0)(h0:f u≠0):0<f u*f v:=by
 unfold crs at h
 by_cases h1:f u≠0∧f u*f v≤0
 ·rw [if_pos h1]at h;exact absurd h (by decide)
 ·have:¬f u*f v≤0:=fun h2=>h1 ⟨h0,h2⟩
  grind
theorem Zed{xs:List Int}{F:Nat}(hx:Tr xs)(h0:xs≠[])(hC:Az F xs){s t:Rat}(hst:s≤t)(hV:vch F xs s≤vch F xs t)(hs:Zu (sqf F xs) s≠0):∀y,s≤y→y≤t→0<Zu (sqf F xs) s*Zu (sqf F xs) y:=by
 obtain⟨h,h1,h2⟩:=Zlm hx h0 hC s t
 have hcv:∀u v,s≤u→u≤v→v≤t→v-u≤h→crs (Zu (sqf F xs)) u v≤0:=fun u v a b c d=>by
  have e:=h2 u v a b c d
  have m1:vat ((chn F xs).map Zu) u≤vat ((chn F xs).map Zu) s:=Zln hx h0 hC a
  have m2:vat ((chn F xs).map Zu) t≤vat ((chn F xs).map Zu) v:=Zln hx h0 hC c
  have m3:vat ((chn F xs).map Zu) s≤vat ((chn F xs).map Zu) t:=hV
  omega
 generalize Zu (sqf F xs)=f at *
 have key:∀n:Nat,∀y,s≤y→y≤t→y-s≤(n:Rat)*h→0<f s*f y:=fun n=>by
  induction n with
  | zero=>
   intro y a b c
   have:y=s:=by push_cast at c;grind
   subst this
   exact Zpo (hcv _ _ a (by grind) b (by grind)) hs
  | succ n ih=>
   intro y a b c
   push_cast at c
   by_cases hy:y-s≤h
   ·exact Zpo (hcv s y (by grind) a b hy) hs
   ·have i1:=ih (y-h) (by grind) (by grind) (by grind)
    have hz:f (y-h)≠0:=fun e=>by rw [e]at i1;grind
    have i2:=Zpo (hcv (y-h) y (by grind) (by grind) b (by grind)) hz
    have i3:=Rat.mul_pos i1 i2
    have e1:f s*f (y-h)*(f (y-h)*f y)=(f (y-h)*f (y-h))*(f s*f y):=by grind
    rw [e1]at i3
    have i4:0<f (y-h)*f (y-h):=by
     rcases(show 0<f (y-h)∨f (y-h)<0 by grind)with q | q
     ·exact Rat.mul_pos q q
     ·have:=Rat.mul_pos (a:=-f (y-h)) (b:=-f (y-h)) (by grind) (by grind);grind
    rcases(show 0<f s*f y∨f s*f y≤0 by grind)with q | q
    ·exact q
    ·have:=Rat.mul_nonneg (a:=f (y-h)*f (y-h)) (b:=-(f s*f y)) (by grind) (by grind);grind
 intro y a b
 obtain⟨n,hn⟩:∃n:Nat,y-s≤(n:Rat)*h:=by
  obtain⟨n,hn⟩:=Zhe (y-s) h1
  exact⟨n,hn⟩
 exact key n y a b hn
theorem Zgt{p:List Int}{s t:Rat}(hst:s≤t)(hd:∀u,s≤u→u≤t→0≤Zu (ld p) u):Zu p s≤Zu p t:=by
 rcases(show Zu p s≤Zu p t∨Zu p t<Zu p s by grind)with h | h
 ·exact h
 ·exfalso
  obtain⟨M,m1,m2⟩:=Zi8 s t p
  have hlt:s<t:=by
   rcases(show s<t∨s=t by grind)with h9 | h9
   ·exact h9
   ·rw [h9]at h;grind
  obtain⟨n,hn⟩:=Zhe (M*(t-s)*(t-s)+1) (show 0<Zu p s-Zu p t by grind)
  have hn0:(0:Rat)<(n:Rat):=by
   rcases Nat.eq_zero_or_pos n with h9 | h9
   ·subst h9
    have:=Rat.mul_nonneg (a:=M*(t-s)) (b:=t-s) (Rat.mul_nonneg (by grind) (by grind)) (by grind)
    push_cast at hn;grind
   ·exact_mod_cast h9
  have hn1:(n:Rat)≠0:=fun e=>by rw [e]at hn0;exact absurd hn0 (by decide)
  have hnn0:(n:Rat)*((t-s)/n)=t-s:=by
   rw [Rat.div_def,←Rat.mul_assoc,Rat.mul_comm (n:Rat),Rat.mul_assoc,Rat.mul_inv_cancel _ hn1,Rat.mul_one]
  have key:∀k:Nat,(k:Rat)≤(n:Rat)→-(M*((t-s)/n)*((t-s)/n))*k≤Zu p (s+k*((t-s)/n))-Zu p s:=fun k=>by
   induction k with
   | zero=>intro _;push_cast;rw [show s+0*((t-s)/n)=s by grind];grind
   | succ k ih=>
    intro hk
    push_cast at hk ⊢
    have i1:=ih (by grind)
    have hh:0≤(t-s)/n:=by
     rw [Rat.div_def];exact Rat.mul_nonneg (by grind) (Rat.le_of_lt (Rat.inv_pos.2 hn0))
    have hnn:=hnn0
    generalize (t-s)/(n:Rat)=h at *
    have k0:(0:Rat)≤(k:Rat):=by exact_mod_cast Nat.zero_le k
    have b1:=Rat.mul_nonneg (a:=(k:Rat)) (b:=h) k0 hh
    have b2:=Rat.mul_nonneg (a:=(n:Rat)-(k+1)) (b:=h) (by grind) hh
    have j:=(m2 (s+k*h) (s+(k+1)*h) (by grind) (by grind) (by grind)).1
    have e:=hd (s+k*h) (by grind) (by grind)
    have e2:=Rat.mul_nonneg hh e
    rw [show s+(k+1)*h-(s+k*h)=h by grind]at j
    grind
  have k1:=key n (by grind)
  have hnn:=hnn0
  rw [hnn,show s+(t-s)=t by grind]at k1
  have k2:-(M*((t-s)/n)*((t-s)/n))*n=-(M*((t-s)/n)*(t-s)):=by grind
  rw [k2]at k1
  have k3:M*((t-s)/n)*(t-s)*n=M*(t-s)*(t-s):=by grind
  have k4:=Rat.mul_nonneg (a:=Zu p t-Zu p s+M*((t-s)/n)*(t-s)) (b:=(n:Rat)) (by grind) (by grind)
  grind
theorem Zgd(p:List Int)(x:Rat):Zu (p.map fun a=>-1*a) x=-Zu p x:=by rw [Yn];push_cast;grind
theorem Znq{p:List Int}{s t:Rat}(hst:s<t)(hd:∀u,s<u→u≤t→0<Zu (ld p) u)(h0:0≤Zu (ld p) s):Zu p s<Zu p t:=by
 have hm:s<(s+t)/2∧(s+t)/2<t:=by constructor<;>grind
 generalize (s+t)/2=m at *
 have a1:=Zgt (p:=p) (s:=s) (t:=m) (by grind) (fun u a b=>by
  rcases(show s<u∨u=s by grind)with h | h
  ·exact Rat.le_of_lt (hd u h (by grind))
  ·rw [h];exact h0)
 obtain⟨M,m1,m2⟩:=Zi8 m t p
 have hp:=hd m hm.1 (by grind)
 obtain⟨η,q1,q2,q3⟩:=Gs (show 0<t-m by grind) m1 (show 0<Zu (ld p) m/2 by grind)
 have b:=(m2 m (m+η) (by grind) (by grind) (by grind)).1
 rw [show m+η-m=η by grind]at b
 have a2:=Zgt (p:=p) (s:=m+η) (t:=t) (by grind) (fun u a b=>Rat.le_of_lt (hd u (by grind) b))
 have c:=Rat.mul_nonneg (a:=η) (b:=Zu (ld p) m/2-η*M) (by grind) (by grind)
 have d:=Rat.mul_pos q1 hp
 grind
def Du:Nat→List Int→Rat→Int
 | 0,_,_=>0
 | n+1,p,x=>if Zu p x≠0 then Dd (Zu p x)else Du n (Xy p) x
theorem Zvb{x:Rat}(h:0<x):Dd x=1:=Zaa h
theorem Zmt{x:Rat}(h:x<0):Dd x=-1:=Zab h
theorem Zqx{x:Rat}(h:x=0):Dd x=0:=by subst h;rfl
theorem Oy(x:Rat):(0<x∧Dd x=1)∨(x<0∧Dd x=-1)∨(x=0∧Dd x=0):=by
 rcases(show 0<x∨x<0∨x=0 by grind)with h | h | h
 ·exact .inl ⟨h,Zvb h⟩
 ·exact .inr (.inl ⟨h,Zmt h⟩)
 ·exact .inr (.inr ⟨h,Zqx h⟩)
theorem Zui(n:Nat)(p:List Int)(x:Rat)(h:Zu p x≠0)(hl:p.length≤n):Du n p x=Dd (Zu p x):=by
 cases n with
 | zero=>have:p=[]:=List.eq_nil_of_length_eq_zero (by omega);subst this;exact absurd rfl h
 | succ n=>unfold Du;rw [if_pos h]
theorem Zm6(p:List Int)(x:Rat)(h:Zu p x≠0):∃δ:Rat,0<δ∧∀y,x<y→y≤x+δ→Dd (Zu p y)=Dd (Zu p x):=by
 obtain⟨L,l1,l2⟩:=Bq x (x+1) p
 have ha:0<(if 0<Zu p x then Zu p x else -Zu p x):=by split<;>grind
 obtain⟨δ,d1,d2,d3⟩:=Gs (show(0:Rat)<1 by decide) (show 0<L+1 by grind) (show 0<(if 0<Zu p x then Zu p x else -Zu p x)/2 by grind)
 refine⟨δ,d1,fun y h1 h2=>?_⟩
 have l:=l2 x y (by grind) (by grind) (by grind)
 have b:=Rat.mul_nonneg (a:=L) (b:=δ-(y-x)) (by grind) (by grind)
 have c:L*(y-x)≤δ*(L+1):=by grind
 rcases Oy (Zu p x)with⟨h3,h4⟩ | ⟨h3,h4⟩ | ⟨h3,h4⟩
 ·rw [if_pos h3]at d3 ha;rw [h4];exact Zvb (by grind)
 ·rw [if_neg (by grind)]at d3 ha;rw [h4];exact Zmt (by grind)
 ·exact absurd h3 h
theorem Ax:∀(n:Nat) (p:List Int) (x:Rat),p.length≤n→∃δ:Rat,0<δ∧∀y,x<y→y≤x+δ→Dd (Zu p y)=Du n p x
 | 0,p,x,hl=>⟨1,by decide,fun y _ _=>by
  have:p=[]:=List.eq_nil_of_length_eq_zero (by omega)
  subst this;exact Zqx rfl⟩
 | n+1,p,x,hl=>by
  by_cases h:Zu p x≠0
  ·rw [Zui (n+1) p x h hl];exact Zm6 p x h
  ·have h0:Zu p x=0:=Classical.not_not.1 h
   have ld':=Nq p
   obtain⟨δ,d1,d2⟩:=Ax n (Xy p) x (by omega)
   have hu:Du (n+1) p x=Du n (Xy p) x:=by unfold Du;rw [if_neg h];cases n<;>rfl
   have hx:Zu (ld p) x≠0→Dd (Zu (ld p) x)=Du n (Xy p) x:=fun h9=>by
    rw [←Ha]at h9 ⊢;exact(Zui n (Xy p) x h9 (by omega)).symm
   refine⟨δ,d1,fun y h1 h2=>?_⟩
   rw [hu]
   have hd:∀u,x<u→u≤y→Dd (Zu (ld p) u)=Du n (Xy p) x:=fun u a b=>by rw [←Ha];exact d2 u a (by grind)
   have hyy:=hd y h1 (by grind)
   generalize Du n (Xy p) x=σ at *
   rcases Oy (Zu (ld p) y)with⟨h3,h4⟩ | ⟨h3,h4⟩ | ⟨h3,h4⟩
   ·rw [h4]at hyy;subst hyy
    refine Zvb ?_
    have:=Znq (p:=p) h1 (fun u a b=>by
     rcases Oy (Zu (ld p) u)with⟨h5,h6⟩ | ⟨h5,h6⟩ | ⟨h5,h6⟩
     ·exact h5
     ·have:=hd u a b;rw [h6]at this;exact absurd this (by decide)
     ·have:=hd u a b;rw [h6]at this;exact absurd this (by decide)) (by
     rcases Oy (Zu (ld p) x)with⟨h5,h6⟩ | ⟨h5,h6⟩ | ⟨h5,h6⟩
     ·exact Rat.le_of_lt h5
     ·have:=hx (by grind);rw [h6]at this;exact absurd this (by decide)
     ·grind)
    grind
   ·rw [h4]at hyy;subst hyy
    refine Zmt ?_
    have hn:∀u,Zu (ld (p.map fun a=>-1*a)) u=-Zu (ld p) u:=fun u=>by rw [Zad];push_cast;grind
    have:=Znq (p:=p.map fun a=>-1*a) h1 (fun u a b=>by
     rw [hn]
     rcases Oy (Zu (ld p) u)with⟨h5,h6⟩ | ⟨h5,h6⟩ | ⟨h5,h6⟩
     ·have:=hd u a b;rw [h6]at this;exact absurd this (by decide)
     ·grind
     ·have:=hd u a b;rw [h6]at this;exact absurd this (by decide)) (by
     rw [hn]
     rcases Oy (Zu (ld p) x)with⟨h5,h6⟩ | ⟨h5,h6⟩ | ⟨h5,h6⟩
     ·have:=hx (by grind);rw [h6]at this;exact absurd this (by decide)
     ·grind
     ·grind)
    rw [Zgd,Zgd]at this
    grind
   ·rw [h4]at hyy;subst hyy
    refine Zqx ?_
    have hz:∀u,x≤u→u≤y→Zu (ld p) u=0:=fun u a b=>by
     rcases(show x<u∨u=x by grind)with h9 | h9
     ·rcases Oy (Zu (ld p) u)with⟨h5,h6⟩ | ⟨h5,h6⟩ | ⟨h5,h6⟩
      ·have:=hd u h9 b;rw [h6]at this;exact absurd this (by decide)
      ·have:=hd u h9 b;rw [h6]at this;exact absurd this (by decide)
      ·exact h5
     ·subst h9
      rcases Oy (Zu (ld p) u)with⟨h5,h6⟩ | ⟨h5,h6⟩ | ⟨h5,h6⟩
      ·have:=hx (by grind);rw [h6]at this;exact absurd this (by decide)
      ·have:=hx (by grind);rw [h6]at this;exact absurd this (by decide)
      ·exact h5
    have a1:=Zgt (p:=p) (s:=x) (t:=y) (by grind) (fun u a b=>by rw [hz u a b];grind)
    have a2:=Zgt (p:=p.map fun a=>-1*a) (s:=x) (t:=y) (by grind) (fun u a b=>by rw [Zad,hz u a b];push_cast;grind)
    rw [Zgd,Zgd]at a2
    grind
theorem Ed.mul_l{a b c:List Int}(h:Ed a b):Ed (Oo c a) (Oo c b):=by
 obtain⟨k,s,hk,e⟩:=h
 exact⟨k,s,hk,fun x=>by rw [Xo,Xo];have:=e x;grind⟩
theorem Ep{F n:Nat}{p:List Int}(hp:Tr p)(h0:p≠[])(hs:Sz n p)(hn:n≤130)(hl:p.length≤13)(hF:p.length≤F+1):∀(f:Nat) (q:List Int),Dp p q→q.length≤f→
  (∃B:List Int,∀x:Rat,Zu q x=Zu (Bd F f q) x*(Zu B x*Zu B x))∧Ed (Bd F f q) (sqf F q):=by
 intro f
 induction f with
 | zero=>intro q hq hlq;have:=List.length_pos_iff.2 hq.2.1;omega
 | succ f ih=>
  intro q hq hlq
  have hok:=(hq.ok hp h0 hs hn hl hF).2
  have hg:=hq.next hok
  have hok2:=(hg.ok hp h0 hs hn hl hF).2
  have hg2:=hg.next hok2
  unfold Bd
  by_cases c1:(sqf F q).length=1
  ·rw [if_pos c1]
   obtain⟨s1,s2,s3⟩:=Zf1 hq.1 hq.2.1 hok c1
   refine⟨⟨[1],fun x=>?_⟩,Ed.refl _⟩
   rw [s1,Ye5 hq.1 hq.2.2.1 s2,Nn];push_cast;grind
  ·rw [if_neg c1]
   have lq:2≤q.length:=by
    obtain⟨f1,f2,f3,f4,f5,f6⟩:=Mf (F:=F) hq.1 hq.2.1 hok
    obtain⟨a1,a2,a3,a4,a5⟩:=Oz hq.1 hq.2.1 hok
    have l1:=List.length_pos_iff.2 f3
    have l2:=List.length_pos_iff.2 a2
    omega
   have lt1:=Zla hq.1 hq.2.1 hok lq
   obtain⟨a1,a2,a3,a4,a5⟩:=Oz hq.1 hq.2.1 hok
   obtain⟨b1,b2,b3,b4,b5⟩:=Oz hg.1 hg.2.1 hok2
   obtain⟨-,t2,t3,-,-,-⟩:=Mf (F:=F) hg.1 hg.2.1 hok2
   have lb:=List.length_pos_iff.2 t3
   obtain⟨⟨B,hB⟩,hE⟩:=ih _ hg2 (by omega)
   obtain⟨-,o2,o3,o4⟩:=Cy hq.1 hq.2.1 hok hok2
   have hok3:=(hg2.ok hp h0 hs hn hl hF).2
   rw [hq.2.2.1]at a4
   rw [a3]at b4
   have e1:∀x,Zu q x=Zu (sqf F q) x*Zu (Ns F q) x:=fun x=>by rw [←Xo,←a4]
   have e2:∀x,Zu (sqf F q) x=Zu (Bi F q) x*Zu (sqf F (Ns F q)) x:=fun x=>by rw [←Xo,←o2]
   have e3:∀x,Zu (Ns F q) x=Zu (sqf F (Ns F q)) x*Zu (Ns F (Ns F q)) x:=fun x=>by rw [←Xo,←b4]
   refine⟨⟨Oo (sqf F (Ns F q)) B,fun x=>?_⟩,?_⟩
   ·rw [Xo,Xo,e1 x,e2 x,e3 x,hB x]
    show _=Zu (Bi F q) x*_*_
    generalize Zu (sqf F (Ns F q)) x=S
    generalize Zu B x=C
    grind
   ·have h9:Ed (Bd F f (Ns F (Ns F q))) (sqf F (Ns F q)):=hE.trans (Zvu hg.1 hg.2.1 hok2 hok3)
    have h8:=h9.mul_l (c:=Bi F q)
    rw [←o2]at h8
    exact h8
theorem Zrc{F n:Nat}{p:List Int}(hp:Tr p)(h0:p≠[])(hs:Sz n p)(hn:n≤130)(hl:p.length≤13)(hF:p.length≤F+1){o:List Int}(ho:Tr o)(o0:o≠[])(hok:Di F o)(hpk:Di F p)(h:Ed o (sqf F p)):(Ns F o).length=1∧sqf F o=Qa o:=by
 obtain⟨a1,a2,a3,a4,a5⟩:=Oz ho o0 hok
 obtain⟨f1,f2,f3,f4,f5,f6⟩:=Mf (F:=F) hp h0 hpk
 obtain⟨-,s2,s3,s4,s5,s6⟩:=Mf (F:=F) ho o0 hok
 have ht:Tr (Qa o):=Mm (Xu ho)
 have hd:=Zd7 ht (Mv ht) hok
 have e1:Ed (Ns F o) (Qa o):=hd.1.ed
 have e2:Ed (Ns F o) (ld (Qa o)):=(hd.2.ed:Ed (Ns F o) (Xy (Qa o))).congr fun x=>Ha _ x
 have hsim:Sim (Qa o) o:=(Gc (Yx o)).trans (Pr ho)
 obtain⟨k,w,hk,hkw⟩:Ed (Qa o) (sqf F p):=by
  obtain⟨k,w,hk,e⟩:=h
  obtain⟨c,d,hc,hd',hcd⟩:=hsim
  have hcd':∀x:Rat,(c:Rat)*Zu (Qa o) x=(d:Rat)*Zu o x:=fun x=>by
   rw [←Yn,←Yn];exact Kd x _ _ fun i=>by rw [Og,Og];exact hcd i
  exact⟨d*k,w.map fun a=>c*a,Int.mul_ne_zero hd' hk,fun x=>by
   rw [Yn];have a:=e x;have b:=hcd' x;push_cast;grind⟩
 have hlen:(Ns F o).length≤1:=by
  refine Zf2 hp h0 hpk a1 (e1.trans ⟨k,w,hk,hkw⟩) ?_
  have h1:Ed (Ns F o) (Nb w (ld (Qa o))):=by
   obtain⟨m,z,hm,e⟩:=e2
   exact⟨m,Nb w z,hm,fun x=>by rw [Xe,Xe];have:=e x;grind⟩
  have h2:Ed (Ns F o) (ld (sqf F p)):=Ed.lin e1 h1 (ld w) k hk fun x=>by
   have:=Cv (p:=(sqf F p).map fun a=>k*a) (q:=Nb w (Qa o)) (fun y=>by rw [Yn,Xe];exact hkw y) x
   rw [Zad,Br]at this
   rw [Xe,this]
  exact h2.congr fun x=>(Ha _ x).symm
 have hl1:(Ns F o).length=1:=by have:=List.length_pos_iff.2 a2;omega
 refine⟨hl1,?_⟩
 rw [Ye5 a1 a3 hl1,Zos s2]at a4
 exact a4.symm
theorem Zf3{a b:List Int}(h:Sim a b):∃c d:Int,c≠0∧d≠0∧∀x:Rat,(c:Rat)*Zu a x=(d:Rat)*Zu b x:=by
 obtain⟨c,d,hc,hd,e⟩:=h
 exact⟨c,d,hc,hd,fun x=>by rw [←Yn,←Yn];exact Kd x _ _ fun i=>by rw [Og,Og];exact e i⟩
theorem Fw{x:Rat}(h:x≠0):0<x*x:=by
 rcases(show 0<x∨x<0 by grind)with q | q
 ·exact Rat.mul_pos q q
 ·have:=Rat.mul_pos (a:=-x) (b:=-x) (by grind) (by grind);grind
theorem Nm{c:Int}(h:c≠0):(c:Rat)≠0:=fun e=>h (by exact_mod_cast e)
theorem Zgn{a b a' b' c d:Rat}(hc:c≠0)(hd:d≠0)(e1:c*a'=d*a)(e2:c*b'=d*b)(h:a*b<0):a'*b'<0:=by
 have h1:(c*c)*(a'*b')=(d*d)*(a*b):=by grind
 have h2:=Fw hc
 have h3:=Fw hd
 rcases(show a'*b'<0∨0≤a'*b' by grind)with q | q
 ·exact q
 ·have h4:=Rat.mul_nonneg (a:=c*c) (b:=a'*b') (by grind) q
  have h5:=Rat.mul_pos (a:=d*d) (b:=-(a*b)) h3 (by grind)
  grind
theorem Ybi{o1 o2 B1 B2:Rat}(h:o1*(B1*B1)*(o2*(B2*B2))<0):o1*o2<0:=by
 rcases(show o1*o2<0∨0≤o1*o2 by grind)with q | q
 ·exact q
 ·have h1:0≤B1*B2*(B1*B2):=by
   by_cases hz:B1*B2=0
   ·rw [hz];grind
   ·exact Rat.le_of_lt (Fw hz)
  have h2:=Rat.mul_nonneg q h1
  grind
theorem Zm5{F n:Nat}{p o:List Int}(hp:Tr p)(h0:p≠[])(hs:Sz n p)(hn:n≤130)(hl:p.length≤13)(hF:p.length≤F+1)(ho:o=Bd F p.length (Qa p))(hot:Tr o)(o0:o≠[])(hC:Az F o){a b:Rat}(hab:a<b)(h1:Du p.length p a=1)(h2:Zu p b<0):vch F o b<vch F o a:=by
 have hD:=Dp.start hp h0
 have hokn:=(hD.ok hp h0 hs hn hl hF).2
 have hokp:Di F p:=by unfold Di at hokn ⊢;rwa [hD.2.2.1]at hokn
 obtain⟨⟨B,hB⟩,hE⟩:=Ep hp h0 hs hn hl hF p.length (Qa p) hD (by rw [Nf hp];exact Nat.le_refl _)
 rw [←ho]at hB hE
 rw [Cj hD.2.2.1]at hE
 obtain⟨-,hsq⟩:=Zrc hp h0 hs hn hl hF hot o0 hC.1.2.2.1 hokp hE
 obtain⟨δ,d1,d2⟩:=Ax p.length p a (Nat.le_refl _)
 obtain⟨s,s1,s2,s3⟩:∃s,a<s∧s≤a+δ∧s<b:=by
  rcases(show a+δ<b∨b≤a+δ by grind)with q | q
  ·exact⟨a+δ,by grind,by grind,q⟩
  ·exact⟨(a+b)/2,by grind,by grind,by grind⟩
 have hps:0<Zu p s:=by
  have:=d2 s s1 s2
  rw [h1]at this
  rcases Oy (Zu p s)with⟨h5,h6⟩ | ⟨h5,h6⟩ | ⟨h5,h6⟩
  ·exact h5
  ·rw [h6]at this;exact absurd this (by decide)
  ·rw [h6]at this;exact absurd this (by decide)
 have k1:Zu p s*Zu p b<0:=by have:=Rat.mul_pos (a:=Zu p s) (b:=-Zu p b) hps (by grind);grind
 obtain⟨c,d,hc,hd,e⟩:=Zf3 ((Gc (Yx p)).trans (Pr hp):Sim (Qa p) p)
 have k2:Zu (Qa p) s*Zu (Qa p) b<0:=Zgn (Nm hc) (Nm hd) (e s) (e b) k1
 rw [hB s,hB b]at k2
 have k3:=Ybi k2
 obtain⟨c',d',hc',hd',e'⟩:=Zf3 ((Gc (Yx o)).trans (Pr hot):Sim (Qa o) o)
 have k4:Zu (Qa o) s*Zu (Qa o) b<0:=Zgn (Nm hc') (Nm hd') (e' s) (e' b) k3
 rw [←hsq]at k4
 have m1:=Zjw hot o0 hC (Rat.le_of_lt s1)
 rcases Int.lt_or_le (vch F o b) (vch F o s)with q | q
 ·exact Int.lt_of_lt_of_le q m1
 ·exfalso
  have hz:Zu (sqf F o) s≠0:=fun e9=>by rw [e9]at k4;grind
  have:=Zed hot o0 hC (Rat.le_of_lt s3) q hz b (Rat.le_of_lt s3) (by grind)
  grind
theorem Zem:∀(n:Nat) (p:List Int) (x:Rat),Tr p→p≠[]→p.length≤n→Du n p x≠0
 | 0,p,x,_,h0,hl=>absurd (List.eq_nil_of_length_eq_zero (by omega)) h0
 | n+1,p,x,hp,h0,hl=>by
  unfold Du
  by_cases h:Zu p x≠0
  ·rw [if_pos h]
   rcases Oy (Zu p x)with⟨h5,h6⟩ | ⟨h5,h6⟩ | ⟨h5,h6⟩
   ·rw [h6];decide
   ·rw [h6];decide
   ·exact absurd h5 h
  ·rw [if_neg h]
   have hz:Zu p x=0:=Classical.not_not.1 h
   have ld':=Nq p
   refine Zem n (Xy p) x (Mv hp) (fun e=>?_) (by omega)
   rw [e]at ld'
   have l0:=List.length_pos_iff.2 h0
   have hl1:p.length=1:=by simp at ld';omega
   match p,hl1 with
   | [c],_=>
    have hc:c≠0:=hp.mem (by simp)
    rw [Nn]at hz
    exact Nm hc hz
theorem Zp7(n:Nat)(p:List Int)(x:Rat):-1≤Du n p x∧Du n p x≤1:=by
 induction n generalizing p with
 | zero=>show -1≤(0:Int)∧(0:Int)≤1;decide
 | succ n ih=>unfold Du;split;exact Yac _;exact ih _
def Zam(F:Nat)(o:List Int)(a b:Rat):Prop:=0<vch F o a-vch F o b-(if Zu o b=0 then 1 else 0)
theorem Ybr{F n:Nat}{p o:List Int}(hp:Tr p)(h0:p≠[])(hs:Sz n p)(hn:n≤130)(hl:p.length≤13)(hF:p.length≤F+1)(ho:o=Bd F p.length (Qa p))(hot:Tr o)(o0:o≠[])(hC:Az F o){a b:Rat}(hab:a<b) :
  (Zu p a<0∨Zu p b<0∨Du p.length p a<0∨Zam F o a b)↔(Du p.length p a<0∨Zam F o a b):=by
 constructor
 ·rintro(h | h | h | h)
  ·left
   rw [Zui p.length p a (by grind) (Nat.le_refl _),Zmt h];decide
  ·have r:=Zp7 p.length p a
   have r0:=Zem p.length p a hp h0 (Nat.le_refl _)
   rcases(show Du p.length p a<0∨Du p.length p a=1 by omega)with h1 | h1
   ·exact .inl h1
   ·right
    have hv:=Zm5 hp h0 hs hn hl hF ho hot o0 hC hab h1 h
    have hD:=Dp.start hp h0
    obtain⟨⟨B,hB⟩,-⟩:=Ep hp h0 hs hn hl hF p.length (Qa p) hD (by rw [Nf hp];exact Nat.le_refl _)
    rw [←ho]at hB
    obtain⟨c,d,hc,hd,e⟩:=Zf3 ((Gc (Yx p)).trans (Pr hp):Sim (Qa p) p)
    have hob:Zu o b≠0:=fun e9=>by
     have h5:(c:Rat)*Zu (Qa p) b=(d:Rat)*Zu p b:=e b
     rw [hB b,e9]at h5
     have h6:=Nm hd
     have h7:(d:Rat)*Zu p b=0:=by rw [←h5];grind
     rcases Rat.mul_eq_zero.1 h7 with q | q
     ·exact h6 q
     ·rw [q]at h;grind
    unfold Zam
    rw [if_neg hob]
    omega
  ·exact .inl h
  ·exact .inr h
 ·rintro(h | h)
  ·exact .inr (.inr (.inl h))
  ·exact .inr (.inr (.inr h))
theorem Zyp(p:List Int)(x:Rat)(h:Zu p x≠0):∃δ:Rat,0<δ∧∀y,x-δ≤y→y≤x→Dd (Zu p y)=Dd (Zu p x):=by
 obtain⟨L,l1,l2⟩:=Bq (x-1) x p
 have ha:0<(if 0<Zu p x then Zu p x else -Zu p x):=by split<;>grind
 obtain⟨δ,d1,d2,d3⟩:=Gs (show(0:Rat)<1 by decide) (show 0<L+1 by grind) (show 0<(if 0<Zu p x then Zu p x else -Zu p x)/2 by grind)
 refine⟨δ,d1,fun y h1 h2=>?_⟩
 have l:=l2 y x (by grind) (by grind) (by grind)
 have b:=Rat.mul_nonneg (a:=L) (b:=δ-(x-y)) (by grind) (by grind)
 have c:L*(x-y)≤δ*(L+1):=by grind
 rcases Oy (Zu p x)with⟨h3,h4⟩ | ⟨h3,h4⟩ | ⟨h3,h4⟩
 ·rw [if_pos h3]at d3 ha;rw [h4];exact Zvb (by grind)
 ·rw [if_neg (by grind)]at d3 ha;rw [h4];exact Zmt (by grind)
 ·exact absurd h3 h
theorem rsg_1{x:Rat}(h:Dd x=1):0<x:=by
 rcases Oy x with⟨h5,h6⟩ | ⟨h5,h6⟩ | ⟨h5,h6⟩
 ·exact h5
 ·rw [h6]at h;exact absurd h (by decide)
 ·rw [h6]at h;exact absurd h (by decide)
theorem Zoa{x:Rat}(h:Dd x=-1):x<0:=by
 rcases Oy x with⟨h5,h6⟩ | ⟨h5,h6⟩ | ⟨h5,h6⟩
 ·rw [h6]at h;exact absurd h (by decide)
 ·exact h5
 ·rw [h6]at h;exact absurd h (by decide)
def Ziz(p:List Int)(a b:Rat):Prop:=∃x,a≤x∧x≤b∧Zu p x<0
theorem Ycp {xs:List Int} {F:Nat} (hx:Tr xs) (h0:xs≠[]) (hC:Az F xs) {a b σ:Rat} (hσ:σ≠0) (hab:a<b)
  (hpos:∀x,a≤x→x<b→∃δ:Rat,0<δ∧∀y,x<y→y≤x+δ→y≤b→0<σ*Zu (sqf F xs) y) :
  vch F xs a-vch F xs b≤(if Zu (sqf F xs) b=0 then 1 else 0):=by
 obtain⟨h,h1,h2⟩:=Zlm hx h0 hC a b
 have hge:∀x,a≤x→x<b→0≤σ*Zu (sqf F xs) x:=fun x ha hb=>by
  rcases(show 0≤σ*Zu (sqf F xs) x∨σ*Zu (sqf F xs) x<0 by grind)with q | q
  ·exact q
  ·exfalso
   have hz:Zu (sqf F xs) x≠0:=fun e=>by rw [e]at q;grind
   obtain⟨δ,d1,d2⟩:=hpos x ha hb
   obtain⟨ε,e1,e2⟩:=Zm6 (sqf F xs) x hz
   obtain⟨y,y1,y2,y3,y4⟩:∃y,x<y∧y≤x+δ∧y≤x+ε∧y≤b:=by
    rcases(show δ≤ε∨ε≤δ by grind)with w | w
    ·rcases(show x+δ≤b∨b≤x+δ by grind)with v | v
     ·exact⟨x+δ,by grind,by grind,by grind,v⟩
     ·exact⟨b,by grind,by grind,by grind,by grind⟩
    ·rcases(show x+ε≤b∨b≤x+ε by grind)with v | v
     ·exact⟨x+ε,by grind,by grind,by grind,v⟩
     ·exact⟨b,by grind,by grind,by grind,by grind⟩
   have k1:=d2 y y1 y2 y4
   have k2:=e2 y y1 y3
   rcases Oy (Zu (sqf F xs) x)with⟨h5,h6⟩ | ⟨h5,h6⟩ | ⟨h5,h6⟩
   ·rw [h6]at k2
    have k3:=rsg_1 k2
    rcases(show σ<0∨0<σ by grind)with s | s
    ·have:=Rat.mul_pos (a:=-σ) (b:=Zu (sqf F xs) y) (by grind) k3;grind
    ·have:=Rat.mul_pos s h5;grind
   ·rw [h6]at k2
    have k3:=Zoa k2
    rcases(show σ<0∨0<σ by grind)with s | s
    ·have:=Rat.mul_pos (a:=-σ) (b:=-Zu (sqf F xs) x) (by grind) (by grind);grind
    ·have:=Rat.mul_pos (a:=σ) (b:=-Zu (sqf F xs) y) s (by grind);grind
   ·exact hz h5
 have hgb:0≤σ*Zu (sqf F xs) b:=by
  rcases(show 0≤σ*Zu (sqf F xs) b∨σ*Zu (sqf F xs) b<0 by grind)with q | q
  ·exact q
  ·exfalso
   have hz:Zu (sqf F xs) b≠0:=fun e=>by rw [e]at q;grind
   obtain⟨ε,e1,e2⟩:=Zyp (sqf F xs) b hz
   obtain⟨y,y1,y2,y3⟩:∃y,a≤y∧y<b∧b-ε≤y:=by
    rcases(show a≤b-ε∨b-ε≤a by grind)with v | v
    ·exact⟨b-ε,v,by grind,by grind⟩
    ·exact⟨a,by grind,hab,v⟩
   obtain⟨δ,d1,d2⟩:=hpos y y1 y2
   obtain⟨z,z1,z2,z3⟩:∃z,y<z∧z≤y+δ∧z≤b:=by
    rcases(show y+δ≤b∨b≤y+δ by grind)with v | v
    ·exact⟨y+δ,by grind,by grind,v⟩
    ·exact⟨b,y2,by grind,by grind⟩
   have k1:=d2 z z1 z2 z3
   have k2:=e2 z (by grind) z3
   rcases Oy (Zu (sqf F xs) b)with⟨h5,h6⟩ | ⟨h5,h6⟩ | ⟨h5,h6⟩
   ·rw [h6]at k2
    have k3:=rsg_1 k2
    rcases(show σ<0∨0<σ by grind)with s | s
    ·have:=Rat.mul_pos (a:=-σ) (b:=Zu (sqf F xs) z) (by grind) k3;grind
    ·have:=Rat.mul_pos s h5;grind
   ·rw [h6]at k2
    have k3:=Zoa k2
    rcases(show σ<0∨0<σ by grind)with s | s
    ·have:=Rat.mul_pos (a:=-σ) (b:=-Zu (sqf F xs) b) (by grind) (by grind);grind
    ·have:=Rat.mul_pos (a:=σ) (b:=-Zu (sqf F xs) z) s (by grind);grind
   ·exact hz h5
 have hstep:∀u v,a≤u→u≤v→v≤b→v-u≤h/2→vch F xs u-vch F xs v≤(if v=b∧Zu (sqf F xs) b=0 then 1 else 0):=fun u v c1 c2 c3 c4=>by
  have e:=h2 u v c1 c2 c3 (by grind)
  have e':vch F xs u-vch F xs v=crs (Zu (sqf F xs)) u v:=e
  rw [e']
  unfold crs
  by_cases hc:Zu (sqf F xs) u≠0∧Zu (sqf F xs) u*Zu (sqf F xs) v≤0
  ·rw [if_pos hc]
   have hub:u<b:=by
    rcases(show u<b∨u=b by grind)with q | q
    ·exact q
    ·exfalso
     have:v=u:=by grind
     subst this
     have:=Fw hc.1;grind
   have g1:=hge u c1 hub
   have g2:0≤σ*Zu (sqf F xs) v:=by
    rcases(show v<b∨v=b by grind)with q | q
    ·exact hge v (by grind) q
    ·rw [q];exact hgb
   have hv0:Zu (sqf F xs) v=0:=by
    rcases(show Zu (sqf F xs) v=0∨Zu (sqf F xs) v≠0 by grind)with q | q
    ·exact q
    ·exfalso
     have m1:=Rat.mul_nonneg g1 g2
     have m2:=Fw hσ
     have m3:(σ*σ)*(Zu (sqf F xs) u*Zu (sqf F xs) v)≥0:=by grind
     rcases(show Zu (sqf F xs) u*Zu (sqf F xs) v<0∨Zu (sqf F xs) u*Zu (sqf F xs) v=0 by grind)with w | w
     ·have:=Rat.mul_pos m2 (show 0 < -(Zu (sqf F xs) u*Zu (sqf F xs) v) by grind);grind
     ·rcases Rat.mul_eq_zero.1 w with z | z
      ·exact hc.1 z
      ·exact q z
   rcases(show v<b∨v=b by grind)with q | q
   ·exfalso
    obtain⟨δ,d1,d2⟩:=hpos v (by grind) q
    obtain⟨z,z1,z2,z3,z4⟩:∃z,v<z∧z≤v+δ∧z≤b∧z-v≤h/2:=by
     rcases(show δ≤h/2∨h/2≤δ by grind)with w | w
     ·rcases(show v+δ≤b∨b≤v+δ by grind)with t | t
      ·exact⟨v+δ,by grind,by grind,t,by grind⟩
      ·exact⟨b,q,by grind,by grind,by grind⟩
     ·rcases(show v+h/2≤b∨b≤v+h/2 by grind)with t | t
      ·exact⟨v+h/2,by grind,by grind,t,by grind⟩
      ·exact⟨b,q,by grind,by grind,by grind⟩
    have k1:=d2 z z1 z2 z3
    have a1:=h2 u z c1 (by grind) z3 (by grind)
    have a2:=h2 v z (by grind) (by grind) z3 (by grind)
    have r1:crs (Zu (sqf F xs)) u z=0:=by
     unfold crs
     rw [if_neg]
     rintro⟨w1,w2⟩
     have g3:0<σ*Zu (sqf F xs) u:=by
      rcases(show σ*Zu (sqf F xs) u=0∨0<σ*Zu (sqf F xs) u by grind)with t | t
      ·rcases Rat.mul_eq_zero.1 t with t | t
       ·exact absurd t hσ
       ·exact absurd t w1
      ·exact t
     have m1:=Rat.mul_pos g3 k1
     have m2:=Fw hσ
     have m3:0<(σ*σ)*(Zu (sqf F xs) u*Zu (sqf F xs) z):=by grind
     have m4:=Rat.mul_nonneg (a:=σ*σ) (b:=-(Zu (sqf F xs) u*Zu (sqf F xs) z)) (by grind) (by grind)
     grind
    have r2:crs (Zu (sqf F xs)) v z=0:=by unfold crs;rw [if_neg];rintro⟨w1,w2⟩;exact w1 hv0
    have r3:crs (Zu (sqf F xs)) u v=1:=by unfold crs;rw [if_pos hc]
    rw [r1]at a1;rw [r2]at a2;rw [r3]at e
    omega
   ·rw [q]at hv0
    rw [if_pos ⟨q,hv0⟩];decide
  ·rw [if_neg hc]
   split<;>decide
 have key:∀n:Nat,∀u,a≤u→u≤b→b-u≤(n:Rat)*(h/2)→vch F xs u-vch F xs b≤(if Zu (sqf F xs) b=0 then 1 else 0):=fun n=>by
  induction n with
  | zero=>
   intro u c1 c2 c3
   have:u=b:=by push_cast at c3;grind
   subst this
   rw [Int.sub_self]
   split<;>decide
  | succ n ih=>
   intro u c1 c2 c3
   push_cast at c3
   by_cases hy:b-u≤h/2
   ·have:=hstep u b c1 c2 (by grind) hy
    by_cases hz:Zu (sqf F xs) b=0
    ·rw [if_pos ⟨rfl,hz⟩]at this;rw [if_pos hz];exact this
    ·rw [if_neg (fun e=>hz e.2)]at this;rw [if_neg hz];exact this
   ·have i1:=ih (u+h/2) (by grind) (by grind) (by grind)
    have i2:=hstep u (u+h/2) c1 (by grind) (by grind) (by grind)
    rw [if_neg (fun e=>by have:=e.1;grind)]at i2
    generalize (if Zu (sqf F xs) b=0 then(1:Int)else 0)=t at *
    omega
 obtain⟨n,hn⟩:=Zhe (b-a) (show 0<h/2 by grind)
 exact key n a (by grind) (by grind) hn
structure Odp (F n:Nat) (p o:List Int):Prop where
 tr:Tr p
 ne:p≠[]
 sz:Sz n p
 hn:n≤130
 hl:p.length≤13
 hF:p.length≤F+1
 eq:o=Bd F p.length (Qa p)
 otr:Tr o
 one:o≠[]
 ok:Az F o
theorem Odp.sq{F n:Nat}{p o:List Int}(h:Odp F n p o):∃(c d:Int) (B:List Int),c≠0∧d≠0∧∀x:Rat,(d:Rat)*Zu p x=(c:Rat)*(Zu o x*(Zu B x*Zu B x)):=by
 have hD:=Dp.start h.tr h.ne
 obtain⟨⟨B,hB⟩,-⟩:=Ep h.tr h.ne h.sz h.hn h.hl h.hF p.length (Qa p) hD (by rw [Nf h.tr];exact Nat.le_refl _)
 rw [←h.eq]at hB
 obtain⟨c,d,hc,hd,e⟩:=Zf3 ((Gc (Yx p)).trans (Pr h.tr):Sim (Qa p) p)
 exact⟨c,d,B,hc,hd,fun x=>by rw [←hB x];exact(e x).symm⟩
theorem Odp.sqf{F n:Nat}{p o:List Int}(h:Odp F n p o):Go.Sky.sqf F o=Qa o:=by
 have hD:=Dp.start h.tr h.ne
 have hokn:=(hD.ok h.tr h.ne h.sz h.hn h.hl h.hF).2
 have hokp:Di F p:=by unfold Di at hokn ⊢;rwa [hD.2.2.1]at hokn
 obtain⟨-,hE⟩:=Ep h.tr h.ne h.sz h.hn h.hl h.hF p.length (Qa p) hD (by rw [Nf h.tr];exact Nat.le_refl _)
 rw [←h.eq]at hE
 rw [Cj hD.2.2.1]at hE
 exact(Zrc h.tr h.ne h.sz h.hn h.hl h.hF h.otr h.one h.ok.1.2.2.1 hokp hE).2
theorem Odp.srt{F n:Nat}{p o:List Int}(h:Odp F n p o):∃c d:Int,c≠0∧d≠0∧∀x:Rat,(c:Rat)*Zu (Go.Sky.sqf F o) x=(d:Rat)*Zu o x:=by
 rw [h.sqf]
 exact Zf3 ((Gc (Yx o)).trans (Pr h.otr):Sim (Qa o) o)
theorem Odp.zero{F n:Nat}{p o:List Int}(h:Odp F n p o)(x:Rat):Zu (Go.Sky.sqf F o) x=0↔Zu o x=0:=by
 obtain⟨c,d,hc,hd,e⟩:=h.srt
 have e1:=e x
 constructor
 ·intro z;rw [z]at e1;rcases Rat.mul_eq_zero.1 (show(d:Rat)*Zu o x=0 by grind)with q | q
  ·exact absurd q (Nm hd)
  ·exact q
 ·intro z;rw [z]at e1;rcases Rat.mul_eq_zero.1 (show(c:Rat)*Zu (Go.Sky.sqf F o) x=0 by grind)with q | q
  ·exact absurd q (Nm hc)
  ·exact q
theorem Odp.nz{F n:Nat}{p o:List Int}(h:Odp F n p o){x:Rat}(hx:Zu p x≠0):Zu o x≠0:=fun z=>by
 obtain⟨c,d,B,hc,hd,e⟩:=h.sq
 have e1:=e x
 rw [z]at e1
 rcases Rat.mul_eq_zero.1 (show(d:Rat)*Zu p x=0 by grind)with q | q
 ·exact Nm hd q
 ·exact hx q
theorem Odp.opp{F n:Nat}{p o:List Int}(h:Odp F n p o){x y:Rat}(hxy:Zu p x*Zu p y<0):Zu o x*Zu o y<0∧Zu (Go.Sky.sqf F o) x*Zu (Go.Sky.sqf F o) y<0:=by
 obtain⟨c,d,B,hc,hd,e⟩:=h.sq
 have k1:(Zu o x*(Zu B x*Zu B x))*(Zu o y*(Zu B y*Zu B y))<0:=Zgn (Nm hc) (Nm hd) (e x).symm (e y).symm hxy
 have k2:=Ybi k1
 obtain⟨c',d',hc',hd',e'⟩:=h.srt
 exact⟨k2,Zgn (Nm hc') (Nm hd') (e' x) (e' y) k2⟩
theorem Odp.sem{F n:Nat}{p o:List Int}(h:Odp F n p o){a b:Rat}(hab:a<b):(Du p.length p a<0∨Zam F o a b)↔Ziz p a b:=by
 have hsame:=Ybr h.tr h.ne h.sz h.hn h.hl h.hF h.eq h.otr h.one h.ok hab
 constructor
 ·rintro(h1 | h1)
  ·obtain⟨δ,d1,d2⟩:=Ax p.length p a (Nat.le_refl _)
   have r:=Zp7 p.length p a
   have hm:Du p.length p a=-1:=by omega
   rcases(show a+δ≤b∨b≤a+δ by grind)with q | q
   ·exact⟨a+δ,by grind,q,Zoa (by rw [d2 (a+δ) (by grind) (by grind),hm])⟩
   ·exact⟨b,by grind,by grind,Zoa (by rw [d2 b hab q,hm])⟩
  ·rcases Classical.em (Ziz p a b)with q | q
   ·exact q
   ·exfalso
    have hge:∀x,a≤x→x≤b→0≤Zu p x:=fun x u v=>by
     rcases(show 0≤Zu p x∨Zu p x<0 by grind)with w | w
     ·exact w
     ·exact absurd ⟨x,u,v,w⟩ q
    have haft:∀x,a≤x→x<b→∃δ:Rat,0<δ∧∀y,x<y→y≤x+δ→y≤b→0<Zu p y:=fun x u v=>by
     obtain⟨δ,d1,d2⟩:=Ax p.length p x (Nat.le_refl _)
     have r:=Zp7 p.length p x
     have r0:=Zem p.length p x h.tr h.ne (Nat.le_refl _)
     refine⟨δ,d1,fun y c1 c2 c3=>?_⟩
     have s:=d2 y c1 c2
     rcases Oy (Zu p y)with⟨h5,h6⟩ | ⟨h5,h6⟩ | ⟨h5,h6⟩
     ·exact h5
     ·have:=hge y (by grind) c3;grind
     ·rw [h6]at s;exact absurd s.symm r0
    obtain⟨δ,d1,d2⟩:=haft a (by grind) hab
    obtain⟨z,z1,z2,z3⟩:∃z,a<z∧z≤a+δ∧z≤b:=by
     rcases(show a+δ≤b∨b≤a+δ by grind)with w | w
     ·exact⟨a+δ,by grind,by grind,w⟩
     ·exact⟨b,hab,w,by grind⟩
    have hz:=d2 z z1 z2 z3
    have hσ:Zu (Go.Sky.sqf F o) z≠0:=fun e=>h.nz (x:=z) (by grind) ((h.zero z).1 e)
    have hf:=Ycp h.otr h.one h.ok (σ:=Zu (Go.Sky.sqf F o) z) hσ hab (fun x u v=>by
     obtain⟨ε,e1,e2⟩:=haft x u v
     refine⟨ε,e1,fun y c1 c2 c3=>?_⟩
     have hy:=e2 y c1 c2 c3
     have hyn:Zu (Go.Sky.sqf F o) y≠0:=fun e=>h.nz (x:=y) (by grind) ((h.zero y).1 e)
     rcases(show 0<Zu (Go.Sky.sqf F o) z*Zu (Go.Sky.sqf F o) y∨Zu (Go.Sky.sqf F o) z*Zu (Go.Sky.sqf F o) y<0∨Zu (Go.Sky.sqf F o) z*Zu (Go.Sky.sqf F o) y=0 by grind)with w | w | w
     ·exact w
     ·exfalso
      obtain⟨c,d,B,hc,hd,e⟩:=h.sq
      obtain⟨c',d',hc',hd',e'⟩:=h.srt
      have w1:Zu o z*Zu o y<0:=Zgn (Nm hd') (Nm hc') (e' z).symm (e' y).symm w
      have p1:=Rat.mul_pos hz hy
      have q1:((d:Rat)*(d:Rat))*(Zu p z*Zu p y)=((c:Rat)*(c:Rat))*((Zu o z*Zu o y)*((Zu B z*Zu B y)*(Zu B z*Zu B y))):=by
       have a1:=e z
       have a2:=e y
       have:((d:Rat)*Zu p z)*((d:Rat)*Zu p y)=((c:Rat)*(Zu o z*(Zu B z*Zu B z)))*((c:Rat)*(Zu o y*(Zu B y*Zu B y))):=by rw [a1,a2]
       grind
      have q2:=Rat.mul_pos (Fw (Nm hd)) p1
      have q3:0≤(Zu B z*Zu B y)*(Zu B z*Zu B y):=by
       by_cases t:Zu B z*Zu B y=0
       ·rw [t];grind
       ·exact Rat.le_of_lt (Fw t)
      have q4:=Rat.mul_nonneg (Rat.le_of_lt (Fw (Nm hc))) (Rat.mul_nonneg (show 0≤-(Zu o z*Zu o y) by grind) q3)
      grind
     ·rcases Rat.mul_eq_zero.1 w with t | t
      ·exact absurd t hσ
      ·exact absurd t hyn)
    unfold Zam at h1
    by_cases hb0:Zu o b=0
    ·rw [if_pos hb0]at h1;rw [if_pos ((h.zero b).2 hb0)]at hf;omega
    ·rw [if_neg hb0]at h1;rw [if_neg (fun e=>hb0 ((h.zero b).1 e))]at hf;omega
 ·rintro⟨x,x1,x2,x3⟩
  rcases(show x=a∨x=b∨(a<x∧x<b) by grind)with q | q | ⟨q1,q2⟩
  ·subst q;exact hsame.1 (.inl x3)
  ·subst q;exact hsame.1 (.inr (.inl x3))
  ·have r:=Zp7 p.length p a
   have r0:=Zem p.length p a h.tr h.ne (Nat.le_refl _)
   rcases(show Du p.length p a<0∨Du p.length p a=1 by omega)with h1 | h1
   ·exact .inl h1
   ·right
    have hv:=Zm5 h.tr h.ne h.sz h.hn h.hl h.hF h.eq h.otr h.one h.ok q1 h1 x3
    have m1:=Zjw h.otr h.one h.ok (Rat.le_of_lt q2)
    unfold Zam
    by_cases hb0:Zu o b=0
    ·rw [if_pos hb0]
     have hx:Zu (Go.Sky.sqf F o) x≠0:=fun e=>h.nz (x:=x) (by grind) ((h.zero x).1 e)
     rcases Int.lt_or_le (vch F o b) (vch F o x)with w | w
     ·omega
     ·exfalso
      have:=Zed h.otr h.one h.ok (Rat.le_of_lt q2) w hx b (Rat.le_of_lt q2) (by grind)
      rw [(h.zero b).2 hb0]at this
      grind
    ·rw [if_neg hb0];omega
theorem Zrz(g:Rat→Rat){h:Rat}(hh:0<h):∀(n:Nat) (u v:Rat),u<v→v-u≤(n:Rat)*h→g u*g v<0→∃x y,u≤x∧x<y∧y≤v∧y-x≤h∧g x≠0∧g x*g y≤0
 | 0,u,v,a,b,_=>by push_cast at b;grind
 | n+1,u,v,a,b,c=>by
  push_cast at b
  have hu:g u≠0:=fun e=>by rw [e]at c;grind
  by_cases hd:v-u≤h
  ·exact⟨u,v,by grind,a,by grind,hd,hu,by grind⟩
  ·rcases(show g u*g (u+h)≤0∨0<g u*g (u+h) by grind)with q | q
   ·exact⟨u,u+h,by grind,by grind,by grind,by grind,hu,q⟩
   ·have hz:g (u+h)*g v<0:=by
     have s1:=Fw hu
     rcases(show g (u+h)*g v<0∨0≤g (u+h)*g v by grind)with w | w
     ·exact w
     ·have m1:=Rat.mul_pos q (show 0 < -(g u*g v) by grind)
      have m2:=Rat.mul_nonneg (Rat.le_of_lt s1) w
      grind
    obtain⟨x,y,i1,i2,i3,i4,i5,i6⟩:=Zrz g hh n (u+h) v (by grind) (by grind) hz
    exact⟨x,y,by grind,i2,i3,i4,i5,i6⟩
theorem Zm4{a b c:Rat}(h:a*b<0)(h1:a-b≤c)(h2:b-a≤c):-c≤a∧a≤c:=by
 rcases(show 0<a∨a<0∨a=0 by grind)with q | q | q
 ·have:b<0:=by
   rcases(show b<0∨0≤b by grind)with w | w
   ·exact w
   ·have:=Rat.mul_nonneg (Rat.le_of_lt q) w;grind
  grind
 ·have:0<b:=by
   rcases(show 0<b∨b≤0 by grind)with w | w
   ·exact w
   ·have:=Rat.mul_nonneg (show 0≤-a by grind) (show 0≤-b by grind);grind
  grind
 ·rw [q]at h;grind
theorem Zsc{xs o:List Int}{F:Nat}(hx:Tr xs)(h0:xs≠[])(hC:Az F xs)(ho:Tr o)(o0:o≠[])(hE:Ed o (sqf F xs)){u v:Rat}(huv:u<v)(hu:Zu (sqf F xs) u≠0)(h:Zu o u*Zu o v<0):vch F xs v<vch F xs u:=by
 rcases Int.lt_or_le (vch F xs v) (vch F xs u)with q | q
 ·exact q
 ·exfalso
  have hk:=Zed hx h0 hC (Rat.le_of_lt huv) q hu
  obtain⟨k,w,k0,hw⟩:=hE
  have hkr:=Nm k0
  have hcop:∀d,Tr d→Ed d o→Ed d (tzl w)→d.length≤1:=fun d hd e1 e2=>by
   obtain⟨k1,s1,c1,r1⟩:=e1
   obtain⟨k2,s2,c2,r2⟩:=e2
   refine Zf2 hx h0 hC.1.2.2.1 hd ⟨k*k1,Nb w s1,Int.mul_ne_zero k0 c1,fun x=>?_⟩ ⟨k*k1*k2,Ko ((Nb (ld w) s1).map fun a=>k2*a) ((Nb s2 (ld o)).map fun a=>k1*a),Int.mul_ne_zero (Int.mul_ne_zero k0 c1) c2,fun x=>?_⟩
   ·rw [Xe];have a1:=hw x;have a2:=r1 x;push_cast;grind
   ·rw [Qz,Yn,Yn,Xe,Xe,Ha]
    have a0:=Cv (p:=(sqf F xs).map fun a=>k*a) (q:=Nb w o) (fun y=>by rw [Yn,Xe];exact hw y) x
    rw [Zad,Br]at a0
    have a2:=r1 x
    have a3:=r2 x
    rw [Kf]at a3
    push_cast
    have b1:(k:Rat)*k1*k2*Zu (ld (sqf F xs)) x=(k1:Rat)*k2*(Zu (ld w) x*Zu o x+Zu w x*Zu (ld o) x):=by rw [←a0];grind
    rw [b1]
    have b2:(k1:Rat)*k2*(Zu (ld w) x*Zu o x+Zu w x*Zu (ld o) x)=(k2:Rat)*(Zu (ld w) x*((k1:Rat)*Zu o x))+(k1:Rat)*(((k2:Rat)*Zu w x)*Zu (ld o) x):=by grind
    rw [b2,a2,a3]
    grind
  obtain⟨ε,e1,e2⟩:=Zww ho (Nk w) o0 hcop u v
  obtain⟨L1,l1,l2⟩:=Bq u v o
  obtain⟨L2,m1,m2⟩:=Bq u v w
  obtain⟨h',d1,-,d3⟩:=Gs (show(0:Rat)<1 by decide) (show 0<L1+L2 by grind) (show 0<ε/2 by grind)
  obtain⟨n,hn⟩:=Zhe (v-u) d1
  obtain⟨x,y,x1,x2,x3,x4,x5,x6⟩:=Zrz (Zu o) d1 n u v huv hn h
  have sx:=hk x x1 (by grind)
  have sy:=hk y (by grind) x3
  have ox:=hw x
  have oy:=hw y
  have hy0:Zu o y≠0:=fun e=>by
   rw [e]at oy
   rcases Rat.mul_eq_zero.1 (show(k:Rat)*Zu (sqf F xs) y=0 by grind)with t | t
   ·exact hkr t
   ·rw [t]at sy;grind
  have hoo:Zu o x*Zu o y<0:=by
   rcases(show Zu o x*Zu o y<0∨Zu o x*Zu o y=0 by grind)with t | t
   ·exact t
   ·rcases Rat.mul_eq_zero.1 t with t | t
    ·exact absurd t x5
    ·exact absurd t hy0
  have sxy:0<Zu (sqf F xs) x*Zu (sqf F xs) y:=by
   have a1:=Rat.mul_pos sx sy
   have a2:=Fw hu
   rcases(show 0<Zu (sqf F xs) x*Zu (sqf F xs) y∨Zu (sqf F xs) x*Zu (sqf F xs) y≤0 by grind)with t | t
   ·exact t
   ·have:=Rat.mul_nonneg (Rat.le_of_lt a2) (show 0≤-(Zu (sqf F xs) x*Zu (sqf F xs) y) by grind);grind
  have hww:Zu w x*Zu w y<0:=by
   have a1:(k:Rat)*k*(Zu (sqf F xs) x*Zu (sqf F xs) y)=(Zu w x*Zu w y)*(Zu o x*Zu o y):=by
    have:((k:Rat)*Zu (sqf F xs) x)*((k:Rat)*Zu (sqf F xs) y)=(Zu w x*Zu o x)*(Zu w y*Zu o y):=by rw [ox,oy]
    grind
   have a2:=Rat.mul_pos (Fw hkr) sxy
   rcases(show Zu w x*Zu w y<0∨0≤Zu w x*Zu w y by grind)with t | t
   ·exact t
   ·have:=Rat.mul_nonneg t (show 0≤-(Zu o x*Zu o y) by grind);grind
  have c1:=l2 x y x1 (by grind) x3
  have c2:=m2 x y x1 (by grind) x3
  have n1:=Rat.mul_nonneg (a:=L1) (b:=h'-(y-x)) (by grind) (by grind)
  have n2:=Rat.mul_nonneg (a:=L2) (b:=h'-(y-x)) (by grind) (by grind)
  have n3:=Rat.mul_nonneg (a:=L1) (b:=h') (by grind) (by grind)
  have n4:=Rat.mul_nonneg (a:=L2) (b:=h') (by grind) (by grind)
  obtain⟨b1,b2⟩:=Zm4 (c:=ε/2) hoo (by grind) (by grind)
  obtain⟨b3,b4⟩:=Zm4 (c:=ε/2) hww (by grind) (by grind)
  rcases e2 x x1 (by grind)with t | t
  ·unfold Big at t;grind
  ·unfold Big at t;rw [Kf]at t;grind
theorem Zmw{xs:List Int}{F:Nat}(hx:Tr xs)(h0:xs≠[])(hC:Az F xs){u v:Rat}(huv:u<v)(hu:Zu (sqf F xs) u≠0)(hv:Zu (sqf F xs) v=0):vch F xs v<vch F xs u:=by
 rcases Int.lt_or_le (vch F xs v) (vch F xs u)with q | q
 ·exact q
 ·exfalso
  have:=Zed hx h0 hC (Rat.le_of_lt huv) q hu v (Rat.le_of_lt huv) (by grind)
  rw [hv]at this;grind
theorem Odp.ed{F n:Nat}{p o:List Int}(h:Odp F n p o):Ed o (Go.Sky.sqf F p):=by
 have hD:=Dp.start h.tr h.ne
 obtain⟨-,hE⟩:=Ep h.tr h.ne h.sz h.hn h.hl h.hF p.length (Qa p) hD (by rw [Nf h.tr];exact Nat.le_refl _)
 rw [←h.eq]at hE
 rwa [Cj hD.2.2.1]at hE
theorem Zzw{xs:List Int}{F:Nat}(hx:Tr xs)(h0:xs≠[])(hC:Az F xs)(x:Rat):Zu xs x=0↔Zu (sqf F xs) x=0:=by
 constructor
 ·intro h
  have hd:(x.den:Int)≠0:=by exact_mod_cast x.den_nz
  have e:((x.num:Int):Rat)/((x.den:Int):Rat)=x:=by rw [←Rat.divInt_eq_div];exact Rat.num_divInt_den x
  have:=Zzy hx h0 hC.1.2.2.1 hd (r:=x.num) (by rw [e];exact h)
  rwa [e]at this
 ·intro h
  obtain⟨g,hg⟩:=Yel hx h0 hC.1.2.2.1
  rw [hg x,h];grind
theorem Ye8 {F n:Nat} {p o:List Int} (h:Odp F n p o) (hC:Az F p) {K:Nat} {e:Nat} (sep:∀u v:Rat,-(K:Rat)≤u→u≤v→v≤(K:Rat)→v-u≤1/((2^e:Nat):Rat)→vch F p u-vch F p v≤1)
  {s t:Rat} (h1:-(K:Rat)+1≤s) (h2:t≤(K:Rat)) (hs:0≤Zu p s) (ht:0≤Zu p t) (hn:Ziz p s t):1/((2^(e+1):Nat):Rat)<t-s:=by
 obtain⟨x,x1,x2,x3⟩:=hn
 have y1:s<x:=by rcases(show s<x∨s=x by grind)with q | q;exact q;subst q;grind
 have y2:x<t:=by rcases(show x<t∨x=t by grind)with q | q;exact q;subst q;grind
 obtain⟨f1,f2,f3,f4,f5,f6⟩:=Mf (F:=F) h.tr h.ne hC.1.2.2.1
 have hx0:Zu (Go.Sky.sqf F p) x≠0:=fun z=>by have:=(Zzw h.tr h.ne hC x).2 z;grind
 rcases(show 1/((2^(e+1):Nat):Rat)<t-s∨t-s≤1/((2^(e+1):Nat):Rat) by grind)with q | q
 ·exact q
 ·exfalso
  have hp:=two_pow_pos e
  have hp1:=two_pow_pos (e+1)
  have e2:((2^(e+1):Nat):Rat)=2*((2^e:Nat):Rat):=by rw [Nat.pow_succ];push_cast;grind
  have hi:0<((2^e:Nat):Rat)⁻¹:=Rat.inv_pos.2 hp
  have h2e:1/((2^(e+1):Nat):Rat)=((2^e:Nat):Rat)⁻¹/2:=by rw [e2];grind
  have h1e:1/((2^e:Nat):Rat)=((2^e:Nat):Rat)⁻¹:=by grind
  have hle:((2^e:Nat):Rat)⁻¹≤1:=by
   have g1:(1:Rat)≤((2^e:Nat):Rat):=by have:1≤2^e:=Nat.two_pow_pos e;exact_mod_cast this
   have g2:=Rat.mul_nonneg (a:=((2^e:Nat):Rat)-1) (b:=((2^e:Nat):Rat)⁻¹) (by grind) (by grind)
   have g3:((2^e:Nat):Rat)*((2^e:Nat):Rat)⁻¹=1:=Rat.mul_inv_cancel _ (by grind)
   grind
  obtain⟨u,u1,u2,u3⟩:∃u,s-((2^e:Nat):Rat)⁻¹/2≤u∧u≤s∧vch F p x<vch F p u:=by
   by_cases z:Zu (Go.Sky.sqf F p) s=0
   ·obtain⟨δ,d1,d2⟩:=Ax (Go.Sky.sqf F p).length (Go.Sky.sqf F p) (s-((2^e:Nat):Rat)⁻¹/2) (Nat.le_refl _)
    have a0:=Zem (Go.Sky.sqf F p).length (Go.Sky.sqf F p) (s-((2^e:Nat):Rat)⁻¹/2) f2 f3 (Nat.le_refl _)
    obtain⟨u,w1,w2,w3⟩:∃u,s-((2^e:Nat):Rat)⁻¹/2<u∧u≤s-((2^e:Nat):Rat)⁻¹/2+δ∧u<s:=by
     rcases(show s-((2^e:Nat):Rat)⁻¹/2+δ<s∨s≤s-((2^e:Nat):Rat)⁻¹/2+δ by grind)with w | w
     ·exact⟨_,by grind,Rat.le_refl,w⟩
     ·exact⟨s-((2^e:Nat):Rat)⁻¹/4,by grind,by grind,by grind⟩
    have hu:Zu (Go.Sky.sqf F p) u≠0:=fun c=>by have:=d2 u w1 w2;rw [c]at this;exact a0 this.symm
    have m1:=Zmw h.tr h.ne hC w3 hu z
    have m2:=Zjw h.tr h.ne hC (Rat.le_of_lt y1)
    exact⟨u,by grind,by grind,by omega⟩
   ·have hp0:0<Zu p s:=by
     have:Zu p s≠0:=fun c=>z ((Zzw h.tr h.ne hC s).1 c)
     grind
    have k:=h.opp (x:=s) (y:=x) (by have:=Rat.mul_pos hp0 (show 0 < -Zu p x by grind);grind)
    exact⟨s,by grind,by grind,Zsc h.tr h.ne hC h.otr h.one h.ed y1 z k.1⟩
  have u4:vch F p t<vch F p x:=by
   by_cases z:Zu (Go.Sky.sqf F p) t=0
   ·exact Zmw h.tr h.ne hC y2 hx0 z
   ·have hp0:0<Zu p t:=by
     have:Zu p t≠0:=fun c=>z ((Zzw h.tr h.ne hC t).1 c)
     grind
    have k:=h.opp (x:=x) (y:=t) (by have:=Rat.mul_pos hp0 (show 0 < -Zu p x by grind);grind)
    exact Zsc h.tr h.ne hC h.otr h.one h.ed y2 hx0 k.1
  have:=sep u t (by grind) (by grind) h2 (by grind)
  omega
def Zc1(xs:List Int)(m:Nat):Prop:=xs.length=0∨(xs.length+2)*(xs.length+2)*(Pf xs+m+2*(xs.length-1)+32)≤65536
instance (xs:List Int) (m:Nat):Decidable (Zc1 xs m):=by unfold Zc1;infer_instance
theorem sgf_t{xs:List Int}{m:Nat}(h:xs.length=0):Value.bool (decide (Zc1 xs m))= .bool true:=congrArg Value.bool (decide_eq_true (.inl h))
theorem sgf_i{xs:List Int}{m:Nat}{n:Int}(h:xs.length≠0)(hn:n=(((xs.length+2)*(xs.length+2)*(Pf xs+m+2*(xs.length-1)+32):Nat):Int)):Value.bool (decide (Zc1 xs m))= .bool (decide (n≤65536)):=congrArg Value.bool (decide_eq_decide.2 (by
 subst hn
 show(xs.length=0∨_≤65536)↔_
 constructor
 ·intro h1;rcases h1 with h1 | h1
  ·exact absurd h1 h
  ·exact Int.ofNat_le.2 h1
 ·intro h1;exact .inr (Int.ofNat_le.1 h1)))
def efit(z:R2):Bool:=decide (max (bl z.1.natAbs) (bl z.2.natAbs)≤512)
def Ziv:List Int→Int
 | []=>0
 | x :: r=>if x=0 then Ziv r else x
theorem Zr3{s:Int}(h:s≠0):∀{L:List Int} {i:Nat},i<L.length→(∀k,k<i→L.getD k 0=0)→L.getD i 0=s→Ziv L=s
 | [],i,hi,_,_=>absurd hi (by simp)
 | x :: r,0,_,_,hs=>by have e:x=s:=hs;subst e;unfold Ziv;rw [if_neg h]
 | x :: r,i+1,hi,hz,hs=>by
  have e:x=0:=hz 0 (by omega)
  unfold Ziv;rw [if_pos e]
  exact Zr3 h (L:=r) (i:=i) (by simpa using hi) (fun k hk=>hz (k+1) (by omega)) hs
theorem Znc:∀{L:List Int},(∀k,k<L.length→L.getD k 0=0)→Ziv L=0
 | [],_=>rfl
 | x :: r,hz=>by
  have e:x=0:=hz 0 (by simp)
  unfold Ziv;rw [if_pos e]
  exact Znc fun k hk=>hz (k+1) (by simpa using hk)
def aft(Ls:List (List Int))(m:R2):Int:=Ziv (Ls.map (fat m.1 m.2))
def vlu(Ls:List (List Int))(m:R2):Int:=if Ls.length=0 then 0 else fat m.1 m.2 (Ls.getD 0 [])
def chv(Ls:List (List Int))(m:R2):Int:=chg (Ls.map (fat m.1 m.2))
def crb(Ls:List (List Int))(a b:R2):Bool:=if Ls.length=0 then false else decide (0<chv Ls a-chv Ls b-if fat b.1 b.2 (Ls.getD 0 [])=0 then 1 else 0)
def Iz(a b:R2):Int:=(a.1*b.2-b.1*a.2).sign
def Bj(ds cs:List (List Int))(a b:R2):Bool:=if Iz a b=0 then decide (vlu ds a<0)else(decide (aft ds a<0) || crb cs a b)
theorem Zxj(ls:List (SL×List Int))(x y:Int):aft (ls.map Prod.snd) (x,y)=Ziv (sgx ls (fat x y)):=by unfold aft;rw [Zuz rfl]
theorem Ygf(ls:List (SL×List Int))(x y:Int):chv (ls.map Prod.snd) (x,y)=chg (sgx ls (fat x y)):=by unfold chv;rw [Zuz rfl]
theorem Zho(ls:List (SL×List Int)){i:Nat}(h:i<ls.length):(ls.map Prod.snd).getD i []=(ls.getD i Z0).2:=by
 rw [List.getD_eq_getElem?_getD,List.getD_eq_getElem?_getD,List.getElem?_map,List.getElem?_eq_getElem h];rfl
theorem Zw7(Ls:List (List Int))(m:R2):0≤chv Ls m∧chv Ls m≤(Ls.length:Int):=by
 have:=Zbn (Ls.map (fat m.1 m.2));rw [List.length_map]at this;exact this
theorem Zqw{x:Rat}(h:Dd x=0):x=0:=by
 rcases Oy x with⟨h5,h6⟩ | ⟨h5,h6⟩ | ⟨h5,h6⟩
 ·rw [h6]at h;exact absurd h (by decide)
 ·rw [h6]at h;exact absurd h (by decide)
 ·exact h5
theorem sgm_i{x l:Int}(hx:-1≤x∧x≤1)(hl:-1≤l∧l≤1):inI (x*l):=by
 rcases(show x=-1∨x=0∨x=1 by omega)with h | h | h<;>subst h
 ·exact⟨by omega,by omega⟩
 ·exact⟨by omega,by omega⟩
 ·exact⟨by omega,by omega⟩
theorem Zu3{x l:Int}(hx:-1≤x∧x≤1)(hl:-1≤l∧l≤1)(h:x*l<0):x=-l:=by
 rcases(show x=-1∨x=0∨x=1 by omega)with h | h | h<;>subst h<;>omega
theorem Zu2{x l:Int}(hx:-1≤x∧x≤1)(hl:-1≤l∧l≤1)(h:¬x*l<0)(h0:x≠0):¬x=-l:=by
 rcases(show x=-1∨x=0∨x=1 by omega)with h | h | h<;>subst h<;>omega
theorem Zu4{x l:Int}(h:x=0):¬x*l<0:=by subst h;omega
theorem crb_t{cs:List (SL×List Int)}{x y x2 y2:Int}(h:cs.length≠0)(h0:fat x2 y2 (cs.getD 0 Z0).2=0):Value.bool (crb (cs.map Prod.snd) (x,y) (x2,y2))= .bool (decide (0<chv (cs.map Prod.snd) (x,y)-chv (cs.map Prod.snd) (x2,y2)-1)):=by
 unfold crb;rw [List.length_map,if_neg h,Zho _ (by omega),if_pos h0]
theorem crb_f{cs:List (SL×List Int)}{x y x2 y2:Int}(h:cs.length≠0)(h0:¬fat x2 y2 (cs.getD 0 Z0).2=0):Value.bool (crb (cs.map Prod.snd) (x,y) (x2,y2))= .bool (decide (0<chv (cs.map Prod.snd) (x,y)-chv (cs.map Prod.snd) (x2,y2))):=by
 unfold crb;rw [List.length_map,if_neg h,Zho _ (by omega),if_neg h0,Int.sub_zero]
theorem ngb_t{ds cs:List (List Int)}{a b:R2}(h:¬Iz a b=0)(h0:aft ds a<0):Value.bool (Bj ds cs a b)= .bool true:=by
 unfold Bj;rw [if_neg h,decide_eq_true h0];rfl
theorem ngb_f{ds cs:List (List Int)}{a b:R2}(h:¬Iz a b=0)(h0:¬aft ds a<0):Value.bool (Bj ds cs a b)= .bool (crb cs a b):=by
 unfold Bj;rw [if_neg h,decide_eq_false h0];rfl
def Zfl:Nat→List Int→List (List Int)
 | 0,_=>[]
 | n+1,p=>if p.length=0 then []else p :: Zfl n (Xy p)
theorem Zlh{m:R2}(hm:0<m.2):∀(n:Nat) (p:List Int),p.length≤n→aft (Zfl n p) m=Du n p (qv m)
 | 0,p,hl=>rfl
 | n+1,p,hl=>by
  unfold Zfl
  by_cases h0:p.length=0
  ·rw [if_pos h0]
   have:p=[]:=List.eq_nil_of_length_eq_zero h0
   subst this
   have hz:∀n,Du n [] (qv m)=0:=fun n=>by
    induction n with
    | zero=>rfl
    | succ n ih=>unfold Du;rw [if_neg (by show ¬(0:Rat)≠0;simp)];exact ih
   rw [hz];rfl
  ·rw [if_neg h0]
   have ld':=Nq p
   have ih:=Zlh hm n (Xy p) (by omega)
   unfold aft at ih ⊢
   rw [List.map_cons]
   unfold Ziv Du
   have hf:fat m.1 m.2 p=Dd (Zu p (qv m)):=Zeg hm p
   rw [hf]
   by_cases hz:Zu p (qv m)=0
   ·rw [if_pos (Zqx hz),if_neg (by simpa using hz)];exact ih
   ·rw [if_neg (fun e=>hz (Zqw e)),if_pos hz]
variable {P:Program} {N:Nat} {sc:Nat→Prop} {env env':Kl} {H H':Hp} {Q Q':Exit→Act→World→Prop}
theorem Zqt(w:World)(g:Nat)(cs:Array Value)(t:TypeId)(fr:Nat×Nat)(hg:w.heap[g]? = some (.cells cs t fr)):w.setRow g cs=w:=by
 obtain⟨hlt,hv⟩:=Array.getElem?_eq_some_iff.1 hg
 have h:(w.setRow g cs).heap=w.heap:=by
  apply Array.ext_getElem?
  intro i
  by_cases h:g=i
  ·subst h;rw [setRow_heap w g cs cs t fr hg,hg]
  ·unfold World.setRow
   dsimp only
   rw [Array.getElem?_modify,if_neg h]
 have e:w.setRow g cs={ w with heap:=(w.setRow g cs).heap }:=rfl
 rw [e,h]
theorem Zmn {M:Nat→Prop} {o:Oper} {x y:Operand} {t tb:TypeId} {i b j k:Nat} {cs:Array Value} {v:Value} {vs:List Value} (ho:o.op= .store t x y) (hd:o.dst=none)
  (hx:ev env x=some (.pointer (some ⟨b,j,none⟩))) (hy:ev env y=some v) (hH:lk H i=some (Df b tb cs)) (hv:v.cells=vs.toArray) (hk:∀w,(sizeOf t).run P w= .ok k w) (hlen:vs.length=k)
  (hfit:Nat.ble (j+vs.length) cs.size=true) (h1:∀u∈vs,u.oneCell'=true) (hset:Ap cs j vs=cs) :
  T P N sc M o env H (G:=Unit) (fun _=>True) (fun _=>env) (fun _=>H):=fun a w hs K Q hK=>by
 have hb:w.heap[b]? = some (.cells cs tb (0,0)):=hs.hold i _ hH
 have hst:=run_storeCells_at P b j tb vs 0 cs w hb (by simpa using Nat.le_of_ble_eq_true hfit) h1
 simp only [Nat.add_zero]at hst
 have hr:(execOp a.eval o).run P w= .ok .skip (w.setRow b (Ap cs j vs)):=by
  simp [execOp,ho,hs.ev hx,hs.ev hy,Instr.storeAt,Instr.sureAddr,storeVar,hv,hk,hlen,hst,Ap]
 rw [hset,Zqt w b cs tb _ hb]at hr
 unfold Oper.wp
 rw [hr]
 show K (a.put o.dst _) _
 rw [hd]
 exact hK () _ _ trivial (hs.put_none undef) (Chg.refl _ _)
theorem Yfr{c:Code}(h:E P N sc c (Exit.noGoto Q) env H):E P N sc (.scope c) Q env H:=fun a w hs=>wp_scope_straight (h a w hs)
theorem Zy9(h:X N sc .ret Q env H):X N sc .ret (Exit.noGoto Q) env H:=h
theorem Yfs{l:Nat}(h:X N sc .normal Q env H):E P N sc (.label l) Q env H:=fun a w hs=>wp_label (h a w hs)
theorem Zzj {M:Nat→Prop} {o:Oper} {x y:Operand} {t tb:TypeId} {i b j:Nat} {cs:Array Value} {v:Value} {w0:World} {M0:Nat→Prop} (ho:o.op= .store t x y) (hd:o.dst=none)
  (hx:ev env x=some (.pointer (some ⟨b,j,none⟩))) (hy:ev env y=some v) (hH:lk H i=some (box b tb cs)) (hk:∀w,(sizeOf t).run P w= .ok 1 w) (hfit:Nat.ble (j+1) cs.size=true) (h1:One N sc env H v)
  (h0:lk H 0=some (La w0 M0)) (hw:∀b,w0.heap.size≤b→sc b) (hM:M b) (hi0:i≠0:=by decide) :
  T P N sc M o env H (G:=Unit) (fun _=>True) (fun _=>env) (fun _=>(i,box b tb (Ap cs j [v])) :: H):=fun a w hs=>
 Zj2 (cs':=#[]) (vs:=[v]) ho hd hx hy hH (Kj (h1 a w hs)) hk rfl hfit ⟨h1,trivial⟩ h0 hw hM hi0 a w hs
theorem Ya3{v:Value}{zs:List (SL×List Int)}{al:Bool}{r:List Pc}{z:SL×List Int}(i:Nat)(hi:lk H i=some (Ek 1 Gx (fun y:SL×List Int=>Pw 2 wv (svv y.1) y.2) v zs))(hi0:Nat.beq i 0=false)(hz:z∈zs)(h:PreOk H al r):PreOk H al (Pw 2 wv (svv z.1) z.2 :: r):=Zq7 (q:=fun y:SL×List Int=>Pw 2 wv (svv y.1) y.2) (z:=z) i hi hi0 hz h
theorem d_lr2 {o:Oper} {x:Operand} {t tb:TypeId} {i b j:Nat} {cs:Array Value} {v0 v1:Value} (ho:o.op= .load t x) (hx:ev env x=some (.pointer (some ⟨b,j,none⟩))) (hH:lk H i=some (Df b tb cs)) (ht:∀w,(isAgg t).run P w= .ok true w) (hk:∀w,(sizeOf t).run P w= .ok 2 w)
  (h0:cs[j]? = some v0) (h1:cs[j+1]? = some v1):Kz P N sc o env H (.agg #[v0,v1]):=
 d_lra (vs:=[v0,v1]) ho hx hH ht hk rfl (fun n u hn=>by
  match n,hn with
  | 0,hn=>simp at hn;subst hn;exact h0
  | 1,hn=>simp at hn;subst hn;exact h1)
end Go.Sky

