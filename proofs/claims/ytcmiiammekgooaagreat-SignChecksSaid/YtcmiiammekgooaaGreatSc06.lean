/- Rules, arithmetic and contracts: part 7. No conditions but those that each theorem names. -/
import Derived.Test.YtcmiiammekgooaaGreatSc05
set_option linter.all false
namespace Go.Sky
theorem Zxu{u t:List Int}(hu:Tr u)(u0:u≠[])(ht:Tr t)(t0:t≠[])(hn:Qj t=t)(h:Ed t u):pdv u t∧u=Ou (Kt u t) t∧Tr (Kt u t)∧Kt u t≠[]:=by
 have hc:Ql t=1:=by have:=Za6 ht t0;rwa [hn]at this
 obtain⟨k,s,hk,h⟩:=h.dv
 obtain⟨q,hq⟩:=gauss hc _ k s rfl hk h
 have hqe:u=Ou (tzl q) t:=hu.ext (Om _ _) fun i=>by rw [Gx,hq,Zoe]
 obtain⟨p1,p2⟩:=Zol (Nr q) ht t0
 rw [←hqe]at p1 p2
 rw [p2]
 exact⟨p1,hqe,Nr q,fun e=>u0 (by rw [hqe,e,Fw])⟩
theorem Zk0{F:Nat}{p:List Int}(hp:Tr p)(h0:p≠[])(hok:Ez F p)(h2:2≤p.length):(Nw F p).length<p.length:=by
 obtain⟨a1,a2,-⟩:=Nb hp h0 hok
 have ht:Tr (Qj p):=Mp (Qf hp)
 have e1:Ed (Nw F p) (Qi (Qj p)):=(Zd6 ht (Mz ht) hok).2.ed
 have hl:=Nv (Qj p)
 have hn:=Ng hp
 have:=(e1.len a1 (Mz ht) (fun e=>by rw [e]at hl;simp at hl;omega)).2
 omega
theorem Yep{p:List Int}(hp:Tr p)(hn:Qj p=p)(hl:p.length=1):p=[1]:=by
 have h0:p≠[]:=fun e=>by rw [e]at hl;simp at hl
 have hc:=Za6 hp h0
 have hd:0<cf (Qj p) ((Qj p).length-1):=Ai (Qf hp) (fun e=>h0 (List.eq_nil_of_length_eq_zero (by rw [←Xd,e];rfl)))
 rw [hn]at hc hd
 match p,hl with
 | [c],_=>
  have hd':0<c:=hd
  have h1:c∣Ql [c]:=El fun i=>by
   match i with
   | 0=>exact Int.dvd_refl c
   | i+1=>rw [Qe (by simp)];exact Int.dvd_zero c
  rw [hc]at h1
  have:=Int.le_of_dvd (by decide) h1
  rw [show c=1 by omega]
def Dp(p q:List Int):Prop:=Tr q∧q≠[]∧Qj q=q∧∃a,Tr a∧Qj p=Ou a q
theorem Dp.start{p:List Int}(hp:Tr p)(h0:p≠[]):Dp p (Qj p):=
 ⟨Mp (Qf hp),Zhs hp h0,Ztj (Mp (Qf hp)) (Za6 hp h0) (Ai (Qf hp) (fun e=>h0 (List.eq_nil_of_length_eq_zero (by rw [←Xd,e];rfl)))),[1],.inr (show cf [1] 0≠0 by decide),by
  refine(Mp (Qf hp)).ext (Om _ _) fun i=>?_
  rw [Gx,Zq6];rfl⟩
theorem Dp.sz{p q:List Int}{n:Nat}(hp:Tr p)(h0:p≠[])(hs:Sz n p)(hl:p.length≤13)(h:Dp p q):Sz (n+130) q∧q.length≤p.length:=by
 obtain⟨h1,h2,h3,a,ha,e⟩:=h
 have hK:kkR 24 13*(24+1)^13<2^130:=by decide +kernel
 have hln:=Ng hp
 have hn0:=Zhs hp h0
 have ht:Tr (Qj p):=Mp (Qf hp)
 have a0:a≠[]:=fun e2=>hn0 (by rw [e,e2,Fw])
 refine⟨Fy (L:=13) (R:=24) h1 ha (Znp hs) hn0 ht (by omega) (by decide) hK (by rw [Bt];exact e),?_⟩
 have hlq:=Nz ha h1 a0 h2
 rw [←e,hln]at hlq
 have:=List.length_pos_iff.2 a0
 omega
theorem Dp.ok{p q:List Int}{n F:Nat}(hp:Tr p)(h0:p≠[])(hs:Sz n p)(hn:n≤130)(hl:p.length≤13)(hF:p.length≤F+1)(h:Dp p q):Ar F q∧Ez F q:=by
 obtain⟨s1,s2⟩:=h.sz hp h0 hs hl
 have:=(chF F h.1 h.2.1 s1 (by omega) (by omega) (by omega)).1
 exact⟨this,this.1.2.2.1⟩
theorem Dp.next{p q:List Int}{F:Nat}(h:Dp p q)(hok:Ez F q):Dp p (Nw F q):=by
 obtain⟨h1,h2,h3,a,ha,e⟩:=h
 obtain⟨a1,a2,a3,a4,a5⟩:=Nb h1 h2 hok
 refine⟨a1,a2,a3,Ou a (sqf F q),Om _ _,?_⟩
 rw [h3]at a4
 refine e.trans ((congrArg (Ou a) a4).trans ?_)
 refine(Om _ _).ext (Om _ _) fun i=>Lr (fun x=>?_) i
 rw [Xy,Xy,Xy,Xy];grind
def Cw(F:Nat):Nat→List Int→List Int
 | 0,p=>sqf F p
 | f+1,p=>if(sqf F p).length=1 then sqf F p else Ou (Kt (sqf F p) (sqf F (Nw F p))) (Cw F f (Nw F (Nw F p)))
def Zoq(F:Nat):Nat→List Int→List Int→List Int
 | 0,out,_=>out
 | f+1,out,q=>if(sqf F q).length=1 then out else if(sqf F (Nw F q)).length=1 then Ou out (Kt (sqf F q) (sqf F (Nw F q)))else Zoq F f (Ou out (Kt (sqf F q) (sqf F (Nw F q)))) (Nw F (Nw F q))
theorem Zf1{F:Nat}{q:List Int}(hq:Tr q)(h0:q≠[])(hok:Ez F q)(h:(sqf F q).length=1):sqf F q=[1]∧q.length=1∧(Nw F q).length=1:=by
 obtain⟨f1,f2,f3,f4,f5,f6⟩:=Mi (F:=F) hq h0 hok
 obtain⟨a1,a2,a3,a4,a5⟩:=Nb hq h0 hok
 have l0:=List.length_pos_iff.2 h0
 have hl:q.length=1:=by
  rcases Nat.lt_or_ge q.length 2 with h2 | h2
  ·omega
  ·have:=Zk0 hq h0 hok h2;omega
 exact⟨Yep f2 f6 h,hl,by omega⟩
theorem Zoj{p:List Int}(hp:Tr p):Ou p [1]=p:=by
 refine(Om _ _).ext hp fun i=>Lr (fun x=>?_) i
 rw [Xy,Nu];push_cast;grind
theorem Yat{F:Nat}{q:List Int}(hq:Tr q)(h0:q≠[])(hok:Ez F q)(h:q.length=1):∀f,Cw F f q=[1]:=fun f=>by
 obtain⟨f1,f2,f3,f4,f5,f6⟩:=Mi (F:=F) hq h0 hok
 obtain⟨a1,a2,a3,a4,a5⟩:=Nb hq h0 hok
 have l1:=List.length_pos_iff.2 f3
 have l2:=List.length_pos_iff.2 a2
 have hs:(sqf F q).length=1:=by omega
 have:=(Zf1 hq h0 hok hs).1
 cases f with
 | zero=>exact this
 | succ f=>unfold Cw;rw [if_pos hs];exact this
theorem Zi1{F:Nat}{p:List Int}{f:Nat}{q:List Int}(hq:Tr q)(h0:q≠[])(hok:Ez F q):Tr (Cw F f q):=by
 obtain⟨f1,f2,f3,f4,f5,f6⟩:=Mi (F:=F) hq h0 hok
 cases f with
 | zero=>exact f2
 | succ f=>unfold Cw;split;exact f2;exact Om _ _
theorem Zvn{F n:Nat}{p:List Int}(hp:Tr p)(h0:p≠[])(hs:Sz n p)(hn:n≤130)(hl:p.length≤13)(hF:p.length≤F+1):∀(f:Nat) (out q:List Int),Tr out→Dp p q→q.length≤f→Zoq F f out q=Ou out (Cw F f q):=by
 intro f
 induction f with
 | zero=>intro out q _ hq hlq;have:=List.length_pos_iff.2 hq.2.1;omega
 | succ f ih=>
  intro out q ho hq hlq
  have hok:=(hq.ok hp h0 hs hn hl hF).2
  have hg:=hq.next hok
  have hok2:=(hg.ok hp h0 hs hn hl hF).2
  have hg2:=hg.next hok2
  have hok3:=(hg2.ok hp h0 hs hn hl hF).2
  unfold Zoq Cw
  by_cases c1:(sqf F q).length=1
  ·rw [if_pos c1,if_pos c1,(Zf1 hq.1 hq.2.1 hok c1).1,Zoj ho]
  ·rw [if_neg c1,if_neg c1]
   have lq:2≤q.length:=by
    obtain⟨f1,f2,f3,f4,f5,f6⟩:=Mi (F:=F) hq.1 hq.2.1 hok
    obtain⟨a1,a2,a3,a4,a5⟩:=Nb hq.1 hq.2.1 hok
    have l1:=List.length_pos_iff.2 f3
    have l2:=List.length_pos_iff.2 a2
    omega
   have lt1:=Zk0 hq.1 hq.2.1 hok lq
   obtain⟨-,-,-,-,b5⟩:=Nb hg.1 hg.2.1 hok2
   obtain⟨-,b2,b3,-,-,-⟩:=Mi (F:=F) hg.1 hg.2.1 hok2
   have lb:=List.length_pos_iff.2 b3
   by_cases c2:(sqf F (Nw F q)).length=1
   ·obtain⟨s1,s2,s3⟩:=Zf1 hg.1 hg.2.1 hok2 c2
    rw [if_pos c2,Yat hg2.1 hg2.2.1 hok3 s3]
    refine(Om _ _).ext (Om _ _) fun i=>Lr (fun x=>?_) i
    rw [Xy,Xy,Xy,Nu];push_cast;grind
   ·rw [if_neg c2,ih _ _ (Om _ _) hg2 (by omega)]
    refine(Om _ _).ext (Om _ _) fun i=>Lr (fun x=>?_) i
    rw [Xy,Xy,Xy,Xy];grind
theorem Ztd{q:List Int}{e:Int}(he:e=1∨e=-1)(h:Ql q=1):Ql (Xw q e)=1:=by
 have h1:Ql (Xw q e)∣Ql q:=El fun i=>by
  have:=Kp (Xw q e) i
  rw [Qo]at this
  rcases he with rfl | rfl
  ·rwa [Int.mul_one]at this
  ·rw [Int.mul_neg_one]at this;exact(Int.dvd_neg.1 this)
 rw [h]at h1
 have h2:=Lt (Xw q e)
 have h3:=Int.le_of_dvd (by decide) h1
 rcases(show Ql (Xw q e)=0∨Ql (Xw q e)=1 by omega)with h4 | h4
 ·rw [h4]at h1;exact absurd (Int.zero_dvd.1 h1) (by decide)
 ·exact h4
theorem Yaq{q:List Int}(h:Ql q=1):Xf q=q:=by
 unfold Xf;rw [h];simp
theorem Zqg{F:Nat}{q:List Int}{e:Int}(hq:Tr q)(q0:q≠[])(hn:Qj q=q)(hok:Ez F q)(he:e=1∨e=-1) :
  Tr (Xw q e)∧Xw q e≠[]∧Qj (Xw q e)=q∧Xf (Xw q e)=Xw q e∧pdv (Xw q e) (sqf F q)∧Kt (Xw q e) (sqf F q)=Xw (Nw F q) e:=by
 have e0:e≠0:=by rcases he with rfl | rfl<;>decide
 obtain⟨f1,f2,f3,f4,f5,f6⟩:=Mi (F:=F) hq q0 hok
 obtain⟨a1,a2,a3,a4,a5⟩:=Nb hq q0 hok
 have hc:Ql q=1:=by have:=Za6 hq q0;rwa [hn]at this
 rw [hn]at a4
 have hw:Xw q e=Ou (Xw (Nw F q) e) (sqf F q):=by
  refine(Oh _ _).ext (Om _ _) fun i=>Lr (fun x=>?_) i
  have:Zw q x=Zw (Ou (sqf F q) (Nw F q)) x:=by rw [←a4]
  rw [Zj8,Xy,Zj8,this,Xy];grind
 obtain⟨p1,p2⟩:=Zol (Oh (Nw F q) e) f2 f3
 rw [←hw]at p1 p2
 exact⟨Oh _ _,Zms hq q0 e0,by rw [Zos (Oh _ _) hq (Ze8 q e0).symm,hn],Yaq (Ztd he hc),p1,p2⟩
theorem Yap{p:List Int}(hp:Tr p)(h0:p≠[]):∃e:Int,(e=1∨e=-1)∧Xf p=Xw (Qj p) e:=by
 by_cases h:cf (Xf p) ((Xf p).length-1)<0
 ·refine⟨-1,.inr rfl,?_⟩
  rw [Zi4 (fun e=>h0 (List.eq_nil_of_length_eq_zero (by rw [←Xd,e]))) h]
  refine(Qf hp).ext (Oh _ _) fun i=>?_
  rw [Qo,Qo];omega
 ·refine⟨1,.inl rfl,?_⟩
  rw [Zi3 h]
  refine(Qf hp).ext (Oh _ _) fun i=>?_
  rw [Qo];omega
def Mr(F:Nat)(p:List Int):List Int:=Kt (Xw (Xf p) 1) (sqf F p)
def Ab(F:Nat)(p:List Int):List Int:=Kt (Xf (Mr F p)) (sqf F (Mr F p))
def Zcz(F:Nat):Nat→List Int→List Int
 | 0,p=>sqf F p
 | f+1,p=>if(sqf F p).length=1 then sqf F p else Ou (Kt (sqf F p) (sqf F (Mr F p))) (Zcz F f (Ab F p))
theorem Cd{F:Nat}{p q:List Int}(h:Qj p=Qj q):sqf F p=sqf F q:=by unfold sqf;rw [h]
theorem Zi6{F:Nat}{p q:List Int}(h:Qj p=Qj q):Nw F p=Nw F q:=by unfold Nw;rw [h]
theorem Zkd{F:Nat}{p q:List Int}(h:Qj p=Qj q):∀f,Cw F f p=Cw F f q
 | 0=>Cd h
 | f+1=>by unfold Cw;rw [Cd h,Zi6 h]
theorem Zj6{F:Nat}{p:List Int}(hp:Tr p)(h0:p≠[])(hok:Ez F p)(hok2:Ez F (Nw F p)) :
  (∃e:Int,(e=1∨e=-1)∧Xw (Xf p) 1=Xw (Qj p) e∧pdv (Xw (Qj p) e) (sqf F p)∧Mr F p=Xw (Nw F p) e∧Xf (Mr F p)=Mr F p∧pdv (Mr F p) (sqf F (Nw F p))∧Ab F p=Xw (Nw F (Nw F p)) e)∧
  Qj (Mr F p)=Nw F p∧Qj (Ab F p)=Nw F (Nw F p)∧Tr (Mr F p)∧Mr F p≠[]∧Tr (Ab F p)∧Ab F p≠[]:=by
 obtain⟨b1,b2,b3,-⟩:=Dp.start hp h0
 have hok':Ez F (Qj p):=by unfold Ez;rw [b3];exact hok
 have hgn:Nw F (Qj p)=Nw F p:=Zi6 b3
 have hsn:sqf F (Qj p)=sqf F p:=Cd b3
 obtain⟨e,he,hpe⟩:=Yap hp h0
 have hp1:Xw (Xf p) 1=Xw (Qj p) e:=by
  rw [hpe];refine(Oh _ _).ext (Oh _ _) fun i=>?_
  rw [Qo,Int.mul_one]
 obtain⟨-,-,-,-,c5,c6⟩:=Zqg b1 b2 b3 hok' he
 rw [hgn,hsn]at c6
 rw [hsn]at c5
 have hl:Mr F p=Xw (Nw F p) e:=by unfold Mr;rw [hp1,c6]
 obtain⟨a1,a2,a3,-,-⟩:=Nb hp h0 hok
 obtain⟨d1,d2,d3,d4,d5,d6⟩:=Zqg a1 a2 a3 hok2 he
 rw [←hl]at d1 d2 d3 d4 d5 d6
 have hsl:sqf F (Mr F p)=sqf F (Nw F p):=Cd (by rw [d3,a3])
 have hr:Ab F p=Xw (Nw F (Nw F p)) e:=by unfold Ab;rw [d4,hsl,d6]
 obtain⟨g1,g2,g3,-,-⟩:=Nb a1 a2 hok2
 have e0:e≠0:=by rcases he with rfl | rfl<;>decide
 refine⟨⟨e,he,hp1,c5,hl,d4,d5,hr⟩,d3,?_,d1,d2,?_,?_⟩
 ·rw [hr,Zos (Oh _ _) g1 (Ze8 _ e0).symm,g3]
 ·rw [hr];exact Oh _ _
 ·rw [hr];exact Zms g1 g2 e0
theorem Zu5{F n:Nat}{p:List Int}(hp:Tr p)(h0:p≠[])(hs:Sz n p)(hn:n≤130)(hl:p.length≤13)(hF:p.length≤F+1):∀(f:Nat) (q:List Int),Tr q→q≠[]→Dp p (Qj q)→Zcz F f q=Cw F f q:=by
 intro f
 induction f with
 | zero=>intro q _ _ _;rfl
 | succ f ih=>
  intro q hq q0 hD
  have hok:=(hD.ok hp h0 hs hn hl hF).2
  have hok':Ez F q:=by unfold Ez at hok ⊢;rwa [hD.2.2.1]at hok
  have hg:=hD.next hok
  rw [Zi6 hD.2.2.1]at hg
  have hok2:=(hg.ok hp h0 hs hn hl hF).2
  have hg2:=hg.next hok2
  obtain⟨-,r1,r2,r3,r4,r5,r6⟩:=Zj6 hq q0 hok' hok2
  unfold Zcz Cw
  have a3:=hg.2.2.1
  rw [Cd (show Qj (Mr F q)=Qj (Nw F q) by rw [r1,a3]),ih _ r5 r6 (by rw [r2];exact hg2),Zkd (show Qj (Ab F q)=Qj (Nw F (Nw F q)) by rw [r2,hg2.2.2.1])]
def Be(F:Nat)(q:List Int):List Int:=Kt (sqf F q) (sqf F (Nw F q))
theorem Cr{F:Nat}{q:List Int}(hq:Tr q)(q0:q≠[])(hok:Ez F q)(hok2:Ez F (Nw F q)):pdv (sqf F q) (sqf F (Nw F q))∧sqf F q=Ou (Be F q) (sqf F (Nw F q))∧Tr (Be F q)∧Be F q≠[]:=by
 obtain⟨f1,f2,f3,f4,f5,f6⟩:=Mi (F:=F) hq q0 hok
 obtain⟨a1,a2,a3,a4,a5⟩:=Nb hq q0 hok
 obtain⟨-,t2,t3,-,-,t6⟩:=Mi (F:=F) a1 a2 hok2
 exact Zxu f2 f3 t2 t3 t6 (Zvl hq q0 hok hok2)
theorem Ztr{p a b:List Int}{n:Nat}(hp:Tr p)(h0:p≠[])(hs:Sz n p)(hl:p.length≤13)(ha:Tr a)(hb:Tr b)(e:Qj p=Ou a b):Sz (n+130) b∧b.length≤p.length∧b≠[]:=by
 have hK:kkR 24 13*(24+1)^13<2^130:=by decide +kernel
 have hln:=Ng hp
 have hn0:=Zhs hp h0
 have ht:Tr (Qj p):=Mp (Qf hp)
 have a0:a≠[]:=fun e2=>hn0 (by rw [e,e2,Fw])
 have b0:b≠[]:=fun e2=>hn0 (by rw [e,e2,Zfc])
 refine⟨Fy (L:=13) (R:=24) hb ha (Znp hs) hn0 ht (by omega) (by decide) hK (by rw [Bt];exact e),?_,b0⟩
 have hlq:=Nz ha hb a0 b0
 rw [←e,hln]at hlq
 have:=List.length_pos_iff.2 a0
 omega
def Op(p out q:List Int):Prop:=∃a,Tr a∧Qj p=Ou a (Ou out q)
theorem Op.start{p:List Int}(hp:Tr p):Op p [1] (Qj p):=⟨[1],.inr (show cf [1] 0≠0 by decide),by
 refine(Mp (Qf hp)).ext (Om _ _) fun i=>Lr (fun x=>?_) i
 rw [Xy,Xy,Nu];push_cast;show Zw (Qj p) x=_;grind⟩
theorem Op.next{p out q:List Int}{F:Nat}(hq:Tr q)(q0:q≠[])(hn:Qj q=q)(hok:Ez F q)(hok2:Ez F (Nw F q))(h:Op p out q):Op p (Ou out (Be F q)) (Nw F (Nw F q)):=by
 obtain⟨a,ha,e⟩:=h
 obtain⟨-,o2,o3,o4⟩:=Cr hq q0 hok hok2
 obtain⟨a1,a2,a3,a4,a5⟩:=Nb hq q0 hok
 obtain⟨-,-,-,b4,-⟩:=Nb a1 a2 hok2
 rw [hn]at a4
 rw [a3]at b4
 refine⟨Ou a (Ou (sqf F (Nw F q)) (sqf F (Nw F q))),Om _ _,e.trans ?_⟩
 refine(Om _ _).ext (Om _ _) fun i=>Lr (fun x=>?_) i
 have e1:Zw q x=Zw (sqf F q) x*Zw (Nw F q) x:=by rw [←Xy,←a4]
 have e2:Zw (sqf F q) x=Zw (Be F q) x*Zw (sqf F (Nw F q)) x:=by rw [←Xy,←o2]
 have e3:Zw (Nw F q) x=Zw (sqf F (Nw F q)) x*Zw (Nw F (Nw F q)) x:=by rw [←Xy,←b4]
 simp only [Xy]
 rw [e1,e2]
 rw [e3]
 generalize Zw (sqf F (Nw F q)) x=A
 generalize Zw (Nw F (Nw F q)) x=B
 grind
theorem Op.sz{p out q:List Int}{n:Nat}(hp:Tr p)(h0:p≠[])(hs:Sz n p)(hl:p.length≤13)(ho:Tr out)(hq:Tr q)(h:Op p out q):Sz (n+130) out∧out.length≤p.length∧out≠[]:=by
 obtain⟨a,ha,e⟩:=h
 exact Ztr hp h0 hs hl (Om a q) ho (e.trans ((Om _ _).ext (Om _ _) fun i=>Lr (fun x=>by rw [Xy,Xy,Xy,Xy];grind) i))
theorem Zvi{p:List Int}(hp:Tr p):Ou [1] p=p:=by rw [Bt];exact Zoj hp
theorem Ya7{F n:Nat}{p:List Int}(hp:Tr p)(h0:p≠[])(hs:Sz n p)(hn:n≤130)(hl:p.length≤13)(hF:p.length≤F+1):Zoq F p.length [1] (Qj p)=Zcz F p.length p:=by
 have hD:=Dp.start hp h0
 have hok:=(hD.ok hp h0 hs hn hl hF).2
 rw [Zvn hp h0 hs hn hl hF p.length [1] (Qj p) (.inr (show cf [1] 0≠0 by decide)) hD (by rw [Ng hp];exact Nat.le_refl _),Zvi (Zi1 (p:=p) hD.1 hD.2.1 hok),Zu5 hp h0 hs hn hl hF p.length p hp h0 hD]
 exact Zkd hD.2.2.1 _
theorem Zjp{xs:List Int}{F:Nat}(hx:Tr xs)(h0:xs≠[])(hC:Ar F xs){s t:Rat}(hst:s≤t):vch F xs t≤vch F xs s:=Zlc hx h0 hC hst
theorem Sqn.imp{P P':R2→R2→Prop}{hi:Rat}(hp:∀x y,P x y→P' x y):∀{lo:Rat} {l:List (R2×R2)},Sqn P hi lo l→Sqn P' hi lo l
 | _,[],h=>h
 | _,_ :: _,h=>⟨h.1,h.2.1,hp _ _ h.2.2.1,Sqn.imp hp h.2.2.2⟩
def oe(f:Nat→Int):Nat→Int
 | 0=>0
 | k+1=>err (oe f k) (f k)
def mon(d n:Nat):List Int:=mono d ((2:Int)^n)
variable {P:Program} {N:Nat} {sc:Nat→Prop} {env:Kr} {H:Hp}
end Go.Sky
namespace Go.Sky
def HD(xs ys:List Int):Prop:=Vp ys∧ys≠[]∧Zax ys∧Ar 13 ys∧chn 13 ys=chn 13 xs
def PH(xs:List Int)(x y:R2):Prop:=(0<x.2∧bl x.1.natAbs≤506∧bl x.2.natAbs≤506)∧(0<y.2∧bl y.1.natAbs≤506∧bl y.2.natAbs≤506)∧cvc 13 xs x-cvc 13 xs y=1
def DR:R2×R2:=((0,0),(0,0))
theorem Zhb(d:Rat){h:Rat}(h1:0<h):∃n:Nat,d≤(n:Rat)*h:=by
 have h4:0<h⁻¹:=Rat.inv_pos.2 h1
 refine⟨(d*h⁻¹).ceil.toNat,?_⟩
 have h5:=@Rat.le_ceil (d*h⁻¹)
 have h6:(((d*h⁻¹).ceil:Int):Rat)≤(((d*h⁻¹).ceil.toNat:Nat):Rat):=by
  have:(d*h⁻¹).ceil≤(((d*h⁻¹).ceil.toNat:Nat):Int):=Int.self_le_toNat _
  exact_mod_cast this
 have h7:=Rat.mul_le_mul_of_nonneg_right (Rat.le_trans h5 h6) (show 0≤h by grind)
 have h8:d*h⁻¹*h=d:=by grind
 grind
theorem Zpf{f:Rat→Rat}{u v:Rat}(h:crs f u v≤0)(h0:f u≠0):0<f u*f v:=by
 unfold crs at h
 by_cases h1:f u≠0∧f u*f v≤0
 ·rw [if_pos h1]at h;exact absurd h (by decide)
 ·have:¬f u*f v≤0:=fun h2=>h1 ⟨h0,h2⟩
  grind
theorem Zec{xs:List Int}{F:Nat}(hx:Tr xs)(h0:xs≠[])(hC:Ar F xs){s t:Rat}(hst:s≤t)(hV:vch F xs s≤vch F xs t)(hs:Zw (sqf F xs) s≠0):∀y,s≤y→y≤t→0<Zw (sqf F xs) s*Zw (sqf F xs) y:=by
 obtain⟨h,h1,h2⟩:=Zlb hx h0 hC s t
 have hcv:∀u v,s≤u→u≤v→v≤t→v-u≤h→crs (Zw (sqf F xs)) u v≤0:=fun u v a b c d=>by
  have e:=h2 u v a b c d
  have m1:vat ((chn F xs).map Zw) u≤vat ((chn F xs).map Zw) s:=Zlc hx h0 hC a
  have m2:vat ((chn F xs).map Zw) t≤vat ((chn F xs).map Zw) v:=Zlc hx h0 hC c
  have m3:vat ((chn F xs).map Zw) s≤vat ((chn F xs).map Zw) t:=hV
  omega
 generalize Zw (sqf F xs)=f at *
 have key:∀n:Nat,∀y,s≤y→y≤t→y-s≤(n:Rat)*h→0<f s*f y:=fun n=>by
  induction n with
  | zero=>
   intro y a b c
   have:y=s:=by push_cast at c;grind
   subst this
   exact Zpf (hcv _ _ a (by grind) b (by grind)) hs
  | succ n ih=>
   intro y a b c
   push_cast at c
   by_cases hy:y-s≤h
   ·exact Zpf (hcv s y (by grind) a b hy) hs
   ·have i1:=ih (y-h) (by grind) (by grind) (by grind)
    have hz:f (y-h)≠0:=fun e=>by rw [e]at i1;grind
    have i2:=Zpf (hcv (y-h) y (by grind) (by grind) b (by grind)) hz
    have i3:=Rat.mul_pos i1 i2
    have e1:f s*f (y-h)*(f (y-h)*f y)=(f (y-h)*f (y-h))*(f s*f y):=by grind
    rw [e1]at i3
    have i4:0<f (y-h)*f (y-h):=by
     rcases(show 0<f (y-h)∨f (y-h)<0 by grind)with q | q
     ·exact Rat.mul_pos q q
     ·have:=Rat.mul_pos (a:=-f (y-h)) (b:=-f (y-h)) (by grind) (by grind);grind
    rcases(show 0<f s*f y∨f s*f y≤0 by grind)with q | q
    ·exact q
    ·have:=Rat.mul_nonneg (a:=f (y-h)*f (y-h)) (b:=-(f s*f y)) (by grind) (by grind);grind
 intro y a b
 obtain⟨n,hn⟩:∃n:Nat,y-s≤(n:Rat)*h:=by
  obtain⟨n,hn⟩:=Zhb (y-s) h1
  exact⟨n,hn⟩
 exact key n y a b hn
theorem Zgs{p:List Int}{s t:Rat}(hst:s≤t)(hd:∀u,s≤u→u≤t→0≤Zw (ld p) u):Zw p s≤Zw p t:=by
 rcases(show Zw p s≤Zw p t∨Zw p t<Zw p s by grind)with h | h
 ·exact h
 ·exfalso
  obtain⟨M,m1,m2⟩:=Ziy s t p
  have hlt:s<t:=by
   rcases(show s<t∨s=t by grind)with h9 | h9
   ·exact h9
   ·rw [h9]at h;grind
  obtain⟨n,hn⟩:=Zhb (M*(t-s)*(t-s)+1) (show 0<Zw p s-Zw p t by grind)
  have hn0:(0:Rat)<(n:Rat):=by
   rcases Nat.eq_zero_or_pos n with h9 | h9
   ·subst h9
    have:=Rat.mul_nonneg (a:=M*(t-s)) (b:=t-s) (Rat.mul_nonneg (by grind) (by grind)) (by grind)
    push_cast at hn;grind
   ·exact_mod_cast h9
  have hn1:(n:Rat)≠0:=fun e=>by rw [e]at hn0;exact absurd hn0 (by decide)
  have hnn0:(n:Rat)*((t-s)/n)=t-s:=by
   rw [Rat.div_def,←Rat.mul_assoc,Rat.mul_comm (n:Rat),Rat.mul_assoc,Rat.mul_inv_cancel _ hn1,Rat.mul_one]
  have key:∀k:Nat,(k:Rat)≤(n:Rat)→-(M*((t-s)/n)*((t-s)/n))*k≤Zw p (s+k*((t-s)/n))-Zw p s:=fun k=>by
   induction k with
   | zero=>intro _;push_cast;rw [show s+0*((t-s)/n)=s by grind];grind
   | succ k ih=>
    intro hk
    push_cast at hk ⊢
    have i1:=ih (by grind)
    have hh:0≤(t-s)/n:=by
     rw [Rat.div_def];exact Rat.mul_nonneg (by grind) (Rat.le_of_lt (Rat.inv_pos.2 hn0))
    have hnn:=hnn0
    generalize (t-s)/(n:Rat)=h at *
    have k0:(0:Rat)≤(k:Rat):=by exact_mod_cast Nat.zero_le k
    have b1:=Rat.mul_nonneg (a:=(k:Rat)) (b:=h) k0 hh
    have b2:=Rat.mul_nonneg (a:=(n:Rat)-(k+1)) (b:=h) (by grind) hh
    have j:=(m2 (s+k*h) (s+(k+1)*h) (by grind) (by grind) (by grind)).1
    have e:=hd (s+k*h) (by grind) (by grind)
    have e2:=Rat.mul_nonneg hh e
    rw [show s+(k+1)*h-(s+k*h)=h by grind]at j
    grind
  have k1:=key n (by grind)
  have hnn:=hnn0
  rw [hnn,show s+(t-s)=t by grind]at k1
  have k2:-(M*((t-s)/n)*((t-s)/n))*n=-(M*((t-s)/n)*(t-s)):=by grind
  rw [k2]at k1
  have k3:M*((t-s)/n)*(t-s)*n=M*(t-s)*(t-s):=by grind
  have k4:=Rat.mul_nonneg (a:=Zw p t-Zw p s+M*((t-s)/n)*(t-s)) (b:=(n:Rat)) (by grind) (by grind)
  grind
theorem Zgb(p:List Int)(x:Rat):Zw (p.map fun a=>-1*a) x=-Zw p x:=by rw [Yq];push_cast;grind
theorem Znf{p:List Int}{s t:Rat}(hst:s<t)(hd:∀u,s<u→u≤t→0<Zw (ld p) u)(h0:0≤Zw (ld p) s):Zw p s<Zw p t:=by
 have hm:s<(s+t)/2∧(s+t)/2<t:=by constructor<;>grind
 generalize (s+t)/2=m at *
 have a1:=Zgs (p:=p) (s:=s) (t:=m) (by grind) (fun u a b=>by
  rcases(show s<u∨u=s by grind)with h | h
  ·exact Rat.le_of_lt (hd u h (by grind))
  ·rw [h];exact h0)
 obtain⟨M,m1,m2⟩:=Ziy m t p
 have hp:=hd m hm.1 (by grind)
 obtain⟨η,q1,q2,q3⟩:=Gn (show 0<t-m by grind) m1 (show 0<Zw (ld p) m/2 by grind)
 have b:=(m2 m (m+η) (by grind) (by grind) (by grind)).1
 rw [show m+η-m=η by grind]at b
 have a2:=Zgs (p:=p) (s:=m+η) (t:=t) (by grind) (fun u a b=>Rat.le_of_lt (hd u (by grind) b))
 have c:=Rat.mul_nonneg (a:=η) (b:=Zw (ld p) m/2-η*M) (by grind) (by grind)
 have d:=Rat.mul_pos q1 hp
 grind
def Dk:Nat→List Int→Rat→Int
 | 0,_,_=>0
 | n+1,p,x=>if Zw p x≠0 then Ev (Zw p x)else Dk n (Qi p) x
theorem Zu2{x:Rat}(h:0<x):Ev x=1:=Au h
theorem Zml{x:Rat}(h:x<0):Ev x=-1:=Av h
theorem Zqn{x:Rat}(h:x=0):Ev x=0:=by subst h;rfl
theorem Na(x:Rat):(0<x∧Ev x=1)∨(x<0∧Ev x=-1)∨(x=0∧Ev x=0):=by
 rcases(show 0<x∨x<0∨x=0 by grind)with h | h | h
 ·exact .inl ⟨h,Zu2 h⟩
 ·exact .inr (.inl ⟨h,Zml h⟩)
 ·exact .inr (.inr ⟨h,Zqn h⟩)
theorem Zua(n:Nat)(p:List Int)(x:Rat)(h:Zw p x≠0)(hl:p.length≤n):Dk n p x=Ev (Zw p x):=by
 cases n with
 | zero=>have:p=[]:=List.eq_nil_of_length_eq_zero (by omega);subst this;exact absurd rfl h
 | succ n=>unfold Dk;rw [if_pos h]
theorem Zmy(p:List Int)(x:Rat)(h:Zw p x≠0):∃δ:Rat,0<δ∧∀y,x<y→y≤x+δ→Ev (Zw p y)=Ev (Zw p x):=by
 obtain⟨L,l1,l2⟩:=Bk x (x+1) p
 have ha:0<(if 0<Zw p x then Zw p x else -Zw p x):=by split<;>grind
 obtain⟨δ,d1,d2,d3⟩:=Gn (show(0:Rat)<1 by decide) (show 0<L+1 by grind) (show 0<(if 0<Zw p x then Zw p x else -Zw p x)/2 by grind)
 refine⟨δ,d1,fun y h1 h2=>?_⟩
 have l:=l2 x y (by grind) (by grind) (by grind)
 have b:=Rat.mul_nonneg (a:=L) (b:=δ-(y-x)) (by grind) (by grind)
 have c:L*(y-x)≤δ*(L+1):=by grind
 rcases Na (Zw p x)with⟨h3,h4⟩ | ⟨h3,h4⟩ | ⟨h3,h4⟩
 ·rw [if_pos h3]at d3 ha;rw [h4];exact Zu2 (by grind)
 ·rw [if_neg (by grind)]at d3 ha;rw [h4];exact Zml (by grind)
 ·exact absurd h3 h
theorem Ao:∀(n:Nat) (p:List Int) (x:Rat),p.length≤n→∃δ:Rat,0<δ∧∀y,x<y→y≤x+δ→Ev (Zw p y)=Dk n p x
 | 0,p,x,hl=>⟨1,by decide,fun y _ _=>by
  have:p=[]:=List.eq_nil_of_length_eq_zero (by omega)
  subst this;exact Zqn rfl⟩
 | n+1,p,x,hl=>by
  by_cases h:Zw p x≠0
  ·rw [Zua (n+1) p x h hl];exact Zmy p x h
  ·have h0:Zw p x=0:=Classical.not_not.1 h
   have ld':=Nv p
   obtain⟨δ,d1,d2⟩:=Ao n (Qi p) x (by omega)
   have hu:Dk (n+1) p x=Dk n (Qi p) x:=by unfold Dk;rw [if_neg h];cases n<;>rfl
   have hx:Zw (ld p) x≠0→Ev (Zw (ld p) x)=Dk n (Qi p) x:=fun h9=>by
    rw [←Ha]at h9 ⊢;exact(Zua n (Qi p) x h9 (by omega)).symm
   refine⟨δ,d1,fun y h1 h2=>?_⟩
   rw [hu]
   have hd:∀u,x<u→u≤y→Ev (Zw (ld p) u)=Dk n (Qi p) x:=fun u a b=>by rw [←Ha];exact d2 u a (by grind)
   have hyy:=hd y h1 (by grind)
   generalize Dk n (Qi p) x=σ at *
   rcases Na (Zw (ld p) y)with⟨h3,h4⟩ | ⟨h3,h4⟩ | ⟨h3,h4⟩
   ·rw [h4]at hyy;subst hyy
    refine Zu2 ?_
    have:=Znf (p:=p) h1 (fun u a b=>by
     rcases Na (Zw (ld p) u)with⟨h5,h6⟩ | ⟨h5,h6⟩ | ⟨h5,h6⟩
     ·exact h5
     ·have:=hd u a b;rw [h6]at this;exact absurd this (by decide)
     ·have:=hd u a b;rw [h6]at this;exact absurd this (by decide)) (by
     rcases Na (Zw (ld p) x)with⟨h5,h6⟩ | ⟨h5,h6⟩ | ⟨h5,h6⟩
     ·exact Rat.le_of_lt h5
     ·have:=hx (by grind);rw [h6]at this;exact absurd this (by decide)
     ·grind)
    grind
   ·rw [h4]at hyy;subst hyy
    refine Zml ?_
    have hn:∀u,Zw (ld (p.map fun a=>-1*a)) u=-Zw (ld p) u:=fun u=>by rw [Ax];push_cast;grind
    have:=Znf (p:=p.map fun a=>-1*a) h1 (fun u a b=>by
     rw [hn]
     rcases Na (Zw (ld p) u)with⟨h5,h6⟩ | ⟨h5,h6⟩ | ⟨h5,h6⟩
     ·have:=hd u a b;rw [h6]at this;exact absurd this (by decide)
     ·grind
     ·have:=hd u a b;rw [h6]at this;exact absurd this (by decide)) (by
     rw [hn]
     rcases Na (Zw (ld p) x)with⟨h5,h6⟩ | ⟨h5,h6⟩ | ⟨h5,h6⟩
     ·have:=hx (by grind);rw [h6]at this;exact absurd this (by decide)
     ·grind
     ·grind)
    rw [Zgb,Zgb]at this
    grind
   ·rw [h4]at hyy;subst hyy
    refine Zqn ?_
    have hz:∀u,x≤u→u≤y→Zw (ld p) u=0:=fun u a b=>by
     rcases(show x<u∨u=x by grind)with h9 | h9
     ·rcases Na (Zw (ld p) u)with⟨h5,h6⟩ | ⟨h5,h6⟩ | ⟨h5,h6⟩
      ·have:=hd u h9 b;rw [h6]at this;exact absurd this (by decide)
      ·have:=hd u h9 b;rw [h6]at this;exact absurd this (by decide)
      ·exact h5
     ·subst h9
      rcases Na (Zw (ld p) u)with⟨h5,h6⟩ | ⟨h5,h6⟩ | ⟨h5,h6⟩
      ·have:=hx (by grind);rw [h6]at this;exact absurd this (by decide)
      ·have:=hx (by grind);rw [h6]at this;exact absurd this (by decide)
      ·exact h5
    have a1:=Zgs (p:=p) (s:=x) (t:=y) (by grind) (fun u a b=>by rw [hz u a b];grind)
    have a2:=Zgs (p:=p.map fun a=>-1*a) (s:=x) (t:=y) (by grind) (fun u a b=>by rw [Ax,hz u a b];push_cast;grind)
    rw [Zgb,Zgb]at a2
    grind
theorem Ed.mul_l{a b c:List Int}(h:Ed a b):Ed (Ou c a) (Ou c b):=by
 obtain⟨k,s,hk,e⟩:=h
 exact⟨k,s,hk,fun x=>by rw [Xy,Xy];have:=e x;grind⟩
theorem Ei{F n:Nat}{p:List Int}(hp:Tr p)(h0:p≠[])(hs:Sz n p)(hn:n≤130)(hl:p.length≤13)(hF:p.length≤F+1):∀(f:Nat) (q:List Int),Dp p q→q.length≤f→
  (∃B:List Int,∀x:Rat,Zw q x=Zw (Cw F f q) x*(Zw B x*Zw B x))∧Ed (Cw F f q) (sqf F q):=by
 intro f
 induction f with
 | zero=>intro q hq hlq;have:=List.length_pos_iff.2 hq.2.1;omega
 | succ f ih=>
  intro q hq hlq
  have hok:=(hq.ok hp h0 hs hn hl hF).2
  have hg:=hq.next hok
  have hok2:=(hg.ok hp h0 hs hn hl hF).2
  have hg2:=hg.next hok2
  unfold Cw
  by_cases c1:(sqf F q).length=1
  ·rw [if_pos c1]
   obtain⟨s1,s2,s3⟩:=Zf1 hq.1 hq.2.1 hok c1
   refine⟨⟨[1],fun x=>?_⟩,Ed.refl _⟩
   rw [s1,Yep hq.1 hq.2.2.1 s2,Nu];push_cast;grind
  ·rw [if_neg c1]
   have lq:2≤q.length:=by
    obtain⟨f1,f2,f3,f4,f5,f6⟩:=Mi (F:=F) hq.1 hq.2.1 hok
    obtain⟨a1,a2,a3,a4,a5⟩:=Nb hq.1 hq.2.1 hok
    have l1:=List.length_pos_iff.2 f3
    have l2:=List.length_pos_iff.2 a2
    omega
   have lt1:=Zk0 hq.1 hq.2.1 hok lq
   obtain⟨a1,a2,a3,a4,a5⟩:=Nb hq.1 hq.2.1 hok
   obtain⟨b1,b2,b3,b4,b5⟩:=Nb hg.1 hg.2.1 hok2
   obtain⟨-,t2,t3,-,-,-⟩:=Mi (F:=F) hg.1 hg.2.1 hok2
   have lb:=List.length_pos_iff.2 t3
   obtain⟨⟨B,hB⟩,hE⟩:=ih _ hg2 (by omega)
   obtain⟨-,o2,o3,o4⟩:=Cr hq.1 hq.2.1 hok hok2
   have hok3:=(hg2.ok hp h0 hs hn hl hF).2
   rw [hq.2.2.1]at a4
   rw [a3]at b4
   have e1:∀x,Zw q x=Zw (sqf F q) x*Zw (Nw F q) x:=fun x=>by rw [←Xy,←a4]
   have e2:∀x,Zw (sqf F q) x=Zw (Be F q) x*Zw (sqf F (Nw F q)) x:=fun x=>by rw [←Xy,←o2]
   have e3:∀x,Zw (Nw F q) x=Zw (sqf F (Nw F q)) x*Zw (Nw F (Nw F q)) x:=fun x=>by rw [←Xy,←b4]
   refine⟨⟨Ou (sqf F (Nw F q)) B,fun x=>?_⟩,?_⟩
   ·rw [Xy,Xy,e1 x,e2 x,e3 x,hB x]
    show _=Zw (Be F q) x*_*_
    generalize Zw (sqf F (Nw F q)) x=S
    generalize Zw B x=C
    grind
   ·have h9:Ed (Cw F f (Nw F (Nw F q))) (sqf F (Nw F q)):=hE.trans (Zvl hg.1 hg.2.1 hok2 hok3)
    have h8:=h9.mul_l (c:=Be F q)
    rw [←o2]at h8
    exact h8
theorem Zq3{F n:Nat}{p:List Int}(hp:Tr p)(h0:p≠[])(hs:Sz n p)(hn:n≤130)(hl:p.length≤13)(hF:p.length≤F+1){o:List Int}(ho:Tr o)(o0:o≠[])(hok:Ez F o)(hpk:Ez F p)(h:Ed o (sqf F p)):(Nw F o).length=1∧sqf F o=Qj o:=by
 obtain⟨a1,a2,a3,a4,a5⟩:=Nb ho o0 hok
 obtain⟨f1,f2,f3,f4,f5,f6⟩:=Mi (F:=F) hp h0 hpk
 obtain⟨-,s2,s3,s4,s5,s6⟩:=Mi (F:=F) ho o0 hok
 have ht:Tr (Qj o):=Mp (Qf ho)
 have hd:=Zd6 ht (Mz ht) hok
 have e1:Ed (Nw F o) (Qj o):=hd.1.ed
 have e2:Ed (Nw F o) (ld (Qj o)):=(hd.2.ed:Ed (Nw F o) (Qi (Qj o))).congr fun x=>Ha _ x
 have hsim:Sim (Qj o) o:=(Hy (Xf o)).trans (Py ho)
 obtain⟨k,w,hk,hkw⟩:Ed (Qj o) (sqf F p):=by
  obtain⟨k,w,hk,e⟩:=h
  obtain⟨c,d,hc,hd',hcd⟩:=hsim
  have hcd':∀x:Rat,(c:Rat)*Zw (Qj o) x=(d:Rat)*Zw o x:=fun x=>by
   rw [←Yq,←Yq];exact Kh x _ _ fun i=>by rw [Ok,Ok];exact hcd i
  exact⟨d*k,w.map fun a=>c*a,Int.mul_ne_zero hd' hk,fun x=>by
   rw [Yq];have a:=e x;have b:=hcd' x;push_cast;grind⟩
 have hlen:(Nw F o).length≤1:=by
  refine Zf2 hp h0 hpk a1 (e1.trans ⟨k,w,hk,hkw⟩) ?_
  have h1:Ed (Nw F o) (Nc w (ld (Qj o))):=by
   obtain⟨m,z,hm,e⟩:=e2
   exact⟨m,Nc w z,hm,fun x=>by rw [Xn,Xn];have:=e x;grind⟩
  have h2:Ed (Nw F o) (ld (sqf F p)):=Ed.lin e1 h1 (ld w) k hk fun x=>by
   have:=Co (p:=(sqf F p).map fun a=>k*a) (q:=Nc w (Qj o)) (fun y=>by rw [Yq,Xn];exact hkw y) x
   rw [Ax,Bl]at this
   rw [Xn,this]
  exact h2.congr fun x=>(Ha _ x).symm
 have hl1:(Nw F o).length=1:=by have:=List.length_pos_iff.2 a2;omega
 refine⟨hl1,?_⟩
 rw [Yep a1 a3 hl1,Zoj s2]at a4
 exact a4.symm
theorem Zf3{a b:List Int}(h:Sim a b):∃c d:Int,c≠0∧d≠0∧∀x:Rat,(c:Rat)*Zw a x=(d:Rat)*Zw b x:=by
 obtain⟨c,d,hc,hd,e⟩:=h
 exact⟨c,d,hc,hd,fun x=>by rw [←Yq,←Yq];exact Kh x _ _ fun i=>by rw [Ok,Ok];exact e i⟩
theorem Fq{x:Rat}(h:x≠0):0<x*x:=by
 rcases(show 0<x∨x<0 by grind)with q | q
 ·exact Rat.mul_pos q q
 ·have:=Rat.mul_pos (a:=-x) (b:=-x) (by grind) (by grind);grind
theorem Nt{c:Int}(h:c≠0):(c:Rat)≠0:=fun e=>h (by exact_mod_cast e)
theorem Zgm{a b a' b' c d:Rat}(hc:c≠0)(hd:d≠0)(e1:c*a'=d*a)(e2:c*b'=d*b)(h:a*b<0):a'*b'<0:=by
 have h1:(c*c)*(a'*b')=(d*d)*(a*b):=by grind
 have h2:=Fq hc
 have h3:=Fq hd
 rcases(show a'*b'<0∨0≤a'*b' by grind)with q | q
 ·exact q
 ·have h4:=Rat.mul_nonneg (a:=c*c) (b:=a'*b') (by grind) q
  have h5:=Rat.mul_pos (a:=d*d) (b:=-(a*b)) h3 (by grind)
  grind
theorem Ya2{o1 o2 B1 B2:Rat}(h:o1*(B1*B1)*(o2*(B2*B2))<0):o1*o2<0:=by
 rcases(show o1*o2<0∨0≤o1*o2 by grind)with q | q
 ·exact q
 ·have h1:0≤B1*B2*(B1*B2):=by
   by_cases hz:B1*B2=0
   ·rw [hz];grind
   ·exact Rat.le_of_lt (Fq hz)
  have h2:=Rat.mul_nonneg q h1
  grind
theorem Zmx{F n:Nat}{p o:List Int}(hp:Tr p)(h0:p≠[])(hs:Sz n p)(hn:n≤130)(hl:p.length≤13)(hF:p.length≤F+1)(ho:o=Cw F p.length (Qj p))(hot:Tr o)(o0:o≠[])(hC:Ar F o){a b:Rat}(hab:a<b)(h1:Dk p.length p a=1)(h2:Zw p b<0):vch F o b<vch F o a:=by
 have hD:=Dp.start hp h0
 have hokn:=(hD.ok hp h0 hs hn hl hF).2
 have hokp:Ez F p:=by unfold Ez at hokn ⊢;rwa [hD.2.2.1]at hokn
 obtain⟨⟨B,hB⟩,hE⟩:=Ei hp h0 hs hn hl hF p.length (Qj p) hD (by rw [Ng hp];exact Nat.le_refl _)
 rw [←ho]at hB hE
 rw [Cd hD.2.2.1]at hE
 obtain⟨-,hsq⟩:=Zq3 hp h0 hs hn hl hF hot o0 hC.1.2.2.1 hokp hE
 obtain⟨δ,d1,d2⟩:=Ao p.length p a (Nat.le_refl _)
 obtain⟨s,s1,s2,s3⟩:∃s,a<s∧s≤a+δ∧s<b:=by
  rcases(show a+δ<b∨b≤a+δ by grind)with q | q
  ·exact⟨a+δ,by grind,by grind,q⟩
  ·exact⟨(a+b)/2,by grind,by grind,by grind⟩
 have hps:0<Zw p s:=by
  have:=d2 s s1 s2
  rw [h1]at this
  rcases Na (Zw p s)with⟨h5,h6⟩ | ⟨h5,h6⟩ | ⟨h5,h6⟩
  ·exact h5
  ·rw [h6]at this;exact absurd this (by decide)
  ·rw [h6]at this;exact absurd this (by decide)
 have k1:Zw p s*Zw p b<0:=by have:=Rat.mul_pos (a:=Zw p s) (b:=-Zw p b) hps (by grind);grind
 obtain⟨c,d,hc,hd,e⟩:=Zf3 ((Hy (Xf p)).trans (Py hp):Sim (Qj p) p)
 have k2:Zw (Qj p) s*Zw (Qj p) b<0:=Zgm (Nt hc) (Nt hd) (e s) (e b) k1
 rw [hB s,hB b]at k2
 have k3:=Ya2 k2
 obtain⟨c',d',hc',hd',e'⟩:=Zf3 ((Hy (Xf o)).trans (Py hot):Sim (Qj o) o)
 have k4:Zw (Qj o) s*Zw (Qj o) b<0:=Zgm (Nt hc') (Nt hd') (e' s) (e' b) k3
 rw [←hsq]at k4
 have m1:=Zjp hot o0 hC (Rat.le_of_lt s1)
 rcases Int.lt_or_le (vch F o b) (vch F o s)with q | q
 ·exact Int.lt_of_lt_of_le q m1
 ·exfalso
  have hz:Zw (sqf F o) s≠0:=fun e9=>by rw [e9]at k4;grind
  have:=Zec hot o0 hC (Rat.le_of_lt s3) q hz b (Rat.le_of_lt s3) (by grind)
  grind
theorem Zhc:∀(n:Nat) (p:List Int) (x:Rat),Tr p→p≠[]→p.length≤n→Dk n p x≠0
 | 0,p,x,_,h0,hl=>absurd (List.eq_nil_of_length_eq_zero (by omega)) h0
 | n+1,p,x,hp,h0,hl=>by
  unfold Dk
  by_cases h:Zw p x≠0
  ·rw [if_pos h]
   rcases Na (Zw p x)with⟨h5,h6⟩ | ⟨h5,h6⟩ | ⟨h5,h6⟩
   ·rw [h6];decide
   ·rw [h6];decide
   ·exact absurd h5 h
  ·rw [if_neg h]
   have hz:Zw p x=0:=Classical.not_not.1 h
   have ld':=Nv p
   refine Zhc n (Qi p) x (Mz hp) (fun e=>?_) (by omega)
   rw [e]at ld'
   have l0:=List.length_pos_iff.2 h0
   have hl1:p.length=1:=by simp at ld';omega
   match p,hl1 with
   | [c],_=>
    have hc:c≠0:=hp.mem (by simp)
    rw [Nu]at hz
    exact Nt hc hz
theorem Zpz(n:Nat)(p:List Int)(x:Rat):-1≤Dk n p x∧Dk n p x≤1:=by
 induction n generalizing p with
 | zero=>show -1≤(0:Int)∧(0:Int)≤1;decide
 | succ n ih=>unfold Dk;split;exact Zz0 _;exact ih _
def Zag(F:Nat)(o:List Int)(a b:Rat):Prop:=0<vch F o a-vch F o b-(if Zw o b=0 then 1 else 0)
theorem Ybb{F n:Nat}{p o:List Int}(hp:Tr p)(h0:p≠[])(hs:Sz n p)(hn:n≤130)(hl:p.length≤13)(hF:p.length≤F+1)(ho:o=Cw F p.length (Qj p))(hot:Tr o)(o0:o≠[])(hC:Ar F o){a b:Rat}(hab:a<b) :
  (Zw p a<0∨Zw p b<0∨Dk p.length p a<0∨Zag F o a b)↔(Dk p.length p a<0∨Zag F o a b):=by
 constructor
 ·rintro(h | h | h | h)
  ·left
   rw [Zua p.length p a (by grind) (Nat.le_refl _),Zml h];decide
  ·have r:=Zpz p.length p a
   have r0:=Zhc p.length p a hp h0 (Nat.le_refl _)
   rcases(show Dk p.length p a<0∨Dk p.length p a=1 by omega)with h1 | h1
   ·exact .inl h1
   ·right
    have hv:=Zmx hp h0 hs hn hl hF ho hot o0 hC hab h1 h
    have hD:=Dp.start hp h0
    obtain⟨⟨B,hB⟩,-⟩:=Ei hp h0 hs hn hl hF p.length (Qj p) hD (by rw [Ng hp];exact Nat.le_refl _)
    rw [←ho]at hB
    obtain⟨c,d,hc,hd,e⟩:=Zf3 ((Hy (Xf p)).trans (Py hp):Sim (Qj p) p)
    have hob:Zw o b≠0:=fun e9=>by
     have h5:(c:Rat)*Zw (Qj p) b=(d:Rat)*Zw p b:=e b
     rw [hB b,e9]at h5
     have h6:=Nt hd
     have h7:(d:Rat)*Zw p b=0:=by rw [←h5];grind
     rcases Rat.mul_eq_zero.1 h7 with q | q
     ·exact h6 q
     ·rw [q]at h;grind
    unfold Zag
    rw [if_neg hob]
    omega
  ·exact .inl h
  ·exact .inr h
 ·rintro(h | h)
  ·exact .inr (.inr (.inl h))
  ·exact .inr (.inr (.inr h))
theorem Zyd(p:List Int)(x:Rat)(h:Zw p x≠0):∃δ:Rat,0<δ∧∀y,x-δ≤y→y≤x→Ev (Zw p y)=Ev (Zw p x):=by
 obtain⟨L,l1,l2⟩:=Bk (x-1) x p
 have ha:0<(if 0<Zw p x then Zw p x else -Zw p x):=by split<;>grind
 obtain⟨δ,d1,d2,d3⟩:=Gn (show(0:Rat)<1 by decide) (show 0<L+1 by grind) (show 0<(if 0<Zw p x then Zw p x else -Zw p x)/2 by grind)
 refine⟨δ,d1,fun y h1 h2=>?_⟩
 have l:=l2 y x (by grind) (by grind) (by grind)
 have b:=Rat.mul_nonneg (a:=L) (b:=δ-(x-y)) (by grind) (by grind)
 have c:L*(x-y)≤δ*(L+1):=by grind
 rcases Na (Zw p x)with⟨h3,h4⟩ | ⟨h3,h4⟩ | ⟨h3,h4⟩
 ·rw [if_pos h3]at d3 ha;rw [h4];exact Zu2 (by grind)
 ·rw [if_neg (by grind)]at d3 ha;rw [h4];exact Zml (by grind)
 ·exact absurd h3 h
theorem rsg_1{x:Rat}(h:Ev x=1):0<x:=by
 rcases Na x with⟨h5,h6⟩ | ⟨h5,h6⟩ | ⟨h5,h6⟩
 ·exact h5
 ·rw [h6]at h;exact absurd h (by decide)
 ·rw [h6]at h;exact absurd h (by decide)
theorem Zn0{x:Rat}(h:Ev x=-1):x<0:=by
 rcases Na x with⟨h5,h6⟩ | ⟨h5,h6⟩ | ⟨h5,h6⟩
 ·rw [h6]at h;exact absurd h (by decide)
 ·exact h5
 ·rw [h6]at h;exact absurd h (by decide)
def Zub(p:List Int)(a b:Rat):Prop:=∃x,a≤x∧x≤b∧Zw p x<0
theorem Yb9 {xs:List Int} {F:Nat} (hx:Tr xs) (h0:xs≠[]) (hC:Ar F xs) {a b σ:Rat} (hσ:σ≠0) (hab:a<b)
  (hpos:∀x,a≤x→x<b→∃δ:Rat,0<δ∧∀y,x<y→y≤x+δ→y≤b→0<σ*Zw (sqf F xs) y) :
  vch F xs a-vch F xs b≤(if Zw (sqf F xs) b=0 then 1 else 0):=by
 obtain⟨h,h1,h2⟩:=Zlb hx h0 hC a b
 have hge:∀x,a≤x→x<b→0≤σ*Zw (sqf F xs) x:=fun x ha hb=>by
  rcases(show 0≤σ*Zw (sqf F xs) x∨σ*Zw (sqf F xs) x<0 by grind)with q | q
  ·exact q
  ·exfalso
   have hz:Zw (sqf F xs) x≠0:=fun e=>by rw [e]at q;grind
   obtain⟨δ,d1,d2⟩:=hpos x ha hb
   obtain⟨ε,e1,e2⟩:=Zmy (sqf F xs) x hz
   obtain⟨y,y1,y2,y3,y4⟩:∃y,x<y∧y≤x+δ∧y≤x+ε∧y≤b:=by
    rcases(show δ≤ε∨ε≤δ by grind)with w | w
    ·rcases(show x+δ≤b∨b≤x+δ by grind)with v | v
     ·exact⟨x+δ,by grind,by grind,by grind,v⟩
     ·exact⟨b,by grind,by grind,by grind,by grind⟩
    ·rcases(show x+ε≤b∨b≤x+ε by grind)with v | v
     ·exact⟨x+ε,by grind,by grind,by grind,v⟩
     ·exact⟨b,by grind,by grind,by grind,by grind⟩
   have k1:=d2 y y1 y2 y4
   have k2:=e2 y y1 y3
   rcases Na (Zw (sqf F xs) x)with⟨h5,h6⟩ | ⟨h5,h6⟩ | ⟨h5,h6⟩
   ·rw [h6]at k2
    have k3:=rsg_1 k2
    rcases(show σ<0∨0<σ by grind)with s | s
    ·have:=Rat.mul_pos (a:=-σ) (b:=Zw (sqf F xs) y) (by grind) k3;grind
    ·have:=Rat.mul_pos s h5;grind
   ·rw [h6]at k2
    have k3:=Zn0 k2
    rcases(show σ<0∨0<σ by grind)with s | s
    ·have:=Rat.mul_pos (a:=-σ) (b:=-Zw (sqf F xs) x) (by grind) (by grind);grind
    ·have:=Rat.mul_pos (a:=σ) (b:=-Zw (sqf F xs) y) s (by grind);grind
   ·exact hz h5
 have hgb:0≤σ*Zw (sqf F xs) b:=by
  rcases(show 0≤σ*Zw (sqf F xs) b∨σ*Zw (sqf F xs) b<0 by grind)with q | q
  ·exact q
  ·exfalso
   have hz:Zw (sqf F xs) b≠0:=fun e=>by rw [e]at q;grind
   obtain⟨ε,e1,e2⟩:=Zyd (sqf F xs) b hz
   obtain⟨y,y1,y2,y3⟩:∃y,a≤y∧y<b∧b-ε≤y:=by
    rcases(show a≤b-ε∨b-ε≤a by grind)with v | v
    ·exact⟨b-ε,v,by grind,by grind⟩
    ·exact⟨a,by grind,hab,v⟩
   obtain⟨δ,d1,d2⟩:=hpos y y1 y2
   obtain⟨z,z1,z2,z3⟩:∃z,y<z∧z≤y+δ∧z≤b:=by
    rcases(show y+δ≤b∨b≤y+δ by grind)with v | v
    ·exact⟨y+δ,by grind,by grind,v⟩
    ·exact⟨b,y2,by grind,by grind⟩
   have k1:=d2 z z1 z2 z3
   have k2:=e2 z (by grind) z3
   rcases Na (Zw (sqf F xs) b)with⟨h5,h6⟩ | ⟨h5,h6⟩ | ⟨h5,h6⟩
   ·rw [h6]at k2
    have k3:=rsg_1 k2
    rcases(show σ<0∨0<σ by grind)with s | s
    ·have:=Rat.mul_pos (a:=-σ) (b:=Zw (sqf F xs) z) (by grind) k3;grind
    ·have:=Rat.mul_pos s h5;grind
   ·rw [h6]at k2
    have k3:=Zn0 k2
    rcases(show σ<0∨0<σ by grind)with s | s
    ·have:=Rat.mul_pos (a:=-σ) (b:=-Zw (sqf F xs) b) (by grind) (by grind);grind
    ·have:=Rat.mul_pos (a:=σ) (b:=-Zw (sqf F xs) z) s (by grind);grind
   ·exact hz h5
 have hstep:∀u v,a≤u→u≤v→v≤b→v-u≤h/2→vch F xs u-vch F xs v≤(if v=b∧Zw (sqf F xs) b=0 then 1 else 0):=fun u v c1 c2 c3 c4=>by
  have e:=h2 u v c1 c2 c3 (by grind)
  have e':vch F xs u-vch F xs v=crs (Zw (sqf F xs)) u v:=e
  rw [e']
  unfold crs
  by_cases hc:Zw (sqf F xs) u≠0∧Zw (sqf F xs) u*Zw (sqf F xs) v≤0
  ·rw [if_pos hc]
   have hub:u<b:=by
    rcases(show u<b∨u=b by grind)with q | q
    ·exact q
    ·exfalso
     have:v=u:=by grind
     subst this
     have:=Fq hc.1;grind
   have g1:=hge u c1 hub
   have g2:0≤σ*Zw (sqf F xs) v:=by
    rcases(show v<b∨v=b by grind)with q | q
    ·exact hge v (by grind) q
    ·rw [q];exact hgb
   have hv0:Zw (sqf F xs) v=0:=by
    rcases(show Zw (sqf F xs) v=0∨Zw (sqf F xs) v≠0 by grind)with q | q
    ·exact q
    ·exfalso
     have m1:=Rat.mul_nonneg g1 g2
     have m2:=Fq hσ
     have m3:(σ*σ)*(Zw (sqf F xs) u*Zw (sqf F xs) v)≥0:=by grind
     rcases(show Zw (sqf F xs) u*Zw (sqf F xs) v<0∨Zw (sqf F xs) u*Zw (sqf F xs) v=0 by grind)with w | w
     ·have:=Rat.mul_pos m2 (show 0 < -(Zw (sqf F xs) u*Zw (sqf F xs) v) by grind);grind
     ·rcases Rat.mul_eq_zero.1 w with z | z
      ·exact hc.1 z
      ·exact q z
   rcases(show v<b∨v=b by grind)with q | q
   ·exfalso
    obtain⟨δ,d1,d2⟩:=hpos v (by grind) q
    obtain⟨z,z1,z2,z3,z4⟩:∃z,v<z∧z≤v+δ∧z≤b∧z-v≤h/2:=by
     rcases(show δ≤h/2∨h/2≤δ by grind)with w | w
     ·rcases(show v+δ≤b∨b≤v+δ by grind)with t | t
      ·exact⟨v+δ,by grind,by grind,t,by grind⟩
      ·exact⟨b,q,by grind,by grind,by grind⟩
     ·rcases(show v+h/2≤b∨b≤v+h/2 by grind)with t | t
      ·exact⟨v+h/2,by grind,by grind,t,by grind⟩
      ·exact⟨b,q,by grind,by grind,by grind⟩
    have k1:=d2 z z1 z2 z3
    have a1:=h2 u z c1 (by grind) z3 (by grind)
    have a2:=h2 v z (by grind) (by grind) z3 (by grind)
    have r1:crs (Zw (sqf F xs)) u z=0:=by
     unfold crs
     rw [if_neg]
     rintro⟨w1,w2⟩
     have g3:0<σ*Zw (sqf F xs) u:=by
      rcases(show σ*Zw (sqf F xs) u=0∨0<σ*Zw (sqf F xs) u by grind)with t | t
      ·rcases Rat.mul_eq_zero.1 t with t | t
       ·exact absurd t hσ
       ·exact absurd t w1
      ·exact t
     have m1:=Rat.mul_pos g3 k1
     have m2:=Fq hσ
     have m3:0<(σ*σ)*(Zw (sqf F xs) u*Zw (sqf F xs) z):=by grind
     have m4:=Rat.mul_nonneg (a:=σ*σ) (b:=-(Zw (sqf F xs) u*Zw (sqf F xs) z)) (by grind) (by grind)
     grind
    have r2:crs (Zw (sqf F xs)) v z=0:=by unfold crs;rw [if_neg];rintro⟨w1,w2⟩;exact w1 hv0
    have r3:crs (Zw (sqf F xs)) u v=1:=by unfold crs;rw [if_pos hc]
    rw [r1]at a1;rw [r2]at a2;rw [r3]at e
    omega
   ·rw [q]at hv0
    rw [if_pos ⟨q,hv0⟩];decide
  ·rw [if_neg hc]
   split<;>decide
 have key:∀n:Nat,∀u,a≤u→u≤b→b-u≤(n:Rat)*(h/2)→vch F xs u-vch F xs b≤(if Zw (sqf F xs) b=0 then 1 else 0):=fun n=>by
  induction n with
  | zero=>
   intro u c1 c2 c3
   have:u=b:=by push_cast at c3;grind
   subst this
   rw [Int.sub_self]
   split<;>decide
  | succ n ih=>
   intro u c1 c2 c3
   push_cast at c3
   by_cases hy:b-u≤h/2
   ·have:=hstep u b c1 c2 (by grind) hy
    by_cases hz:Zw (sqf F xs) b=0
    ·rw [if_pos ⟨rfl,hz⟩]at this;rw [if_pos hz];exact this
    ·rw [if_neg (fun e=>hz e.2)]at this;rw [if_neg hz];exact this
   ·have i1:=ih (u+h/2) (by grind) (by grind) (by grind)
    have i2:=hstep u (u+h/2) c1 (by grind) (by grind) (by grind)
    rw [if_neg (fun e=>by have:=e.1;grind)]at i2
    generalize (if Zw (sqf F xs) b=0 then(1:Int)else 0)=t at *
    omega
 obtain⟨n,hn⟩:=Zhb (b-a) (show 0<h/2 by grind)
 exact key n a (by grind) (by grind) hn
structure Odp (F n:Nat) (p o:List Int):Prop where
 tr:Tr p
 ne:p≠[]
 sz:Sz n p
 hn:n≤130
 hl:p.length≤13
 hF:p.length≤F+1
 eq:o=Cw F p.length (Qj p)
 otr:Tr o
 one:o≠[]
 ok:Ar F o
theorem Odp.sq{F n:Nat}{p o:List Int}(h:Odp F n p o):∃(c d:Int) (B:List Int),c≠0∧d≠0∧∀x:Rat,(d:Rat)*Zw p x=(c:Rat)*(Zw o x*(Zw B x*Zw B x)):=by
 have hD:=Dp.start h.tr h.ne
 obtain⟨⟨B,hB⟩,-⟩:=Ei h.tr h.ne h.sz h.hn h.hl h.hF p.length (Qj p) hD (by rw [Ng h.tr];exact Nat.le_refl _)
 rw [←h.eq]at hB
 obtain⟨c,d,hc,hd,e⟩:=Zf3 ((Hy (Xf p)).trans (Py h.tr):Sim (Qj p) p)
 exact⟨c,d,B,hc,hd,fun x=>by rw [←hB x];exact(e x).symm⟩
theorem Odp.sqf{F n:Nat}{p o:List Int}(h:Odp F n p o):Go.Sky.sqf F o=Qj o:=by
 have hD:=Dp.start h.tr h.ne
 have hokn:=(hD.ok h.tr h.ne h.sz h.hn h.hl h.hF).2
 have hokp:Ez F p:=by unfold Ez at hokn ⊢;rwa [hD.2.2.1]at hokn
 obtain⟨-,hE⟩:=Ei h.tr h.ne h.sz h.hn h.hl h.hF p.length (Qj p) hD (by rw [Ng h.tr];exact Nat.le_refl _)
 rw [←h.eq]at hE
 rw [Cd hD.2.2.1]at hE
 exact(Zq3 h.tr h.ne h.sz h.hn h.hl h.hF h.otr h.one h.ok.1.2.2.1 hokp hE).2
theorem Odp.srt{F n:Nat}{p o:List Int}(h:Odp F n p o):∃c d:Int,c≠0∧d≠0∧∀x:Rat,(c:Rat)*Zw (Go.Sky.sqf F o) x=(d:Rat)*Zw o x:=by
 rw [h.sqf]
 exact Zf3 ((Hy (Xf o)).trans (Py h.otr):Sim (Qj o) o)
theorem Odp.zero{F n:Nat}{p o:List Int}(h:Odp F n p o)(x:Rat):Zw (Go.Sky.sqf F o) x=0↔Zw o x=0:=by
 obtain⟨c,d,hc,hd,e⟩:=h.srt
 have e1:=e x
 constructor
 ·intro z;rw [z]at e1;rcases Rat.mul_eq_zero.1 (show(d:Rat)*Zw o x=0 by grind)with q | q
  ·exact absurd q (Nt hd)
  ·exact q
 ·intro z;rw [z]at e1;rcases Rat.mul_eq_zero.1 (show(c:Rat)*Zw (Go.Sky.sqf F o) x=0 by grind)with q | q
  ·exact absurd q (Nt hc)
  ·exact q
theorem Odp.nz{F n:Nat}{p o:List Int}(h:Odp F n p o){x:Rat}(hx:Zw p x≠0):Zw o x≠0:=fun z=>by
 obtain⟨c,d,B,hc,hd,e⟩:=h.sq
 have e1:=e x
 rw [z]at e1
 rcases Rat.mul_eq_zero.1 (show(d:Rat)*Zw p x=0 by grind)with q | q
 ·exact Nt hd q
 ·exact hx q
theorem Odp.opp{F n:Nat}{p o:List Int}(h:Odp F n p o){x y:Rat}(hxy:Zw p x*Zw p y<0):Zw o x*Zw o y<0∧Zw (Go.Sky.sqf F o) x*Zw (Go.Sky.sqf F o) y<0:=by
 obtain⟨c,d,B,hc,hd,e⟩:=h.sq
 have k1:(Zw o x*(Zw B x*Zw B x))*(Zw o y*(Zw B y*Zw B y))<0:=Zgm (Nt hc) (Nt hd) (e x).symm (e y).symm hxy
 have k2:=Ya2 k1
 obtain⟨c',d',hc',hd',e'⟩:=h.srt
 exact⟨k2,Zgm (Nt hc') (Nt hd') (e' x) (e' y) k2⟩
theorem Odp.sem{F n:Nat}{p o:List Int}(h:Odp F n p o){a b:Rat}(hab:a<b):(Dk p.length p a<0∨Zag F o a b)↔Zub p a b:=by
 have hsame:=Ybb h.tr h.ne h.sz h.hn h.hl h.hF h.eq h.otr h.one h.ok hab
 constructor
 ·rintro(h1 | h1)
  ·obtain⟨δ,d1,d2⟩:=Ao p.length p a (Nat.le_refl _)
   have r:=Zpz p.length p a
   have hm:Dk p.length p a=-1:=by omega
   rcases(show a+δ≤b∨b≤a+δ by grind)with q | q
   ·exact⟨a+δ,by grind,q,Zn0 (by rw [d2 (a+δ) (by grind) (by grind),hm])⟩
   ·exact⟨b,by grind,by grind,Zn0 (by rw [d2 b hab q,hm])⟩
  ·rcases Classical.em (Zub p a b)with q | q
   ·exact q
   ·exfalso
    have hge:∀x,a≤x→x≤b→0≤Zw p x:=fun x u v=>by
     rcases(show 0≤Zw p x∨Zw p x<0 by grind)with w | w
     ·exact w
     ·exact absurd ⟨x,u,v,w⟩ q
    have haft:∀x,a≤x→x<b→∃δ:Rat,0<δ∧∀y,x<y→y≤x+δ→y≤b→0<Zw p y:=fun x u v=>by
     obtain⟨δ,d1,d2⟩:=Ao p.length p x (Nat.le_refl _)
     have r:=Zpz p.length p x
     have r0:=Zhc p.length p x h.tr h.ne (Nat.le_refl _)
     refine⟨δ,d1,fun y c1 c2 c3=>?_⟩
     have s:=d2 y c1 c2
     rcases Na (Zw p y)with⟨h5,h6⟩ | ⟨h5,h6⟩ | ⟨h5,h6⟩
     ·exact h5
     ·have:=hge y (by grind) c3;grind
     ·rw [h6]at s;exact absurd s.symm r0
    obtain⟨δ,d1,d2⟩:=haft a (by grind) hab
    obtain⟨z,z1,z2,z3⟩:∃z,a<z∧z≤a+δ∧z≤b:=by
     rcases(show a+δ≤b∨b≤a+δ by grind)with w | w
     ·exact⟨a+δ,by grind,by grind,w⟩
     ·exact⟨b,hab,w,by grind⟩
    have hz:=d2 z z1 z2 z3
    have hσ:Zw (Go.Sky.sqf F o) z≠0:=fun e=>h.nz (x:=z) (by grind) ((h.zero z).1 e)
    have hf:=Yb9 h.otr h.one h.ok (σ:=Zw (Go.Sky.sqf F o) z) hσ hab (fun x u v=>by
     obtain⟨ε,e1,e2⟩:=haft x u v
     refine⟨ε,e1,fun y c1 c2 c3=>?_⟩
     have hy:=e2 y c1 c2 c3
     have hyn:Zw (Go.Sky.sqf F o) y≠0:=fun e=>h.nz (x:=y) (by grind) ((h.zero y).1 e)
     rcases(show 0<Zw (Go.Sky.sqf F o) z*Zw (Go.Sky.sqf F o) y∨Zw (Go.Sky.sqf F o) z*Zw (Go.Sky.sqf F o) y<0∨Zw (Go.Sky.sqf F o) z*Zw (Go.Sky.sqf F o) y=0 by grind)with w | w | w
     ·exact w
     ·exfalso
      obtain⟨c,d,B,hc,hd,e⟩:=h.sq
      obtain⟨c',d',hc',hd',e'⟩:=h.srt
      have w1:Zw o z*Zw o y<0:=Zgm (Nt hd') (Nt hc') (e' z).symm (e' y).symm w
      have p1:=Rat.mul_pos hz hy
      have q1:((d:Rat)*(d:Rat))*(Zw p z*Zw p y)=((c:Rat)*(c:Rat))*((Zw o z*Zw o y)*((Zw B z*Zw B y)*(Zw B z*Zw B y))):=by
       have a1:=e z
       have a2:=e y
       have:((d:Rat)*Zw p z)*((d:Rat)*Zw p y)=((c:Rat)*(Zw o z*(Zw B z*Zw B z)))*((c:Rat)*(Zw o y*(Zw B y*Zw B y))):=by rw [a1,a2]
       grind
      have q2:=Rat.mul_pos (Fq (Nt hd)) p1
      have q3:0≤(Zw B z*Zw B y)*(Zw B z*Zw B y):=by
       by_cases t:Zw B z*Zw B y=0
       ·rw [t];grind
       ·exact Rat.le_of_lt (Fq t)
      have q4:=Rat.mul_nonneg (Rat.le_of_lt (Fq (Nt hc))) (Rat.mul_nonneg (show 0≤-(Zw o z*Zw o y) by grind) q3)
      grind
     ·rcases Rat.mul_eq_zero.1 w with t | t
      ·exact absurd t hσ
      ·exact absurd t hyn)
    unfold Zag at h1
    by_cases hb0:Zw o b=0
    ·rw [if_pos hb0]at h1;rw [if_pos ((h.zero b).2 hb0)]at hf;omega
    ·rw [if_neg hb0]at h1;rw [if_neg (fun e=>hb0 ((h.zero b).1 e))]at hf;omega
 ·rintro⟨x,x1,x2,x3⟩
  rcases(show x=a∨x=b∨(a<x∧x<b) by grind)with q | q | ⟨q1,q2⟩
  ·subst q;exact hsame.1 (.inl x3)
  ·subst q;exact hsame.1 (.inr (.inl x3))
  ·have r:=Zpz p.length p a
   have r0:=Zhc p.length p a h.tr h.ne (Nat.le_refl _)
   rcases(show Dk p.length p a<0∨Dk p.length p a=1 by omega)with h1 | h1
   ·exact .inl h1
   ·right
    have hv:=Zmx h.tr h.ne h.sz h.hn h.hl h.hF h.eq h.otr h.one h.ok q1 h1 x3
    have m1:=Zjp h.otr h.one h.ok (Rat.le_of_lt q2)
    unfold Zag
    by_cases hb0:Zw o b=0
    ·rw [if_pos hb0]
     have hx:Zw (Go.Sky.sqf F o) x≠0:=fun e=>h.nz (x:=x) (by grind) ((h.zero x).1 e)
     rcases Int.lt_or_le (vch F o b) (vch F o x)with w | w
     ·omega
     ·exfalso
      have:=Zec h.otr h.one h.ok (Rat.le_of_lt q2) w hx b (Rat.le_of_lt q2) (by grind)
      rw [(h.zero b).2 hb0]at this
      grind
    ·rw [if_neg hb0];omega
theorem Zrq(g:Rat→Rat){h:Rat}(hh:0<h):∀(n:Nat) (u v:Rat),u<v→v-u≤(n:Rat)*h→g u*g v<0→∃x y,u≤x∧x<y∧y≤v∧y-x≤h∧g x≠0∧g x*g y≤0
 | 0,u,v,a,b,_=>by push_cast at b;grind
 | n+1,u,v,a,b,c=>by
  push_cast at b
  have hu:g u≠0:=fun e=>by rw [e]at c;grind
  by_cases hd:v-u≤h
  ·exact⟨u,v,by grind,a,by grind,hd,hu,by grind⟩
  ·rcases(show g u*g (u+h)≤0∨0<g u*g (u+h) by grind)with q | q
   ·exact⟨u,u+h,by grind,by grind,by grind,by grind,hu,q⟩
   ·have hz:g (u+h)*g v<0:=by
     have s1:=Fq hu
     rcases(show g (u+h)*g v<0∨0≤g (u+h)*g v by grind)with w | w
     ·exact w
     ·have m1:=Rat.mul_pos q (show 0 < -(g u*g v) by grind)
      have m2:=Rat.mul_nonneg (Rat.le_of_lt s1) w
      grind
    obtain⟨x,y,i1,i2,i3,i4,i5,i6⟩:=Zrq g hh n (u+h) v (by grind) (by grind) hz
    exact⟨x,y,by grind,i2,i3,i4,i5,i6⟩
theorem Zmw{a b c:Rat}(h:a*b<0)(h1:a-b≤c)(h2:b-a≤c):-c≤a∧a≤c:=by
 rcases(show 0<a∨a<0∨a=0 by grind)with q | q | q
 ·have:b<0:=by
   rcases(show b<0∨0≤b by grind)with w | w
   ·exact w
   ·have:=Rat.mul_nonneg (Rat.le_of_lt q) w;grind
  grind
 ·have:0<b:=by
   rcases(show 0<b∨b≤0 by grind)with w | w
   ·exact w
   ·have:=Rat.mul_nonneg (show 0≤-a by grind) (show 0≤-b by grind);grind
  grind
 ·rw [q]at h;grind
theorem Zr3{xs o:List Int}{F:Nat}(hx:Tr xs)(h0:xs≠[])(hC:Ar F xs)(ho:Tr o)(o0:o≠[])(hE:Ed o (sqf F xs)){u v:Rat}(huv:u<v)(hu:Zw (sqf F xs) u≠0)(h:Zw o u*Zw o v<0):vch F xs v<vch F xs u:=by
 rcases Int.lt_or_le (vch F xs v) (vch F xs u)with q | q
 ·exact q
 ·exfalso
  have hk:=Zec hx h0 hC (Rat.le_of_lt huv) q hu
  obtain⟨k,w,k0,hw⟩:=hE
  have hkr:=Nt k0
  have hcop:∀d,Tr d→Ed d o→Ed d (tzl w)→d.length≤1:=fun d hd e1 e2=>by
   obtain⟨k1,s1,c1,r1⟩:=e1
   obtain⟨k2,s2,c2,r2⟩:=e2
   refine Zf2 hx h0 hC.1.2.2.1 hd ⟨k*k1,Nc w s1,Int.mul_ne_zero k0 c1,fun x=>?_⟩ ⟨k*k1*k2,Kq ((Nc (ld w) s1).map fun a=>k2*a) ((Nc s2 (ld o)).map fun a=>k1*a),Int.mul_ne_zero (Int.mul_ne_zero k0 c1) c2,fun x=>?_⟩
   ·rw [Xn];have a1:=hw x;have a2:=r1 x;push_cast;grind
   ·rw [Pe,Yq,Yq,Xn,Xn,Ha]
    have a0:=Co (p:=(sqf F xs).map fun a=>k*a) (q:=Nc w o) (fun y=>by rw [Yq,Xn];exact hw y) x
    rw [Ax,Bl]at a0
    have a2:=r1 x
    have a3:=r2 x
    rw [Kl]at a3
    push_cast
    have b1:(k:Rat)*k1*k2*Zw (ld (sqf F xs)) x=(k1:Rat)*k2*(Zw (ld w) x*Zw o x+Zw w x*Zw (ld o) x):=by rw [←a0];grind
    rw [b1]
    have b2:(k1:Rat)*k2*(Zw (ld w) x*Zw o x+Zw w x*Zw (ld o) x)=(k2:Rat)*(Zw (ld w) x*((k1:Rat)*Zw o x))+(k1:Rat)*(((k2:Rat)*Zw w x)*Zw (ld o) x):=by grind
    rw [b2,a2,a3]
    grind
  obtain⟨ε,e1,e2⟩:=Zwj ho (Nr w) o0 hcop u v
  obtain⟨L1,l1,l2⟩:=Bk u v o
  obtain⟨L2,m1,m2⟩:=Bk u v w
  obtain⟨h',d1,-,d3⟩:=Gn (show(0:Rat)<1 by decide) (show 0<L1+L2 by grind) (show 0<ε/2 by grind)
  obtain⟨n,hn⟩:=Zhb (v-u) d1
  obtain⟨x,y,x1,x2,x3,x4,x5,x6⟩:=Zrq (Zw o) d1 n u v huv hn h
  have sx:=hk x x1 (by grind)
  have sy:=hk y (by grind) x3
  have ox:=hw x
  have oy:=hw y
  have hy0:Zw o y≠0:=fun e=>by
   rw [e]at oy
   rcases Rat.mul_eq_zero.1 (show(k:Rat)*Zw (sqf F xs) y=0 by grind)with t | t
   ·exact hkr t
   ·rw [t]at sy;grind
  have hoo:Zw o x*Zw o y<0:=by
   rcases(show Zw o x*Zw o y<0∨Zw o x*Zw o y=0 by grind)with t | t
   ·exact t
   ·rcases Rat.mul_eq_zero.1 t with t | t
    ·exact absurd t x5
    ·exact absurd t hy0
  have sxy:0<Zw (sqf F xs) x*Zw (sqf F xs) y:=by
   have a1:=Rat.mul_pos sx sy
   have a2:=Fq hu
   rcases(show 0<Zw (sqf F xs) x*Zw (sqf F xs) y∨Zw (sqf F xs) x*Zw (sqf F xs) y≤0 by grind)with t | t
   ·exact t
   ·have:=Rat.mul_nonneg (Rat.le_of_lt a2) (show 0≤-(Zw (sqf F xs) x*Zw (sqf F xs) y) by grind);grind
  have hww:Zw w x*Zw w y<0:=by
   have a1:(k:Rat)*k*(Zw (sqf F xs) x*Zw (sqf F xs) y)=(Zw w x*Zw w y)*(Zw o x*Zw o y):=by
    have:((k:Rat)*Zw (sqf F xs) x)*((k:Rat)*Zw (sqf F xs) y)=(Zw w x*Zw o x)*(Zw w y*Zw o y):=by rw [ox,oy]
    grind
   have a2:=Rat.mul_pos (Fq hkr) sxy
   rcases(show Zw w x*Zw w y<0∨0≤Zw w x*Zw w y by grind)with t | t
   ·exact t
   ·have:=Rat.mul_nonneg t (show 0≤-(Zw o x*Zw o y) by grind);grind
  have c1:=l2 x y x1 (by grind) x3
  have c2:=m2 x y x1 (by grind) x3
  have n1:=Rat.mul_nonneg (a:=L1) (b:=h'-(y-x)) (by grind) (by grind)
  have n2:=Rat.mul_nonneg (a:=L2) (b:=h'-(y-x)) (by grind) (by grind)
  have n3:=Rat.mul_nonneg (a:=L1) (b:=h') (by grind) (by grind)
  have n4:=Rat.mul_nonneg (a:=L2) (b:=h') (by grind) (by grind)
  obtain⟨b1,b2⟩:=Zmw (c:=ε/2) hoo (by grind) (by grind)
  obtain⟨b3,b4⟩:=Zmw (c:=ε/2) hww (by grind) (by grind)
  rcases e2 x x1 (by grind)with t | t
  ·unfold Big at t;grind
  ·unfold Big at t;rw [Kl]at t;grind
theorem Zmo{xs:List Int}{F:Nat}(hx:Tr xs)(h0:xs≠[])(hC:Ar F xs){u v:Rat}(huv:u<v)(hu:Zw (sqf F xs) u≠0)(hv:Zw (sqf F xs) v=0):vch F xs v<vch F xs u:=by
 rcases Int.lt_or_le (vch F xs v) (vch F xs u)with q | q
 ·exact q
 ·exfalso
  have:=Zec hx h0 hC (Rat.le_of_lt huv) q hu v (Rat.le_of_lt huv) (by grind)
  rw [hv]at this;grind
theorem Odp.ed{F n:Nat}{p o:List Int}(h:Odp F n p o):Ed o (Go.Sky.sqf F p):=by
 have hD:=Dp.start h.tr h.ne
 obtain⟨-,hE⟩:=Ei h.tr h.ne h.sz h.hn h.hl h.hF p.length (Qj p) hD (by rw [Ng h.tr];exact Nat.le_refl _)
 rw [←h.eq]at hE
 rwa [Cd hD.2.2.1]at hE
theorem Zzj{xs:List Int}{F:Nat}(hx:Tr xs)(h0:xs≠[])(hC:Ar F xs)(x:Rat):Zw xs x=0↔Zw (sqf F xs) x=0:=by
 constructor
 ·intro h
  have hd:(x.den:Int)≠0:=by exact_mod_cast x.den_nz
  have e:((x.num:Int):Rat)/((x.den:Int):Rat)=x:=by rw [←Rat.divInt_eq_div];exact Rat.num_divInt_den x
  have:=Zzl hx h0 hC.1.2.2.1 hd (r:=x.num) (by rw [e];exact h)
  rwa [e]at this
 ·intro h
  obtain⟨g,hg⟩:=Yd3 hx h0 hC.1.2.2.1
  rw [hg x,h];grind
theorem Yes {F n:Nat} {p o:List Int} (h:Odp F n p o) (hC:Ar F p) {K:Nat} {e:Nat} (sep:∀u v:Rat,-(K:Rat)≤u→u≤v→v≤(K:Rat)→v-u≤1/((2^e:Nat):Rat)→vch F p u-vch F p v≤1)
  {s t:Rat} (h1:-(K:Rat)+1≤s) (h2:t≤(K:Rat)) (hs:0≤Zw p s) (ht:0≤Zw p t) (hn:Zub p s t):1/((2^(e+1):Nat):Rat)<t-s:=by
 obtain⟨x,x1,x2,x3⟩:=hn
 have y1:s<x:=by rcases(show s<x∨s=x by grind)with q | q;exact q;subst q;grind
 have y2:x<t:=by rcases(show x<t∨x=t by grind)with q | q;exact q;subst q;grind
 obtain⟨f1,f2,f3,f4,f5,f6⟩:=Mi (F:=F) h.tr h.ne hC.1.2.2.1
 have hx0:Zw (Go.Sky.sqf F p) x≠0:=fun z=>by have:=(Zzj h.tr h.ne hC x).2 z;grind
 rcases(show 1/((2^(e+1):Nat):Rat)<t-s∨t-s≤1/((2^(e+1):Nat):Rat) by grind)with q | q
 ·exact q
 ·exfalso
  have hp:=two_pow_pos e
  have hp1:=two_pow_pos (e+1)
  have e2:((2^(e+1):Nat):Rat)=2*((2^e:Nat):Rat):=by rw [Nat.pow_succ];push_cast;grind
  have hi:0<((2^e:Nat):Rat)⁻¹:=Rat.inv_pos.2 hp
  have h2e:1/((2^(e+1):Nat):Rat)=((2^e:Nat):Rat)⁻¹/2:=by rw [e2];grind
  have h1e:1/((2^e:Nat):Rat)=((2^e:Nat):Rat)⁻¹:=by grind
  have hle:((2^e:Nat):Rat)⁻¹≤1:=by
   have g1:(1:Rat)≤((2^e:Nat):Rat):=by have:1≤2^e:=Nat.two_pow_pos e;exact_mod_cast this
   have g2:=Rat.mul_nonneg (a:=((2^e:Nat):Rat)-1) (b:=((2^e:Nat):Rat)⁻¹) (by grind) (by grind)
   have g3:((2^e:Nat):Rat)*((2^e:Nat):Rat)⁻¹=1:=Rat.mul_inv_cancel _ (by grind)
   grind
  obtain⟨u,u1,u2,u3⟩:∃u,s-((2^e:Nat):Rat)⁻¹/2≤u∧u≤s∧vch F p x<vch F p u:=by
   by_cases z:Zw (Go.Sky.sqf F p) s=0
   ·obtain⟨δ,d1,d2⟩:=Ao (Go.Sky.sqf F p).length (Go.Sky.sqf F p) (s-((2^e:Nat):Rat)⁻¹/2) (Nat.le_refl _)
    have a0:=Zhc (Go.Sky.sqf F p).length (Go.Sky.sqf F p) (s-((2^e:Nat):Rat)⁻¹/2) f2 f3 (Nat.le_refl _)
    obtain⟨u,w1,w2,w3⟩:∃u,s-((2^e:Nat):Rat)⁻¹/2<u∧u≤s-((2^e:Nat):Rat)⁻¹/2+δ∧u<s:=by
     rcases(show s-((2^e:Nat):Rat)⁻¹/2+δ<s∨s≤s-((2^e:Nat):Rat)⁻¹/2+δ by grind)with w | w
     ·exact⟨_,by grind,Rat.le_refl,w⟩
     ·exact⟨s-((2^e:Nat):Rat)⁻¹/4,by grind,by grind,by grind⟩
    have hu:Zw (Go.Sky.sqf F p) u≠0:=fun c=>by have:=d2 u w1 w2;rw [c]at this;exact a0 this.symm
    have m1:=Zmo h.tr h.ne hC w3 hu z
    have m2:=Zjp h.tr h.ne hC (Rat.le_of_lt y1)
    exact⟨u,by grind,by grind,by omega⟩
   ·have hp0:0<Zw p s:=by
     have:Zw p s≠0:=fun c=>z ((Zzj h.tr h.ne hC s).1 c)
     grind
    have k:=h.opp (x:=s) (y:=x) (by have:=Rat.mul_pos hp0 (show 0 < -Zw p x by grind);grind)
    exact⟨s,by grind,by grind,Zr3 h.tr h.ne hC h.otr h.one h.ed y1 z k.1⟩
  have u4:vch F p t<vch F p x:=by
   by_cases z:Zw (Go.Sky.sqf F p) t=0
   ·exact Zmo h.tr h.ne hC y2 hx0 z
   ·have hp0:0<Zw p t:=by
     have:Zw p t≠0:=fun c=>z ((Zzj h.tr h.ne hC t).1 c)
     grind
    have k:=h.opp (x:=x) (y:=t) (by have:=Rat.mul_pos hp0 (show 0 < -Zw p x by grind);grind)
    exact Zr3 h.tr h.ne hC h.otr h.one h.ed y2 hx0 k.1
  have:=sep u t (by grind) (by grind) h2 (by grind)
  omega
def Zct(xs:List Int)(m:Nat):Prop:=xs.length=0∨(xs.length+2)*(xs.length+2)*(Pi xs+m+2*(xs.length-1)+32)≤65536
instance (xs:List Int) (m:Nat):Decidable (Zct xs m):=by unfold Zct;infer_instance
theorem sgf_t{xs:List Int}{m:Nat}(h:xs.length=0):Value.bool (decide (Zct xs m))= .bool true:=congrArg Value.bool (decide_eq_true (.inl h))
theorem sgf_i{xs:List Int}{m:Nat}{n:Int}(h:xs.length≠0)(hn:n=(((xs.length+2)*(xs.length+2)*(Pi xs+m+2*(xs.length-1)+32):Nat):Int)):Value.bool (decide (Zct xs m))= .bool (decide (n≤65536)):=congrArg Value.bool (decide_eq_decide.2 (by
 subst hn
 show(xs.length=0∨_≤65536)↔_
 constructor
 ·intro h1;rcases h1 with h1 | h1
  ·exact absurd h1 h
  ·exact Int.ofNat_le.2 h1
 ·intro h1;exact .inr (Int.ofNat_le.1 h1)))
def efit(z:R2):Bool:=decide (max (bl z.1.natAbs) (bl z.2.natAbs)≤512)
def Zio:List Int→Int
 | []=>0
 | x :: r=>if x=0 then Zio r else x
theorem Zru{s:Int}(h:s≠0):∀{L:List Int} {i:Nat},i<L.length→(∀k,k<i→L.getD k 0=0)→L.getD i 0=s→Zio L=s
 | [],i,hi,_,_=>absurd hi (by simp)
 | x :: r,0,_,_,hs=>by have e:x=s:=hs;subst e;unfold Zio;rw [if_neg h]
 | x :: r,i+1,hi,hz,hs=>by
  have e:x=0:=hz 0 (by omega)
  unfold Zio;rw [if_pos e]
  exact Zru h (L:=r) (i:=i) (by simpa using hi) (fun k hk=>hz (k+1) (by omega)) hs
theorem Zm3:∀{L:List Int},(∀k,k<L.length→L.getD k 0=0)→Zio L=0
 | [],_=>rfl
 | x :: r,hz=>by
  have e:x=0:=hz 0 (by simp)
  unfold Zio;rw [if_pos e]
  exact Zm3 fun k hk=>hz (k+1) (by simpa using hk)
def aft(Ls:List (List Int))(m:R2):Int:=Zio (Ls.map (fat m.1 m.2))
def vlu(Ls:List (List Int))(m:R2):Int:=if Ls.length=0 then 0 else fat m.1 m.2 (Ls.getD 0 [])
def chv(Ls:List (List Int))(m:R2):Int:=chg (Ls.map (fat m.1 m.2))
def crb(Ls:List (List Int))(a b:R2):Bool:=if Ls.length=0 then false else decide (0<chv Ls a-chv Ls b-if fat b.1 b.2 (Ls.getD 0 [])=0 then 1 else 0)
def Ba(a b:R2):Int:=(a.1*b.2-b.1*a.2).sign
def ngb(ds cs:List (List Int))(a b:R2):Bool:=if Ba a b=0 then decide (vlu ds a<0)else(decide (aft ds a<0) || crb cs a b)
theorem Zw7(ls:List (SL×List Int))(x y:Int):aft (ls.map Prod.snd) (x,y)=Zio (sgx ls (fat x y)):=by unfold aft;rw [Zur rfl]
theorem Yfw(ls:List (SL×List Int))(x y:Int):chv (ls.map Prod.snd) (x,y)=chg (sgx ls (fat x y)):=by unfold chv;rw [Zur rfl]
theorem Zhl(ls:List (SL×List Int)){i:Nat}(h:i<ls.length):(ls.map Prod.snd).getD i []=(ls.getD i Z0).2:=by
 rw [List.getD_eq_getElem?_getD,List.getD_eq_getElem?_getD,List.getElem?_map,List.getElem?_eq_getElem h];rfl
theorem Zwu(Ls:List (List Int))(m:R2):0≤chv Ls m∧chv Ls m≤(Ls.length:Int):=by
 have:=Zbh (Ls.map (fat m.1 m.2));rw [List.length_map]at this;exact this
theorem Zqm{x:Rat}(h:Ev x=0):x=0:=by
 rcases Na x with⟨h5,h6⟩ | ⟨h5,h6⟩ | ⟨h5,h6⟩
 ·rw [h6]at h;exact absurd h (by decide)
 ·rw [h6]at h;exact absurd h (by decide)
 ·exact h5
theorem sgm_i{x l:Int}(hx:-1≤x∧x≤1)(hl:-1≤l∧l≤1):inI (x*l):=by
 rcases(show x=-1∨x=0∨x=1 by omega)with h | h | h<;>subst h
 ·exact⟨by omega,by omega⟩
 ·exact⟨by omega,by omega⟩
 ·exact⟨by omega,by omega⟩
theorem Zuv{x l:Int}(hx:-1≤x∧x≤1)(hl:-1≤l∧l≤1)(h:x*l<0):x=-l:=by
 rcases(show x=-1∨x=0∨x=1 by omega)with h | h | h<;>subst h<;>omega
theorem Zuu{x l:Int}(hx:-1≤x∧x≤1)(hl:-1≤l∧l≤1)(h:¬x*l<0)(h0:x≠0):¬x=-l:=by
 rcases(show x=-1∨x=0∨x=1 by omega)with h | h | h<;>subst h<;>omega
theorem Zuw{x l:Int}(h:x=0):¬x*l<0:=by subst h;omega
theorem crb_t{cs:List (SL×List Int)}{x y x2 y2:Int}(h:cs.length≠0)(h0:fat x2 y2 (cs.getD 0 Z0).2=0):Value.bool (crb (cs.map Prod.snd) (x,y) (x2,y2))= .bool (decide (0<chv (cs.map Prod.snd) (x,y)-chv (cs.map Prod.snd) (x2,y2)-1)):=by
 unfold crb;rw [List.length_map,if_neg h,Zhl _ (by omega),if_pos h0]
theorem crb_f{cs:List (SL×List Int)}{x y x2 y2:Int}(h:cs.length≠0)(h0:¬fat x2 y2 (cs.getD 0 Z0).2=0):Value.bool (crb (cs.map Prod.snd) (x,y) (x2,y2))= .bool (decide (0<chv (cs.map Prod.snd) (x,y)-chv (cs.map Prod.snd) (x2,y2))):=by
 unfold crb;rw [List.length_map,if_neg h,Zhl _ (by omega),if_neg h0,Int.sub_zero]
theorem ngb_t{ds cs:List (List Int)}{a b:R2}(h:¬Ba a b=0)(h0:aft ds a<0):Value.bool (ngb ds cs a b)= .bool true:=by
 unfold ngb;rw [if_neg h,decide_eq_true h0];rfl
theorem ngb_f{ds cs:List (List Int)}{a b:R2}(h:¬Ba a b=0)(h0:¬aft ds a<0):Value.bool (ngb ds cs a b)= .bool (crb cs a b):=by
 unfold ngb;rw [if_neg h,decide_eq_false h0];rfl
def Zfl:Nat→List Int→List (List Int)
 | 0,_=>[]
 | n+1,p=>if p.length=0 then []else p :: Zfl n (Qi p)
theorem Zr7{m:R2}(hm:0<m.2):∀(n:Nat) (p:List Int),p.length≤n→aft (Zfl n p) m=Dk n p (qv m)
 | 0,p,hl=>rfl
 | n+1,p,hl=>by
  unfold Zfl
  by_cases h0:p.length=0
  ·rw [if_pos h0]
   have:p=[]:=List.eq_nil_of_length_eq_zero h0
   subst this
   have hz:∀n,Dk n [] (qv m)=0:=fun n=>by
    induction n with
    | zero=>rfl
    | succ n ih=>unfold Dk;rw [if_neg (by show ¬(0:Rat)≠0;simp)];exact ih
   rw [hz];rfl
  ·rw [if_neg h0]
   have ld':=Nv p
   have ih:=Zr7 hm n (Qi p) (by omega)
   unfold aft at ih ⊢
   rw [List.map_cons]
   unfold Zio Dk
   have hf:fat m.1 m.2 p=Ev (Zw p (qv m)):=Zeg hm p
   rw [hf]
   by_cases hz:Zw p (qv m)=0
   ·rw [if_pos (Zqn hz),if_neg (by simpa using hz)];exact ih
   ·rw [if_neg (fun e=>hz (Zqm e)),if_pos hz]
structure Cvd (xs:List Int):Prop where
 v:Vp xs
 s:Sz 70 xs
 l:xs.length≤7
theorem Zg2{xs r:List Int}(h:Cvd xs)(h0:xs≠[])(hr:Dp xs r):Sz 200 r∧r.length≤7:=by
 obtain⟨s1,s2⟩:=hr.sz h.v.tr h0 h.s (by have:=h.l;omega)
 exact⟨s1,by have:=h.l;omega⟩
theorem Zd2{xs r:List Int}(h:Cvd xs)(h0:xs≠[])(hr:Dp xs r) :
  Vp r∧r≠[]∧(∀i,bl (cf r (i+1)*((i:Int)+1)).natAbs≤65536)∧Vp (Qi r)∧¬Zm2 r (Qi r)∧eok 13 (gA r (Qi r)) (gB r (Qi r))∧Ms 13 r (Qi r)=Nw 13 r∧Vp (Nw 13 r)∧
  Bp r (Nw 13 r)=0∧pdv r (Nw 13 r)∧Kt r (Nw 13 r)=sqf 13 r∧Vp (sqf 13 r)∧Sz 330 (sqf 13 r)∧(sqf 13 r).length≤7∧Dp xs (Nw 13 r)∧sqf 13 r≠[]∧((sqf 13 r).length≠1→(Nw 13 r).length<r.length)∧Ez 13 r:=by
 obtain⟨s1,s2⟩:=Zg2 h h0 hr
 have hv:Vp r:=⟨s1.mono (by omega),hr.1,by omega⟩
 have hok:=hr.ok h.v.tr h0 h.s (by omega) (by have:=h.l;omega) (show xs.length≤13+1 by have:=h.l;omega)
 obtain⟨⟨q1,q2,q3,q4,q5⟩,-,-⟩:=hok.1
 have hn:=hr.2.2.1
 have hs9:=(chF 13 hr.1 hr.2.1 s1 (by omega) (by omega) (by omega)).2.1
 have hl9:=(chF 13 hr.1 hr.2.1 s1 (by omega) (by omega) (by omega)).2.2.1
 have hvs:=Zjm hv hr.2.1 hok.1.1
 have hg:Nw 13 r=Ms 13 r (Qi r):=by unfold Nw;rw [hn]
 have hd:=hr.next hok.2
 have hvg:Vp (Nw 13 r):=by obtain⟨t1,t2⟩:=Zg2 h h0 hd;exact⟨t1.mono (by omega),hd.1,by omega⟩
 have hsq:sqf 13 r=Kt r (Nw 13 r):=by unfold sqf Nw;rw [hn]
 obtain⟨f1,f2,f3,f4,f5,f6⟩:=Mi (F:=13) hr.1 hr.2.1 hok.2
 have hq1:∀i,bl (cf r (i+1)*((i:Int)+1)).natAbs≤65536:=fun i=>by
  by_cases hi:i<r.length
  ·have:=q1 i hi;rwa [hn]at this
  ·rw [Qe (by omega)];simp [Ly]
 rw [hn]at q2 q3 q4 q5
 rw [←hg]at q4 q5
 refine⟨hv,hr.2.1,hq1,Zfs hv (fun i _=>hq1 i),q2,q3,hg.symm,hvg,q4,q5,hsq.symm,hvs,hs9,by omega,hd,f3,fun hne=>?_,hok.2⟩
 refine Zk0 hr.1 hr.2.1 hok.2 ?_
 have:=Nb hr.1 hr.2.1 hok.2
 have l1:=List.length_pos_iff.2 f3
 have l2:=List.length_pos_iff.2 this.2.1
 omega
def Kf(xs:List Int):List Int:=Zoq 13 xs.length [1] (Qj xs)
structure OddI (xs:List Int) (t:Nat) (rest out before:List Int):Prop where
 ex:∃f q,Dp xs q∧q.length≤f∧Zoq 13 f out q=Kf xs∧Tr out∧Op xs out q∧((t%2=1∧rest=q)∨(t%2=0∧rest=Nw 13 q∧before=sqf 13 q∧(sqf 13 q).length≠1))
theorem OddI.start{xs b:List Int}(h:Cvd xs)(h0:xs≠[]):OddI xs 1 (Qj xs) [1] b:=
 ⟨xs.length,Qj xs,Dp.start h.v.tr h0,by rw [Ng h.v.tr];exact Nat.le_refl _,rfl,.inr (by decide),Op.start h.v.tr,.inl ⟨rfl,rfl⟩⟩
theorem OddI.dp{xs:List Int}{t:Nat}{rest out before:List Int}(h:Cvd xs)(h0:xs≠[])(hI:OddI xs t rest out before):Dp xs rest:=by
 obtain⟨f,q,h1,h2,h3,h4,h5,h6 | ⟨-,rfl,-⟩⟩:=hI.ex
 ·rw [h6.2];exact h1
 ·exact(Zd2 h h0 h1).2.2.2.2.2.2.2.2.2.2.2.2.2.2.1
theorem OddI.out{xs:List Int}{t:Nat}{rest out before:List Int}(h:Cvd xs)(h0:xs≠[])(hI:OddI xs t rest out before):Vp out∧Sz 200 out∧out.length≤7:=by
 obtain⟨f,q,h1,h2,h3,h4,h5,-⟩:=hI.ex
 obtain⟨s1,s2,s3⟩:=h5.sz h.v.tr h0 h.s (by have:=h.l;omega) h4 h1.1
 have:=h.l
 exact⟨⟨s1.mono (by omega),h4,by omega⟩,s1,by omega⟩
theorem OddI.odd_end{xs:List Int}{t:Nat}{rest out before:List Int}(h:Cvd xs)(h0:xs≠[])(hI:OddI xs t rest out before)(ht:t%2=1)(hl:(sqf 13 rest).length=1):out=Kf xs:=by
 obtain⟨f,q,h1,h2,h3,h4,h5,⟨-,rfl⟩ | ⟨h7,-⟩⟩:=hI.ex
 ·cases f with
  | zero=>exact absurd (List.length_pos_iff.2 h1.2.1) (by omega)
  | succ f=>unfold Zoq at h3;rw [if_pos hl]at h3;exact h3
 ·omega
theorem OddI.odd_next{xs:List Int}{t:Nat}{rest out before:List Int}(hI:OddI xs t rest out before)(ht:t%2=1)(hl:(sqf 13 rest).length≠1):OddI xs (t+1) (Nw 13 rest) out (sqf 13 rest):=by
 obtain⟨f,q,h1,h2,h3,h4,h5,⟨-,rfl⟩ | ⟨h7,-⟩⟩:=hI.ex
 ·exact⟨f,rest,h1,h2,h3,h4,h5,.inr ⟨by omega,rfl,rfl,hl⟩⟩
 ·omega
theorem OddI.even{xs:List Int}{t:Nat}{rest out before:List Int}(h:Cvd xs)(h0:xs≠[])(hI:OddI xs t rest out before)(ht:t%2=0) :
  Vp before∧Bp before (sqf 13 rest)=0∧pdv before (sqf 13 rest)∧Vp (Kt before (sqf 13 rest))∧¬Zgq out (Kt before (sqf 13 rest))∧
  ((sqf 13 rest).length=1→Ou out (Kt before (sqf 13 rest))=Kf xs)∧((sqf 13 rest).length≠1→OddI xs (t+1) (Nw 13 rest) (Ou out (Kt before (sqf 13 rest))) (sqf 13 rest))∧Vp (Ou out (Kt before (sqf 13 rest))):=by
 obtain⟨f,q,h1,h2,h3,h4,h5,⟨h7,-⟩ | ⟨-,rfl,rfl,hq⟩⟩:=hI.ex
 ·omega
 obtain⟨a1,a2,a3,a4,a5,a6,a7,a8,a9,a10,a11,a12,a13,a14,a15,a16,a17,a18⟩:=Zd2 h h0 h1
 obtain⟨b1,b2,b3,b4,b5,b6,b7,b8,b9,b10,b11,b12,b13,b14,b15,b16,b17,b18⟩:=Zd2 h h0 a15
 obtain⟨c1,c2,c3,c4⟩:=Cr h1.1 h1.2.1 a18 b18
 have hO:=h5.next h1.1 h1.2.1 h1.2.2.1 a18 b18
 have ho:=h.l
 obtain⟨s1,s2,s3⟩:=hO.sz h.v.tr h0 h.s (by omega) (Om _ _) b15.1
 obtain⟨o1,o2,o3⟩:=h5.sz h.v.tr h0 h.s (by omega) h4 h1.1
 have hol:(Be 13 q).length≤7:=by
  have e:=congrArg List.length c2
  rw [Nz c3 b12.tr c4 b16]at e
  have:=List.length_pos_iff.2 b16
  omega
 have hos:Sz 335 (Be 13 q):=by
  obtain⟨a,ha,e⟩:=hO
  have e2:Qj xs=Ou (Ou (Ou a (Nw 13 (Nw 13 q))) out) (Be 13 q):=e.trans ((Om _ _).ext (Om _ _) fun i=>Lr (fun x=>by simp only [Xy];grind) i)
  exact(Ztr h.v.tr h0 h.s (by omega) (Om _ _) c3 e2).1.mono (by omega)
 have hd:Bp (sqf 13 q) (sqf 13 (Nw 13 q))=0:=by
  have m1:=Oi a13
  have m2:=Oi b13
  have l1:=List.length_pos_iff.2 b16
  unfold Bp
  rw [if_neg (by omega)]
  split
  ·rfl
  ·have:((sqf 13 q).length-(sqf 13 (Nw 13 q)).length+1)*(Pi (sqf 13 (Nw 13 q))+1)≤8*331:=Nat.mul_le_mul (by omega) (by omega)
   rw [if_neg (by omega)]
 have hvo:Vp (Be 13 q):=⟨hos.mono (by omega),c3,by omega⟩
 have hm:¬Zgq out (Be 13 q):=fun hF=>by
  have m1:=Oi o1
  have m2:=Oi hos
  rcases hF.2.2 with w | w<;>omega
 refine⟨a12,hd,c1,hvo,hm,fun hl=>?_,fun hl=>?_,⟨s1.mono (by omega),Om _ _,Nat.le_trans s2 (by omega)⟩⟩
 ·cases f with
  | zero=>exact absurd (List.length_pos_iff.2 h1.2.1) (by omega)
  | succ f=>unfold Zoq at h3;rw [if_neg hq,if_pos hl]at h3;exact h3
 ·cases f with
  | zero=>exact absurd (List.length_pos_iff.2 h1.2.1) (by omega)
  | succ f=>
   unfold Zoq at h3;rw [if_neg hq,if_neg hl]at h3
   have l1:=a17 hq
   have l2:=b17 hl
   exact⟨f,Nw 13 (Nw 13 q),b15,by omega,h3,Om _ _,hO,.inl ⟨by omega,rfl⟩⟩
theorem Zx2{xs:List Int}(h:Cvd xs)(h0:xs≠[]):Kf xs=Cw 13 xs.length (Qj xs):=by
 have hD:=Dp.start h.v.tr h0
 have hl:=h.l
 have hok:=(hD.ok h.v.tr h0 h.s (by omega) (by omega) (show xs.length≤13+1 by omega)).2
 unfold Kf
 rw [Zvn h.v.tr h0 h.s (by omega) (by omega) (by omega) xs.length [1] (Qj xs) (.inr (show cf [1] 0≠0 by decide)) hD (by rw [Ng h.v.tr];exact Nat.le_refl _),Zvi (Zi1 (p:=xs) hD.1 hD.2.1 hok)]
theorem Zb3{xs:List Int}(h:Cvd xs)(h0:xs≠[]):Odp 13 70 xs (Kf xs)∧Vp (Kf xs)∧Sz 200 (Kf xs)∧(Kf xs).length≤xs.length∧Zax (Kf xs):=by
 have hD:=Dp.start h.v.tr h0
 have hl:=h.l
 have hok:=(hD.ok h.v.tr h0 h.s (by omega) (by omega) (show xs.length≤13+1 by omega)).2
 have he:=Zx2 h h0
 have ht:Tr (Kf xs):=by rw [he];exact Zi1 (p:=xs) hD.1 hD.2.1 hok
 obtain⟨⟨B,hB⟩,-⟩:=Ei h.v.tr h0 h.s (by omega) (by omega) (show xs.length≤13+1 by omega) xs.length (Qj xs) hD (by rw [Ng h.v.tr];exact Nat.le_refl _)
 rw [←he]at hB
 have e:Qj xs=Ou (Ou B B) (Kf xs):=hD.1.ext (Om _ _) fun i=>Lr (fun x=>by rw [hB x,Xy,Xy];grind) i
 obtain⟨s1,s2,s3⟩:=Ztr h.v.tr h0 h.s (by omega) (Om _ _) ht e
 have hC:=(chF 13 ht s3 s1 (by omega) (by omega) (by omega)).1
 refine⟨⟨h.v.tr,h0,h.s,by omega,by omega,by omega,he,ht,s3,hC⟩,⟨s1.mono (by omega),ht,by omega⟩,s1,s2,.inr ?_⟩
 have m1:=Oi s1
 have g1:((Kf xs).length+2)*((Kf xs).length+2)≤9*9:=Nat.mul_le_mul (by omega) (by omega)
 have g2:((Kf xs).length+2)*((Kf xs).length+2)*(Pi (Kf xs)+16)≤9*9*216:=Nat.mul_le_mul g1 (by omega)
 omega
def Bb(xs:List Int):List (List Int):=if xs.length=0 then []else chn 13 (Kf xs)
def Ol(xs:List Int):List (List Int):=Zfl xs.length xs
theorem Zr6:∀(n k:Nat) (p:List Int),Tr p→p.length≤25→Sz k p→∀q∈Zfl n p,Tr q∧q.length≤p.length∧Sz (k+5*n) q
 | 0,_,_,_,_,_,q,hq=>absurd hq (by simp [Zfl])
 | n+1,k,p,ht,hl,hs,q,hq=>by
  unfold Zfl at hq
  by_cases h0:p.length=0
  ·rw [if_pos h0]at hq;exact absurd hq (by simp)
  ·rw [if_neg h0]at hq
   rcases List.mem_cons.1 hq with rfl | hq
   ·exact⟨ht,Nat.le_refl _,hs.mono (by omega)⟩
   ·have ld':=Nv p
    obtain⟨a1,a2,a3⟩:=Zr6 n (k+5) (Qi p) (Mz ht) (by omega) (Fh hs hl) q hq
    exact⟨a1,by omega,a3.mono (by omega)⟩
theorem Lo{xs:List Int}(h:Cvd xs):∀q∈Ol xs,Vp q∧Pi q≤8525∧q.length≤7:=fun q hq=>by
 have hl:=h.l
 obtain⟨a1,a2,a3⟩:=Zr6 xs.length 70 xs h.v.tr (by omega) h.s q hq
 have:=Oi a3
 exact⟨⟨a3.mono (by omega),a1,by omega⟩,by omega,by omega⟩
theorem Dd{xs:List Int}(h:Cvd xs):∀q∈Bb xs,Vp q∧Pi q≤8525∧q.length≤7:=fun q hq=>by
 have hl:=h.l
 unfold Bb at hq
 by_cases h0:xs.length=0
 ·rw [if_pos h0]at hq;exact absurd hq (by simp)
 ·rw [if_neg h0]at hq
  have h0':xs≠[]:=fun e=>h0 (by rw [e];rfl)
  obtain⟨a1,a2,a3,a4,a5⟩:=Zb3 h h0'
  obtain⟨b1,b2,b3,b4⟩:=chF 13 a1.otr a1.one a3 (by omega) (by omega) (show(Kf xs).length≤13+1 by omega)
  exact⟨Zy2 a2 a1.one b1 q hq,(b4 q hq).1,by have:=(b4 q hq).2;omega⟩
theorem Cg(xs:List Int):(Bb xs).length≤1000:=by
 unfold Bb
 split
 ·exact Nat.zero_le _
 ·have:=Zaq 13 (sqf 13 (Kf xs)) (Xf (Qi (sqf 13 (Kf xs))));unfold chn;omega
theorem Zqb{p:List Int}{m:R2}(h1:Pi p≤8525)(h2:p.length≤7)(a:bl m.1.natAbs≤3100)(b:bl m.2.natAbs≤3100):¬Iw p m.1 m.2:=fun hF=>by
 have h3:Pi [m.1,m.2]≤3100:=by show max (bl m.1.natAbs) (max (bl m.2.natAbs) 0)≤3100;omega
 have h4:(p.length-1)*Pi [m.1,m.2]≤6*3100:=Nat.mul_le_mul (by omega) h3
 have:=hF.2
 omega
theorem Kx{xs:List Int}(h:Cvd xs){m:R2}(a:bl m.1.natAbs≤3100)(b:bl m.2.natAbs≤3100):(∀p∈Ol xs,¬Iw p m.1 m.2)∧(∀p∈Bb xs,¬Iw p m.1 m.2):=
 ⟨fun p hp=>Zqb (Lo h p hp).2.1 (Lo h p hp).2.2 a b,fun p hp=>Zqb (Dd h p hp).2.1 (Dd h p hp).2.2 a b⟩
theorem Yak{a b:R2}(ha:0<a.2)(hb:0<b.2):((a.1*b.2-b.1*a.2:Int):Rat)=(qv a-qv b)*((a.2:Rat)*(b.2:Rat)):=by
 have h1:=Gt ha
 have h2:=Gt hb
 unfold qv
 push_cast
 grind
theorem Yfq{a b:R2}(ha:0<a.2)(hb:0<b.2):Ba a b<0↔qv a<qv b:=by
 have e:=Yak ha hb
 have hp:=Rat.mul_pos (Gt ha) (Gt hb)
 unfold Ba
 rw [Qz]
 constructor
 ·intro h
  have h1:((a.1*b.2-b.1*a.2:Int):Rat)<0:=by exact_mod_cast h
  rcases(show qv a<qv b∨qv b≤qv a by grind)with q | q
  ·exact q
  ·have:=Rat.mul_nonneg (show 0≤qv a-qv b by grind) (Rat.le_of_lt hp);grind
 ·intro h
  have:=Rat.mul_pos (show 0<qv b-qv a by grind) hp
  have h1:((a.1*b.2-b.1*a.2:Int):Rat)<0:=by grind
  exact_mod_cast h1
theorem Zph{a b:R2}(ha:0<a.2)(hb:0<b.2):Ba a b=0↔qv a=qv b:=by
 have e:=Yak ha hb
 have hp:=Rat.mul_pos (Gt ha) (Gt hb)
 unfold Ba
 rw [Int.sign_eq_zero_iff_zero]
 constructor
 ·intro h
  rw [h]at e
  rcases Rat.mul_eq_zero.1 (show(qv a-qv b)*((a.2:Rat)*(b.2:Rat))=0 by rw [←e];rfl)with q | q
  ·grind
  ·rw [q]at hp;grind
 ·intro h
  have h1:((a.1*b.2-b.1*a.2:Int):Rat)=0:=by rw [e,h];grind
  exact_mod_cast h1
theorem Yfr{a b:R2}(ha:0<a.2)(hb:0<b.2):Ba a b≤0↔qv a≤qv b:=by
 have h1:=Yfq ha hb
 have h2:=Zph ha hb
 constructor
 ·intro h
  rcases(show Ba a b<0∨Ba a b=0 by omega)with q | q
  ·exact Rat.le_of_lt (h1.1 q)
  ·have:=h2.1 q;grind
 ·intro h
  rcases(show qv a<qv b∨qv a=qv b by grind)with q | q
  ·exact Int.le_of_lt (h1.2 q)
  ·exact Int.le_of_eq (h2.2 q)
theorem Yb8{m:R2}(hm:0<m.2)(p:List Int):fat m.1 m.2 p=Ev (Zw p (qv m)):=Zeg hm p
theorem Yfv{xs:List Int}(h:Cvd xs)(h0:xs≠[]){a b:R2}(ha:0<a.2)(hb:0<b.2):crb (Bb xs) a b=true↔Zag 13 (Kf xs) (qv a) (qv b):=by
 obtain⟨a1,a2,a3,a4,a5⟩:=Zb3 h h0
 have hl0:xs.length≠0:=fun e=>h0 (List.eq_nil_of_length_eq_zero e)
 unfold crb Zag Bb
 rw [if_neg hl0]
 have hh:∃r,chn 13 (Kf xs)=sqf 13 (Kf xs) :: r:=by
  unfold chn Li
  split<;>exact⟨_,rfl⟩
 obtain⟨r,hr⟩:=hh
 have hv:∀m:R2,0<m.2→chv (chn 13 (Kf xs)) m=vch 13 (Kf xs) (qv m):=fun m hm=>(cvc_v (F:=13) (xs:=Kf xs) hm)
 rw [if_neg (by rw [hr];simp),hv a ha,hv b hb]
 have hg:(chn 13 (Kf xs)).getD 0 []=sqf 13 (Kf xs):=by rw [hr];rfl
 rw [hg,Yb8 hb]
 have hz:Ev (Zw (sqf 13 (Kf xs)) (qv b))=0↔Zw (Kf xs) (qv b)=0:=⟨fun e=>(a1.zero _).1 (Zqm e),fun e=>Zqn ((a1.zero _).2 e)⟩
 by_cases hb0:Zw (Kf xs) (qv b)=0
 ·rw [if_pos hb0,if_pos (hz.2 hb0)];exact decide_eq_true_iff
 ·rw [if_neg hb0,if_neg (fun e=>hb0 (hz.1 e))];exact decide_eq_true_iff
theorem Zjo{xs:List Int}{m:R2}(hm:0<m.2):vlu (Ol xs) m=Ev (Zw xs (qv m)):=by
 unfold vlu Ol
 by_cases h0:xs.length=0
 ·have:xs=[]:=List.eq_nil_of_length_eq_zero h0
  subst this;rfl
 ·obtain⟨n,hn⟩:∃n,xs.length=n+1:=⟨xs.length-1,by omega⟩
  rw [hn];unfold Zfl;rw [if_neg h0,if_neg (by simp)]
  exact Yb8 hm xs
theorem Zot{xs:List Int}(h:Cvd xs){a b:R2}(ha:0<a.2)(hb:0<b.2)(hab:qv a≤qv b):ngb (Ol xs) (Bb xs) a b=true↔Zub xs (qv a) (qv b):=by
 unfold ngb
 by_cases hc:Ba a b=0
 ·rw [if_pos hc,Zjo ha,decide_eq_true_iff]
  have e:=(Zph ha hb).1 hc
  constructor
  ·intro h1
   refine⟨qv a,Rat.le_refl,hab,?_⟩
   rcases Na (Zw xs (qv a))with⟨h5,h6⟩ | ⟨h5,h6⟩ | ⟨h5,h6⟩
   ·rw [h6]at h1;exact absurd h1 (by decide)
   ·exact h5
   ·rw [h6]at h1;exact absurd h1 (by decide)
  ·rintro⟨x,x1,x2,x3⟩
   have:x=qv a:=by grind
   rw [←this,Zml x3];decide
 ·rw [if_neg hc]
  have hlt:qv a<qv b:=by have:=fun e=>hc ((Zph ha hb).2 e);grind
  by_cases h0:xs=[]
  ·subst h0
   constructor
   ·intro h1;exact absurd h1 (by show ¬(decide ((0:Int)<0) || false)=true;decide)
   ·rintro⟨x,x1,x2,x3⟩;exact absurd x3 (by show ¬(0:Rat)<0;grind)
  ·obtain⟨a1,a2,a3,a4,a5⟩:=Zb3 h h0
   rw [←a1.sem hlt,Bool.or_eq_true,decide_eq_true_iff,Yfv h h0 ha hb,show aft (Ol xs) a=Dk xs.length xs (qv a)from Zr7 ha _ _ (Nat.le_refl _)]
theorem Ct{xs:List Int}(h:Cvd xs){m:Nat}(hm:m≤100):Zct xs m:=by
 refine .inr ?_
 have hl:=h.l
 have m1:=Oi h.s
 have g1:(xs.length+2)*(xs.length+2)≤9*9:=Nat.mul_le_mul (by omega) (by omega)
 have g2:(xs.length+2)*(xs.length+2)*(Pi xs+m+2*(xs.length-1)+32)≤9*9*250:=Nat.mul_le_mul g1 (by omega)
 omega
theorem Zm8{xs:List Int}(h:xs.length=0):Ol xs=[]:=by unfold Ol;rw [h];rfl
theorem Yfu{xs:List Int}(h:xs.length=0):Bb xs=[]:=by unfold Bb;rw [if_pos h]
theorem Zpk{xs:List Int}(h:xs.length≠0):Bb xs=chn 13 (Kf xs):=by unfold Bb;rw [if_neg h]
theorem Zm9:∀(n m:Nat) (p:List Int),p.length≤n→p.length≤m→Zfl n p=Zfl m p
 | 0,m,p,h1,h2=>by
  have h0:p.length=0:=by omega
  cases m with
  | zero=>rfl
  | succ m=>unfold Zfl;rw [if_pos h0]
 | n+1,m,p,h1,h2=>by
  have ld':=Nv p
  cases m with
  | zero=>unfold Zfl;rw [if_pos (by omega)]
  | succ m=>
   unfold Zfl
   by_cases h0:p.length=0
   ·rw [if_pos h0,if_pos h0]
   ·rw [if_neg h0,if_neg h0,Zm9 n m (Qi p) (by omega) (by omega)]
theorem Zei{p:List Int}(h:p.length≠0):Ol p=p :: Ol (Qi p):=by
 have ld':=Nv p
 unfold Ol
 obtain⟨n,hn⟩:∃n,p.length=n+1:=⟨p.length-1,by omega⟩
 rw [hn,show Zfl (n+1) p=if p.length=0 then []else p :: Zfl n (Qi p)from rfl,if_neg h,Zm9 n (Qi p).length (Qi p) (by omega) (Nat.le_refl _)]
def Lw(z:R2):Prop:=0<z.2∧Int.gcd z.1 z.2=1
theorem lgcd_p{x y:Int}(hy:0<y):Kw x y=(Int.gcd x y:Int):=by unfold Kw;rw [if_neg (by omega)]
theorem Ybo{x y:Int}(hy:0<y):Lw (x/Kw x y,y/Kw x y):=by
 have hg:0<Int.gcd x y:=Int.gcd_pos_of_ne_zero_right _ (by omega)
 rw [lgcd_p hy]
 refine⟨Int.ediv_pos_of_pos_of_dvd hy (by omega) (Int.gcd_dvd_right ..),?_⟩
 exact Int.gcd_ediv_gcd_ediv_gcd hg
theorem Zow{a:R2}(ha:0<a.2)(h:¬He a.1 a.2):Lw (slow a):=by
 obtain⟨n1,n2,-⟩:=Zfe h
 have:=Ybo (x:=a.1) ha
 unfold slow;rw [n1,n2];exact this
theorem Ybn{a b:R2}(h:Zeu a b)(ha:0<a.2)(hb:0<b.2):Lw (Nd a b):=by
 obtain⟨n1,n2,-⟩:=Zfe h.2
 have hp:0<Cn (a.1*b.2+b.1*a.2) (a.2*b.2)*2:=Int.mul_pos (Ztk h.1 (Int.mul_pos ha hb)) (by decide)
 have:=Ybo (x:=Bj (a.1*b.2+b.1*a.2) (a.2*b.2)*1) hp
 unfold Nd;rw [n1,n2];exact this
structure Hv (n Q j:Nat) (W:Rat) (a b:R2):Prop where
 hQ:0<Q
 hQ2:Q<2^(2*n)
 ea:En (2^n) Q j a
 eb:En (2^n) Q j b
 wd:(qv b-qv a)*((2^j:Nat):Rat)=W
 le:qv a≤qv b
 la:Lw a
 lb:Lw b
theorem Hv.start{n:Nat}{a b:R2}(ha:0<a.2)(hb:0<b.2)(a1:bl a.1.natAbs≤n)(a2:bl a.2.natAbs≤n)(b1:bl b.1.natAbs≤n)(b2:bl b.2.natAbs≤n)(hn:n≤65536)(hle:qv a≤qv b):∃Q,Hv n Q 0 (qv b-qv a) (slow a) (slow b):=by
 obtain⟨s1,s2,s3,s4,s5⟩:=Zcq ha a1 a2 hn
 obtain⟨t1,t2,t3,t4,t5⟩:=Zcq hb b1 b2 hn
 have pa:=(Mo n _).1 s4
 have pb:=(Mo n _).1 t4
 have qa:=Zod ha (Nat.le_of_lt ((Mo n _).1 a1))
 have qb:=Zod hb (Nat.le_of_lt ((Mo n _).1 b1))
 have hQ0:0<(slow a).2.natAbs*(slow b).2.natAbs:=Nat.mul_pos (by omega) (by omega)
 have hQ1:(slow a).2.natAbs*(slow b).2.natAbs<2^(2*n):=by
  rw [show 2*n=n+n by omega,Nat.pow_add]
  exact Nat.mul_lt_mul_of_lt_of_le pa (Nat.le_of_lt pb) (Nat.pow_pos (by decide))
 generalize hQ:(slow a).2.natAbs*(slow b).2.natAbs=Q at *
 have hcast:((Q*2^0:Nat):Int)=(slow a).2*(slow b).2:=by
  rw [Nat.pow_zero,Nat.mul_one,←hQ];push_cast;rw [Int.natAbs_of_nonneg (by omega),Int.natAbs_of_nonneg (by omega)]
 have ea:En (2^n) Q 0 (slow a):=⟨s2,by rw [hcast];exact Int.dvd_mul_right _ _,by rw [s5];exact qa.1,by rw [s5];exact qa.2⟩
 have eb:En (2^n) Q 0 (slow b):=⟨t2,by rw [hcast];exact Int.dvd_mul_left _ _,by rw [t5];exact qb.1,by rw [t5];exact qb.2⟩
 exact⟨Q,hQ0,hQ1,ea,eb,by rw [s5,t5,Nat.pow_zero];push_cast;grind,by rw [s5,t5];exact hle,Zow ha s1,Zow hb t1⟩
theorem Hv.mid{n Q j B:Nat}{W:Rat}{a b:R2}(h:Hv n Q j W a b)(hB:3*n+2+j≤B)(hB2:B≤65536) :
  Zeu a b∧(bl (Nd a b).1.natAbs≤B∧bl (Nd a b).2.natAbs≤B∧0<(Nd a b).2)∧qv (Nd a b)=(qv a+qv b)/2∧(bl a.1.natAbs≤B∧bl a.2.natAbs≤B∧0<a.2)∧(bl b.1.natAbs≤B∧bl b.2.natAbs≤B∧0<b.2)∧
  Hv n Q (j+1) W a (Nd a b)∧Hv n Q (j+1) W (Nd a b) b:=by
 have hpow:∀m,m≤B→2^m≤2^B:=fun m h=>Nat.pow_le_pow_right (by decide) h
 have hB1:Q*2^(j+1)<2^B:=by
  have:Q*2^(j+1)<2^(2*n)*2^(j+1):=Nat.mul_lt_mul_of_pos_right h.hQ2 (Nat.pow_pos (by decide))
  rw [←Nat.pow_add]at this
  exact Nat.lt_of_lt_of_le this (hpow _ (by omega))
 have hB3:2*2^n*(Q*2^j)<2^B:=by
  have h1:Q*2^j<2^(2*n)*2^j:=Nat.mul_lt_mul_of_pos_right h.hQ2 (Nat.pow_pos (by decide))
  have h2:2*2^n*(Q*2^j)<2*2^n*(2^(2*n)*2^j):=Nat.mul_lt_mul_of_pos_left h1 (Nat.mul_pos (by decide) (Nat.pow_pos (by decide)))
  have h3:2*2^n*(2^(2*n)*2^j)=2^(3*n+1+j):=by
   rw [←Nat.pow_add,←Nat.pow_succ',←Nat.pow_add];congr 1;omega
  rw [h3]at h2
  exact Nat.lt_of_lt_of_le h2 (hpow _ (by omega))
 obtain⟨m1,m2,m3,m4,m5⟩:=mid_en h.ea h.eb h.hQ hB1 hB3 hB2
 obtain⟨p1,p2⟩:=Ycc (e:=j) (w:=0) (B:=B) h.ea h.hQ h.hQ2 (by omega)
 obtain⟨r1,r2⟩:=Ycc (e:=j) (w:=0) (B:=B) h.eb h.hQ h.hQ2 (by omega)
 have hlm:=Ybn m1 h.ea.pos h.eb.pos
 have hw:((2^(j+1):Nat):Rat)=2*((2^j:Nat):Rat):=by rw [Nat.pow_succ];push_cast;grind
 have hle:=h.le
 refine⟨m1,⟨m4,m5,m2.pos⟩,m3,⟨p1,p2,h.ea.pos⟩,⟨r1,r2,h.eb.pos⟩,⟨h.hQ,h.hQ2,h.ea.up,m2,?_,by grind,h.la,hlm⟩,⟨h.hQ,h.hQ2,m2,h.eb.up,?_,by grind,hlm,h.lb⟩⟩
 ·rw [m3,hw,←h.wd];grind
 ·rw [m3,hw,←h.wd];grind
theorem Ydx{xs:List Int}(h:Cvd xs)(h0:xs≠[]):Ar 13 xs∧∀u v:Rat,-((2^34:Nat):Rat)≤u→u≤v→v≤((2^34:Nat):Rat)→v-u≤1/((2^2700:Nat):Rat)→vch 13 xs u-vch 13 xs v≤1:=by
 have hl:=h.l
 obtain⟨hC,hq1,hq2,hq3⟩:=chF 13 h.v.tr h0 h.s (by omega) (by omega) (by omega)
 have hd:=Fh hq1 (by omega)
 have hss:∀n,n≤7→2≤n→Zu0 (2^34) (2^205) n 2700=true:=by decide +kernel
 exact⟨hC,fun u v=>sep_of h.v.tr h0 hC (Nat.pow_pos (by decide)) (A:=2^205) (Nat.pow_pos (by decide)) (fun i=>Nat.le_trans (Zhj hq1 i) (Nat.pow_le_pow_right (by decide) (by omega))) (fun i=>Zhj hd i) (fun h2=>hss _ (by omega) h2) u v⟩
theorem Zxz{j e w:Nat}{x W:Rat}(h1:1/((2^(e+1):Nat):Rat)<x)(h2:x*((2^j:Nat):Rat)=W)(h3:W≤((2^w:Nat):Rat)):j<e+1+w:=by
 have p1:=two_pow_pos (e+1)
 have p2:=two_pow_pos j
 rcases Nat.lt_or_ge j (e+1+w)with q | q
 ·exact q
 ·exfalso
  have hi:0<((2^(e+1):Nat):Rat)⁻¹:=Rat.inv_pos.2 p1
  have hc:((2^(e+1):Nat):Rat)*((2^(e+1):Nat):Rat)⁻¹=1:=Rat.mul_inv_cancel _ (by grind)
  have g1:((2^(e+1):Nat):Rat)*((2^w:Nat):Rat)≤((2^j:Nat):Rat):=by
   have:2^(e+1)*2^w≤2^j:=by rw [←Nat.pow_add];exact Nat.pow_le_pow_right (by decide) q
   exact_mod_cast this
  have g2:((2^(e+1):Nat):Rat)⁻¹<x:=by grind
  have g3:=Rat.mul_pos (show 0<x-((2^(e+1):Nat):Rat)⁻¹ by grind) p2
  have g4:=Rat.mul_nonneg (Rat.le_of_lt hi) (show 0≤((2^j:Nat):Rat)-((2^(e+1):Nat):Rat)*((2^w:Nat):Rat) by grind)
  have g5:((2^(e+1):Nat):Rat)⁻¹*(((2^(e+1):Nat):Rat)*((2^w:Nat):Rat))=((2^w:Nat):Rat):=by
   rw [←Rat.mul_assoc,Rat.mul_comm (((2^(e+1):Nat):Rat)⁻¹),hc,Rat.one_mul]
  grind
structure NIn (xs:List Int) (s t:Rat) (j:Nat) (a b:R2):Prop where
 ex:∃Q W,Hv 34 Q j W a b∧W≤((2^34:Nat):Rat)
 lo:s≤qv a
 hi:qv b≤t
 l0:-((2^33:Nat):Rat)≤s
 h0:t≤((2^33:Nat):Rat)
 pa:0≤Zw xs (qv a)
 pb:0≤Zw xs (qv b)
 ng:Zub xs (qv a) (qv b)
theorem rat34:((2^34:Nat):Rat)=2*((2^33:Nat):Rat)∧(1:Rat)≤((2^33:Nat):Rat):=by
 have h:∀n:Nat,((2^(n+1):Nat):Rat)=2*((2^n:Nat):Rat):=fun n=>by rw [Nat.pow_succ];push_cast;grind
 constructor
 ·exact h 33
 ·exact_mod_cast (show 1≤2^33 by decide)
theorem NIn.j{xs:List Int}{lo hi:Rat}{j:Nat}{a b:R2}(hd:Cvd xs)(h0:xs≠[])(h:NIn xs lo hi j a b):j<2735:=by
 obtain⟨Q,W,h1,h2⟩:=h.ex
 obtain⟨hC,hs⟩:=Ydx hd h0
 obtain⟨k1,k2⟩:=rat34
 have a1:=h.lo
 have a2:=h.hi
 have a3:=h.l0
 have a4:=h.h0
 have:=Yes (Zb3 hd h0).1 hC (K:=2^34) (e:=2700) hs (s:=qv a) (t:=qv b) (by grind) (by grind) h.pa h.pb h.ng
 exact Zxz (e:=2700) (w:=34) this h1.wd h2
theorem NIn.start{xs:List Int}{a b:R2}(ha:0<a.2)(hb:0<b.2)(a1:bl a.1.natAbs≤32)(a2:bl a.2.natAbs≤32)(b1:bl b.1.natAbs≤32)(b2:bl b.2.natAbs≤32)(hle:qv a≤qv b)(pa:0≤Zw xs (qv a))(pb:0≤Zw xs (qv b))(ng:Zub xs (qv a) (qv b)) :
  NIn xs (qv a) (qv b) 0 (slow a) (slow b):=by
 obtain⟨Q,hh⟩:=Hv.start (n:=34) ha hb (by omega) (by omega) (by omega) (by omega) (by omega) hle
 obtain⟨-,-,-,-,s5⟩:=Zcq (n:=34) ha (by omega) (by omega) (by omega)
 obtain⟨-,-,-,-,t5⟩:=Zcq (n:=34) hb (by omega) (by omega) (by omega)
 have q1:=Zod (K:=2^33) ha (Nat.le_trans (Nat.le_of_lt ((Mo 32 _).1 a1)) (by decide))
 have q2:=Zod (K:=2^33) hb (Nat.le_trans (Nat.le_of_lt ((Mo 32 _).1 b1)) (by decide))
 obtain⟨k1,k2⟩:=rat34
 exact⟨⟨Q,_,hh,by grind⟩,by rw [s5];exact Rat.le_refl,by rw [t5];exact Rat.le_refl,q1.1,q2.2,by rw [s5];exact pa,by rw [t5];exact pb,by rw [s5,t5];exact ng⟩
structure Fnd (xs:List Int) (s t:Rat) (m:R2):Prop where
 ng:Zw xs (qv m)<0
 lo:s≤qv m
 hi:qv m≤t
 b1:bl m.1.natAbs≤3000
 b2:bl m.2.natAbs≤3000
 lw:Lw m
theorem NIn.round{xs:List Int}{lo hi:Rat}{j:Nat}{a b:R2}(hd:Cvd xs)(h0:xs≠[])(h:NIn xs lo hi j a b) :
  Zeu a b∧(bl (Nd a b).1.natAbs≤3000∧bl (Nd a b).2.natAbs≤3000∧0<(Nd a b).2)∧(bl a.1.natAbs≤3000∧bl a.2.natAbs≤3000∧0<a.2)∧(bl b.1.natAbs≤3000∧bl b.2.natAbs≤3000∧0<b.2)∧
  (vlu (Ol xs) (Nd a b)<0→Fnd xs lo hi (Nd a b))∧(¬vlu (Ol xs) (Nd a b)<0→ngb (Ol xs) (Bb xs) a (Nd a b)=true→NIn xs lo hi (j+1) a (Nd a b))∧
  (¬vlu (Ol xs) (Nd a b)<0→ngb (Ol xs) (Bb xs) a (Nd a b)=false→NIn xs lo hi (j+1) (Nd a b) b):=by
 have hj:=h.j hd h0
 obtain⟨Q,W,h1,h2⟩:=h.ex
 obtain⟨m1,m2,m3,m4,m5,m6,m7⟩:=h1.mid (B:=3000) (by omega) (by omega)
 have hle:=h1.le
 have l1:=h.lo
 have l2:=h.hi
 have hv:=Zjo (xs:=xs) m2.2.2
 have hns:¬vlu (Ol xs) (Nd a b)<0→0≤Zw xs (qv (Nd a b)):=fun hn=>by
  rw [hv]at hn
  rcases Na (Zw xs (qv (Nd a b)))with⟨h5,h6⟩ | ⟨h5,h6⟩ | ⟨h5,h6⟩
  ·exact Rat.le_of_lt h5
  ·rw [h6]at hn;exact absurd (by decide) hn
  ·rw [h5];exact Rat.le_refl
 have hsem:=Zot hd m4.2.2 m2.2.2 (show qv a≤qv (Nd a b) by grind)
 refine⟨m1,m2,m4,m5,fun hn=>?_,fun hn hb=>?_,fun hn hb=>?_⟩
 ·have:Zw xs (qv (Nd a b))<0:=by
   rw [hv]at hn
   rcases Na (Zw xs (qv (Nd a b)))with⟨h5,h6⟩ | ⟨h5,h6⟩ | ⟨h5,h6⟩
   ·rw [h6]at hn;exact absurd hn (by decide)
   ·exact h5
   ·rw [h6]at hn;exact absurd hn (by decide)
  exact⟨this,by grind,by grind,m2.1,m2.2.1,Ybn m1 m4.2.2 m5.2.2⟩
 ·exact⟨⟨Q,W,m6,h2⟩,l1,by grind,h.l0,h.h0,h.pa,hns hn,hsem.1 hb⟩
 ·refine⟨⟨Q,W,m7,h2⟩,by grind,l2,h.l0,h.h0,hns hn,h.pb,?_⟩
  obtain⟨x,x1,x2,x3⟩:=h.ng
  rcases(show x≤qv (Nd a b)∨qv (Nd a b)≤x by grind)with q | q
  ·have:=hsem.2 ⟨x,x1,q,x3⟩;rw [hb]at this;exact absurd this (by decide)
  ·exact⟨x,q,x2,x3⟩
def frs(xs:List Int):Nat→R2→R2→R2×R2
 | 0,a,b=>(a,b)
 | n+1,a,b=>if ngb (Ol xs) (Bb xs) a (Nd a b)then frs xs n a (Nd a b)else frs xs n (Nd a b) b
structure E32 (a:R2):Prop where
 p:0<a.2
 b1:bl a.1.natAbs≤32
 b2:bl a.2.natAbs≤32
theorem E32.slow{a:R2}(h:E32 a):E32 (slow a)∧qv (Go.Sky.slow a)=qv a∧Lw (Go.Sky.slow a)∧¬He a.1 a.2:=by
 obtain⟨s1,s2,s3,s4,s5⟩:=Zcq (n:=32) h.p h.b1 h.b2 (by omega)
 exact⟨⟨s2,s3,s4⟩,s5,Zow h.p s1,s1⟩
theorem Zis{xs:List Int}{m:R2}(hm:0<m.2):vlu (Ol xs) m<0↔Zw xs (qv m)<0:=by
 rw [Zjo hm]
 rcases Na (Zw xs (qv m))with⟨h5,h6⟩ | ⟨h5,h6⟩ | ⟨h5,h6⟩
 ·rw [h6];constructor
  ·intro h;exact absurd h (by decide)
  ·intro h;grind
 ·rw [h6];exact⟨fun _=>h5,fun _=>by decide⟩
 ·rw [h6,h5];constructor
  ·intro h;exact absurd h (by decide)
  ·intro h;grind
theorem end_l{xs:List Int}{a b:R2}(ha:E32 a)(hle:qv a≤qv b)(h:vlu (Ol xs) (slow a)<0):Fnd xs (qv a) (qv b) (slow a):=by
 obtain⟨s1,s2,s3,s4⟩:=ha.slow
 have h9:=(Zis s1.p).1 h
 exact⟨h9,by rw [s2];exact Rat.le_refl,by rw [s2];exact hle,Nat.le_trans s1.b1 (by decide),Nat.le_trans s1.b2 (by decide),s3⟩
theorem end_r{xs:List Int}{a b:R2}(hb:E32 b)(hle:qv a≤qv b)(h:vlu (Ol xs) (slow b)<0):Fnd xs (qv a) (qv b) (slow b):=by
 obtain⟨s1,s2,s3,s4⟩:=hb.slow
 have h9:=(Zis s1.p).1 h
 exact⟨h9,by rw [s2];exact hle,by rw [s2];exact Rat.le_refl,Nat.le_trans s1.b1 (by decide),Nat.le_trans s1.b2 (by decide),s3⟩
theorem Zx3{xs:List Int}{a b:R2}(hd:Cvd xs)(ha:E32 a)(hb:E32 b)(hle:qv a≤qv b)(h1:¬vlu (Ol xs) (slow a)<0)(h2:¬vlu (Ol xs) (slow b)<0)(hn:ngb (Ol xs) (Bb xs) a b=true) :
  NIn xs (qv a) (qv b) 0 (slow a) (slow b):=by
 obtain⟨s1,s2,s3,s4⟩:=ha.slow
 obtain⟨t1,t2,t3,t4⟩:=hb.slow
 have k1:¬Zw xs (qv (slow a))<0:=fun e=>h1 ((Zis s1.p).2 e)
 have k2:¬Zw xs (qv (slow b))<0:=fun e=>h2 ((Zis t1.p).2 e)
 rw [s2]at k1
 rw [t2]at k2
 exact NIn.start ha.p hb.p ha.b1 ha.b2 hb.b1 hb.b2 hle (by grind) (by grind) ((Zot hd ha.p hb.p hle).1 hn)
theorem ngb_ne{xs:List Int}{a b:R2}(h:ngb (Ol xs) (Bb xs) a b=true):xs≠[]:=fun e=>by
 subst e
 unfold ngb at h
 split at h
 ·exact absurd h (by show ¬decide ((0:Int)<0)=true;decide)
 ·exact absurd h (by show ¬(decide ((0:Int)<0) || false)=true;decide)
theorem E32.efit{a:R2}(h:E32 a):efit a=true:=by
 have:=h.b1
 have:=h.b2
 unfold Go.Sky.efit;exact decide_eq_true (by omega)
theorem Zrv{xs:List Int}{n:Nat}{a b:R2} : frs xs (n+1) a b=if ngb (Ol xs) (Bb xs) a (Nd a b)then frs xs n a (Nd a b)else frs xs n (Nd a b) b:=rfl
structure FIn (xs:List Int) (j:Nat) (a b:R2):Prop where
 ex:∃Q W,Hv 34 Q j W a b
 bj:j≤200
theorem FIn.start{xs:List Int}{a b:R2}(ha:E32 a)(hb:E32 b)(hle:qv a≤qv b):FIn xs 0 (slow a) (slow b):=by
 obtain⟨Q,hh⟩:=Hv.start (n:=34) ha.p hb.p (Nat.le_trans ha.b1 (by decide)) (Nat.le_trans ha.b2 (by decide)) (Nat.le_trans hb.b1 (by decide)) (Nat.le_trans hb.b2 (by decide)) (by omega) hle
 exact⟨⟨Q,_,hh⟩,by omega⟩
theorem FIn.round{xs:List Int}{j:Nat}{a b:R2}(h:FIn xs j a b) :
  Zeu a b∧(bl (Nd a b).1.natAbs≤3000∧bl (Nd a b).2.natAbs≤3000∧0<(Nd a b).2)∧(bl a.1.natAbs≤3000∧bl a.2.natAbs≤3000∧0<a.2)∧(bl b.1.natAbs≤3000∧bl b.2.natAbs≤3000∧0<b.2)∧
  (j<200→FIn xs (j+1) a (Nd a b)∧FIn xs (j+1) (Nd a b) b):=by
 obtain⟨Q,W,h1⟩:=h.ex
 have hj:=h.bj
 obtain⟨m1,m2,m3,m4,m5,m6,m7⟩:=h1.mid (B:=3000) (by omega) (by omega)
 exact⟨m1,m2,m4,m5,fun hj2=>⟨⟨⟨Q,W,m6⟩,by omega⟩,⟨⟨Q,W,m7⟩,by omega⟩⟩⟩
theorem Yer{xs:List Int}{a b:R2}(ha:E32 a)(hb:E32 b)(hle:qv a≤qv b){i:Nat}(hi:i<2)(h:vlu (Ol xs) ([slow a,slow b].getD i (0,0))<0):Fnd xs (qv a) (qv b) ([slow a,slow b].getD i (0,0)):=by
 rcases(show i=0∨i=1 by omega)with e | e
 ·subst e;exact end_l ha hle h
 ·subst e;exact end_r hb hle h
theorem Yfb{a b:R2}(ha:E32 a)(hb:E32 b)(i:Nat)(hi:i<2):E32 ([slow a,slow b].getD i (0,0)):=by
 rcases(show i=0∨i=1 by omega)with e | e
 ·subst e;exact ha.slow.1
 ·subst e;exact hb.slow.1
theorem Zwo{a b:R2}(ha:E32 a)(hb:E32 b)(h:¬0<Ba a b):qv a≤qv b:=(Yfr ha.p hb.p).1 (by omega)
end Go.Sky

