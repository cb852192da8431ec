/- Rules, arithmetic and contracts: part 13. No conditions but those that each theorem names. -/
import Derived.Test.YtljmhpopdmadkaaGreatLf11
import Derived.ChangeKeysEq
set_option linter.all false
set_option maxHeartbeats 4000000
namespace Go.Sky
def Lw(z:R2):Prop:=0<z.2∧Int.gcd z.1 z.2=1
theorem lgcd_p{x y:Int}(hy:0<y):Nt x y=(Int.gcd x y:Int):=by unfold Nt;rw [if_neg O]
theorem Zy3{x y:Int}(hy:0<y):Lw (x/Nt x y,y/Nt x y):=by
 have hg:0<Int.gcd x y:=Int.gcd_pos_of_ne_zero_right _ O
 rw [lgcd_p hy]
 refine⟨Int.ediv_pos_of_pos_of_dvd hy O (Int.gcd_dvd_right ..),?_⟩
 exact Int.gcd_ediv_gcd_ediv_gcd hg
theorem Zlb{a:R2}(ha:0<a.2)(h:¬Mv a.1 a.2):Lw (slow a):=by
 obtain⟨n1,n2,-⟩:=Bx h
 have:=Zy3 (x:=a.1) ha
 unfold slow;rw [n1,n2];exact this
theorem Zy2{a b:R2}(h:Zb9 a b)(ha:0<a.2)(hb:0<b.2):Lw (Qm a b):=by
 obtain⟨n1,n2,-⟩:=Bx h.2
 have hp:0<Hs (a.1*b.2+b.1*a.2) (a.2*b.2)*2:=Int.mul_pos (Zqb h.1 (Int.mul_pos ha hb)) O3
 have:=Zy3 (x:=Gl (a.1*b.2+b.1*a.2) (a.2*b.2)*1) hp
 unfold Qm;rw [n1,n2];exact this
structure Hv (n Q j:Nat) (W:Rat) (a b:R2):Prop where
 hQ:0<Q
 hQ2:Q<2^(2*n)
 ea:En (2^n) Q j a
 eb:En (2^n) Q j b
 wd:(qv b-qv a)*((2^j:Nat):Rat)=W
 le:qv a≤qv b
 la:Lw a
 lb:Lw b
theorem Hv.start{n:Nat}{a b:R2}(ha:0<a.2)(hb:0<b.2)(a1:bl a.1.natAbs≤n)(a2:bl a.2.natAbs≤n)(b1:bl b.1.natAbs≤n)(b2:bl b.2.natAbs≤n)(hn:n≤65536)(hle:qv a≤qv b):∃Q,Hv n Q 0 (qv b-qv a) (slow a) (slow b):=by
 obtain⟨s1,s2,s3,s4,s5⟩:=Zae ha a1 a2 hn
 obtain⟨t1,t2,t3,t4,t5⟩:=Zae hb b1 b2 hn
 have pa:=(Xt n _).1 s4
 have pb:=(Xt n _).1 t4
 have qa:=Zkw ha (Nat.le_of_lt ((Xt n _).1 a1))
 have qb:=Zkw hb (Nat.le_of_lt ((Xt n _).1 b1))
 have hQ0:0<(slow a).2.natAbs*(slow b).2.natAbs:=Nat.mul_pos O O
 have hQ1:(slow a).2.natAbs*(slow b).2.natAbs<2^(2*n):=by
  rw [show 2*n=n+n by omega,Nat.pow_add]
  exact Nat.mul_lt_mul_of_lt_of_le pa (Nat.le_of_lt pb) (Nat.pow_pos O3)
 generalize hQ:(slow a).2.natAbs*(slow b).2.natAbs=Q at *
 have hcast:((Q*2^0:Nat):Int)=(slow a).2*(slow b).2:=by
  rw [Nat.pow_zero,Nat.mul_one,←hQ];push_cast;rw [Int.natAbs_of_nonneg O,Int.natAbs_of_nonneg O]
 have ea:En (2^n) Q 0 (slow a):=⟨s2,by rw [hcast];exact Int.dvd_mul_right _ _,by rw [s5];exact qa.1,by rw [s5];exact qa.2⟩
 have eb:En (2^n) Q 0 (slow b):=⟨t2,by rw [hcast];exact Int.dvd_mul_left _ _,by rw [t5];exact qb.1,by rw [t5];exact qb.2⟩
 exact⟨Q,hQ0,hQ1,ea,eb,by rw [s5,t5,Nat.pow_zero];push_cast;grind,by rw [s5,t5];exact hle,Zlb ha s1,Zlb hb t1⟩
theorem Hv.mid{n Q j B:Nat}{W:Rat}{a b:R2}(h:Hv n Q j W a b)(hB:3*n+2+j≤B)(hB2:B≤65536) :
  Zb9 a b∧(bl (Qm a b).1.natAbs≤B∧bl (Qm a b).2.natAbs≤B∧0<(Qm a b).2)∧qv (Qm a b)=(qv a+qv b)/2∧(bl a.1.natAbs≤B∧bl a.2.natAbs≤B∧0<a.2)∧(bl b.1.natAbs≤B∧bl b.2.natAbs≤B∧0<b.2)∧
  Hv n Q (j+1) W a (Qm a b)∧Hv n Q (j+1) W (Qm a b) b:=by
 have hpow:∀m,m≤B→2^m≤2^B:=fun m h=>Nat.pow_le_pow_right O3 h
 have hB1:Q*2^(j+1)<2^B:=by
  have:Q*2^(j+1)<2^(2*n)*2^(j+1):=Nat.mul_lt_mul_of_pos_right h.hQ2 (Nat.pow_pos O3)
  rw [←Nat.pow_add]at this
  exact Nat.lt_of_lt_of_le this (hpow _ O)
 have hB3:2*2^n*(Q*2^j)<2^B:=by
  have h1:Q*2^j<2^(2*n)*2^j:=Nat.mul_lt_mul_of_pos_right h.hQ2 (Nat.pow_pos O3)
  have h2:2*2^n*(Q*2^j)<2*2^n*(2^(2*n)*2^j):=Nat.mul_lt_mul_of_pos_left h1 (Nat.mul_pos O3 (Nat.pow_pos O3))
  have h3:2*2^n*(2^(2*n)*2^j)=2^(3*n+1+j):=by
   rw [←Nat.pow_add,←Nat.pow_succ',←Nat.pow_add];congr 1;omega
  rw [h3]at h2
  exact Nat.lt_of_lt_of_le h2 (hpow _ O)
 obtain⟨m1,m2,m3,m4,m5⟩:=mid_en h.ea h.eb h.hQ hB1 hB3 hB2
 obtain⟨p1,p2⟩:=Zz0 (e:=j) (w:=0) (B:=B) h.ea h.hQ h.hQ2 O
 obtain⟨r1,r2⟩:=Zz0 (e:=j) (w:=0) (B:=B) h.eb h.hQ h.hQ2 O
 have hlm:=Zy2 m1 h.ea.pos h.eb.pos
 have hw:((2^(j+1):Nat):Rat)=2*((2^j:Nat):Rat):=by rw [Nat.pow_succ];push_cast;grind
 have hle:=h.le
 refine⟨m1,⟨m4,m5,m2.pos⟩,m3,⟨p1,p2,h.ea.pos⟩,⟨r1,r2,h.eb.pos⟩,⟨h.hQ,h.hQ2,h.ea.up,m2,?_,O4,h.la,hlm⟩,⟨h.hQ,h.hQ2,m2,h.eb.up,?_,O4,hlm,h.lb⟩⟩
 ·rw [m3,hw,←h.wd];grind
 ·rw [m3,hw,←h.wd];grind
theorem Zuk{p:List Int}{k n:Nat}(h:Sz k p)(hk:k≤n)(i:Nat):(cf p i).natAbs≤2^n:=Nat.le_trans (Zeh h i) (Nat.pow_le_pow_right O3 hk)
theorem Yb6{xs:List Int}(h:Cvd xs)(h0:xs≠[]):Di 13 xs∧∀u v:Rat,-((2^34:Nat):Rat)≤u→u≤v→v≤((2^34:Nat):Rat)→v-u≤1/((2^5400:Nat):Rat)→Ch 13 xs u-Ch 13 xs v≤1:=by
 have hl:=h.l
 obtain⟨hC,hq1,hq2,hq3⟩:=chG 13 h.v.tr h0 h.s O O O
 have hd:=Ep hq1 O
 have hss:∀n,n≤9→2≤n→Zrz (2^34) (2^320) n 5400=true:=O7
 obtain⟨n,hn⟩:∃n:Nat,n=320:=⟨_,rfl⟩
 rw [←hn]at hss
 have hd:Sz n (Yh (sqf 13 xs)):=by rw [hn];exact hd
 have hq:∀i,(cf (sqf 13 xs) i).natAbs≤2^n:=fun i=>Zuk hq1 O i
 exact⟨hC,fun u v=>sep_of h.v.tr h0 hC (Nat.pow_pos O3) (A:=2^n) (Nat.pow_pos O3) hq (fun i=>Zeh hd i) (fun h2=>hss _ O h2) u v⟩
theorem Zu4{j e w:Nat}{x W:Rat}(h1:1/((2^(e+1):Nat):Rat)<x)(h2:x*((2^j:Nat):Rat)=W)(h3:W≤((2^w:Nat):Rat)):j<e+1+w:=by
 have p1:=two_pow_pos (e+1)
 have p2:=two_pow_pos j
 rcases Nat.lt_or_ge j (e+1+w)with q | q
 ·exact q
 ·exfalso
  have hi:0<((2^(e+1):Nat):Rat)⁻¹:=Rat.inv_pos.2 p1
  have hc:((2^(e+1):Nat):Rat)*((2^(e+1):Nat):Rat)⁻¹=1:=Rat.mul_inv_cancel _ O4
  have g1:((2^(e+1):Nat):Rat)*((2^w:Nat):Rat)≤((2^j:Nat):Rat):=by
   have:2^(e+1)*2^w≤2^j:=by rw [←Nat.pow_add];exact Nat.pow_le_pow_right O3 q
   exact_mod_cast this
  have g2:((2^(e+1):Nat):Rat)⁻¹<x:=O4
  have g3:=Rat.mul_pos (show 0<x-((2^(e+1):Nat):Rat)⁻¹ by grind) p2
  have g4:=Rat.mul_nonneg (Rat.le_of_lt hi) (show 0≤((2^j:Nat):Rat)-((2^(e+1):Nat):Rat)*((2^w:Nat):Rat) by grind)
  have g5:((2^(e+1):Nat):Rat)⁻¹*(((2^(e+1):Nat):Rat)*((2^w:Nat):Rat))=((2^w:Nat):Rat):=by
   rw [←Rat.mul_assoc,Rat.mul_comm (((2^(e+1):Nat):Rat)⁻¹),hc,Rat.one_mul]
  grind
structure NIn (xs:List Int) (s t:Rat) (j:Nat) (a b:R2):Prop where
 ex:∃Q W,Hv 34 Q j W a b∧W≤((2^34:Nat):Rat)
 lo:s≤qv a
 hi:qv b≤t
 l0:-((2^33:Nat):Rat)≤s
 h0:t≤((2^33:Nat):Rat)
 pa:0≤Zb xs (qv a)
 pb:0≤Zb xs (qv b)
 ng:Zwd xs (qv a) (qv b)
theorem rat34:((2^34:Nat):Rat)=2*((2^33:Nat):Rat)∧(1:Rat)≤((2^33:Nat):Rat):=by
 have h:∀n:Nat,((2^(n+1):Nat):Rat)=2*((2^n:Nat):Rat):=fun n=>by rw [Nat.pow_succ];push_cast;grind
 constructor
 ·exact h 33
 ·exact_mod_cast (show 1≤2^33 by decide)
theorem NIn.j{xs:List Int}{lo hi:Rat}{j:Nat}{a b:R2}(hd:Cvd xs)(h0:xs≠[])(h:NIn xs lo hi j a b):j<5435:=by
 obtain⟨Q,W,h1,h2⟩:=h.ex
 obtain⟨hC,hs⟩:=Yb6 hd h0
 obtain⟨k1,k2⟩:=rat34
 have a1:=h.lo
 have a2:=h.hi
 have a3:=h.l0
 have a4:=h.h0
 have:=Ycv (Zdr hd h0).1 hC (K:=2^34) (e:=5400) hs (s:=qv a) (t:=qv b) O4 O4 h.pa h.pb h.ng
 exact Zu4 (e:=5400) (w:=34) this h1.wd h2
theorem NIn.start{xs:List Int}{a b:R2}(ha:0<a.2)(hb:0<b.2)(a1:bl a.1.natAbs≤32)(a2:bl a.2.natAbs≤32)(b1:bl b.1.natAbs≤32)(b2:bl b.2.natAbs≤32)(hle:qv a≤qv b)(pa:0≤Zb xs (qv a))(pb:0≤Zb xs (qv b))(ng:Zwd xs (qv a) (qv b)) :
  NIn xs (qv a) (qv b) 0 (slow a) (slow b):=by
 obtain⟨Q,hh⟩:=Hv.start (n:=34) ha hb O O O O O hle
 obtain⟨-,-,-,-,s5⟩:=Zae (n:=34) ha O O O
 obtain⟨-,-,-,-,t5⟩:=Zae (n:=34) hb O O O
 have q1:=Zkw (K:=2^33) ha (Nat.le_trans (Nat.le_of_lt ((Xt 32 _).1 a1)) O3)
 have q2:=Zkw (K:=2^33) hb (Nat.le_trans (Nat.le_of_lt ((Xt 32 _).1 b1)) O3)
 obtain⟨k1,k2⟩:=rat34
 exact⟨⟨Q,_,hh,O4⟩,by rw [s5];exact Rat.le_refl,by rw [t5];exact Rat.le_refl,q1.1,q2.2,by rw [s5];exact pa,by rw [t5];exact pb,by rw [s5,t5];exact ng⟩
structure Fnd (xs:List Int) (s t:Rat) (m:R2):Prop where
 ng:Zb xs (qv m)<0
 lo:s≤qv m
 hi:qv m≤t
 b1:bl m.1.natAbs≤5600
 b2:bl m.2.natAbs≤5600
 lw:Lw m
theorem NIn.round{xs:List Int}{lo hi:Rat}{j:Nat}{a b:R2}(hd:Cvd xs)(h0:xs≠[])(h:NIn xs lo hi j a b) :
  Zb9 a b∧(bl (Qm a b).1.natAbs≤5600∧bl (Qm a b).2.natAbs≤5600∧0<(Qm a b).2)∧(bl a.1.natAbs≤5600∧bl a.2.natAbs≤5600∧0<a.2)∧(bl b.1.natAbs≤5600∧bl b.2.natAbs≤5600∧0<b.2)∧
  (vlu (Pq xs) (Qm a b)<0→Fnd xs lo hi (Qm a b))∧(¬vlu (Pq xs) (Qm a b)<0→ngb (Pq xs) (chx xs) a (Qm a b)=true→NIn xs lo hi (j+1) a (Qm a b))∧
  (¬vlu (Pq xs) (Qm a b)<0→ngb (Pq xs) (chx xs) a (Qm a b)=false→NIn xs lo hi (j+1) (Qm a b) b):=by
 have hj:=h.j hd h0
 obtain⟨Q,W,h1,h2⟩:=h.ex
 obtain⟨m1,m2,m3,m4,m5,m6,m7⟩:=h1.mid (B:=5600) O O
 have hle:=h1.le
 have l1:=h.lo
 have l2:=h.hi
 have hv:=Zgn (xs:=xs) m2.2.2
 have hns:¬vlu (Pq xs) (Qm a b)<0→0≤Zb xs (qv (Qm a b)):=fun hn=>by
  rw [hv]at hn
  rcases Qk (Zb xs (qv (Qm a b)))with⟨h5,h6⟩ | ⟨h5,h6⟩ | ⟨h5,h6⟩
  ·exact Rat.le_of_lt h5
  ·rw [h6]at hn;exact absurd O3 hn
  ·rw [h5];exact Rat.le_refl
 have hsem:=Zsp hd m4.2.2 m2.2.2 (show qv a≤qv (Qm a b) by grind)
 refine⟨m1,m2,m4,m5,fun hn=>?_,fun hn hb=>?_,fun hn hb=>?_⟩
 ·have:Zb xs (qv (Qm a b))<0:=by
   rw [hv]at hn
   rcases Qk (Zb xs (qv (Qm a b)))with⟨h5,h6⟩ | ⟨h5,h6⟩ | ⟨h5,h6⟩
   ·rw [h6]at hn;exact absurd hn O3
   ·exact h5
   ·rw [h6]at hn;exact absurd hn O3
  exact⟨this,O4,O4,m2.1,m2.2.1,Zy2 m1 m4.2.2 m5.2.2⟩
 ·exact⟨⟨Q,W,m6,h2⟩,l1,O4,h.l0,h.h0,h.pa,hns hn,hsem.1 hb⟩
 ·refine⟨⟨Q,W,m7,h2⟩,O4,l2,h.l0,h.h0,hns hn,h.pb,?_⟩
  obtain⟨x,x1,x2,x3⟩:=h.ng
  rcases(show x≤qv (Qm a b)∨qv (Qm a b)≤x by grind)with q | q
  ·have:=hsem.2 ⟨x,x1,q,x3⟩;rw [hb]at this;exact absurd this O3
  ·exact⟨x,q,x2,x3⟩
def frs(xs:List Int):Nat→R2→R2→R2×R2
 | 0,a,b=>(a,b)
 | n+1,a,b=>if ngb (Pq xs) (chx xs) a (Qm a b)then frs xs n a (Qm a b)else frs xs n (Qm a b) b
structure E32 (a:R2):Prop where
 p:0<a.2
 b1:bl a.1.natAbs≤32
 b2:bl a.2.natAbs≤32
theorem E32.slow{a:R2}(h:E32 a):E32 (slow a)∧qv (Go.Sky.slow a)=qv a∧Lw (Go.Sky.slow a)∧¬Mv a.1 a.2:=by
 obtain⟨s1,s2,s3,s4,s5⟩:=Zae (n:=32) h.p h.b1 h.b2 O
 exact⟨⟨s2,s3,s4⟩,s5,Zlb h.p s1,s1⟩
theorem Zf4{xs:List Int}{m:R2}(hm:0<m.2):vlu (Pq xs) m<0↔Zb xs (qv m)<0:=by
 rw [Zgn hm]
 rcases Qk (Zb xs (qv m))with⟨h5,h6⟩ | ⟨h5,h6⟩ | ⟨h5,h6⟩
 ·rw [h6];constructor
  ·intro h;exact absurd h O3
  ·intro h;grind
 ·rw [h6];exact⟨fun _=>h5,fun _=>O3⟩
 ·rw [h6,h5];constructor
  ·intro h;exact absurd h O3
  ·intro h;grind
theorem end_l{xs:List Int}{a b:R2}(ha:E32 a)(hle:qv a≤qv b)(h:vlu (Pq xs) (slow a)<0):Fnd xs (qv a) (qv b) (slow a):=by
 obtain⟨s1,s2,s3,s4⟩:=ha.slow
 have h9:=(Zf4 s1.p).1 h
 exact⟨h9,by rw [s2];exact Rat.le_refl,by rw [s2];exact hle,Nat.le_trans s1.b1 O3,Nat.le_trans s1.b2 O3,s3⟩
theorem end_r{xs:List Int}{a b:R2}(hb:E32 b)(hle:qv a≤qv b)(h:vlu (Pq xs) (slow b)<0):Fnd xs (qv a) (qv b) (slow b):=by
 obtain⟨s1,s2,s3,s4⟩:=hb.slow
 have h9:=(Zf4 s1.p).1 h
 exact⟨h9,by rw [s2];exact hle,by rw [s2];exact Rat.le_refl,Nat.le_trans s1.b1 O3,Nat.le_trans s1.b2 O3,s3⟩
theorem Zva{xs:List Int}{a b:R2}(hd:Cvd xs)(ha:E32 a)(hb:E32 b)(hle:qv a≤qv b)(h1:¬vlu (Pq xs) (slow a)<0)(h2:¬vlu (Pq xs) (slow b)<0)(hn:ngb (Pq xs) (chx xs) a b=true) :
  NIn xs (qv a) (qv b) 0 (slow a) (slow b):=by
 obtain⟨s1,s2,s3,s4⟩:=ha.slow
 obtain⟨t1,t2,t3,t4⟩:=hb.slow
 have k1:¬Zb xs (qv (slow a))<0:=fun e=>h1 ((Zf4 s1.p).2 e)
 have k2:¬Zb xs (qv (slow b))<0:=fun e=>h2 ((Zf4 t1.p).2 e)
 rw [s2]at k1
 rw [t2]at k2
 exact NIn.start ha.p hb.p ha.b1 ha.b2 hb.b1 hb.b2 hle O4 O4 ((Zsp hd ha.p hb.p hle).1 hn)
theorem ngb_ne{xs:List Int}{a b:R2}(h:ngb (Pq xs) (chx xs) a b=true):xs≠[]:=fun e=>by
 subst e
 unfold ngb at h
 split at h
 ·exact absurd h (by show ¬decide ((0:Int)<0)=true;decide)
 ·exact absurd h (by show ¬(decide ((0:Int)<0) || false)=true;decide)
theorem E32.efit{a:R2}(h:E32 a):efit a=true:=by
 have:=h.b1
 have:=h.b2
 unfold Go.Sky.efit;exact decide_eq_true O
structure FIn (xs:List Int) (j:Nat) (a b:R2):Prop where
 ex:∃Q W,Hv 34 Q j W a b
 bj:j≤200
theorem FIn.start{xs:List Int}{a b:R2}(ha:E32 a)(hb:E32 b)(hle:qv a≤qv b):FIn xs 0 (slow a) (slow b):=by
 obtain⟨Q,hh⟩:=Hv.start (n:=34) ha.p hb.p (Nat.le_trans ha.b1 O3) (Nat.le_trans ha.b2 O3) (Nat.le_trans hb.b1 O3) (Nat.le_trans hb.b2 O3) O hle
 exact⟨⟨Q,_,hh⟩,O⟩
theorem FIn.round{xs:List Int}{j:Nat}{a b:R2}(h:FIn xs j a b) :
  Zb9 a b∧(bl (Qm a b).1.natAbs≤5600∧bl (Qm a b).2.natAbs≤5600∧0<(Qm a b).2)∧(bl a.1.natAbs≤5600∧bl a.2.natAbs≤5600∧0<a.2)∧(bl b.1.natAbs≤5600∧bl b.2.natAbs≤5600∧0<b.2)∧
  (j<200→FIn xs (j+1) a (Qm a b)∧FIn xs (j+1) (Qm a b) b):=by
 obtain⟨Q,W,h1⟩:=h.ex
 have hj:=h.bj
 obtain⟨m1,m2,m3,m4,m5,m6,m7⟩:=h1.mid (B:=5600) O O
 exact⟨m1,m2,m4,m5,fun hj2=>⟨⟨⟨Q,W,m6⟩,O⟩,⟨⟨Q,W,m7⟩,O⟩⟩⟩
theorem Ycu{xs:List Int}{a b:R2}(ha:E32 a)(hb:E32 b)(hle:qv a≤qv b){i:Nat}(hi:i<2)(h:vlu (Pq xs) ([slow a,slow b].getD i (0,0))<0):Fnd xs (qv a) (qv b) ([slow a,slow b].getD i (0,0)):=by
 rcases(show i=0∨i=1 by omega)with e | e
 ·subst e;exact end_l ha hle h
 ·subst e;exact end_r hb hle h
theorem Ydm{a b:R2}(ha:E32 a)(hb:E32 b)(i:Nat)(hi:i<2):E32 ([slow a,slow b].getD i (0,0)):=by
 rcases(show i=0∨i=1 by omega)with e | e
 ·subst e;exact ha.slow.1
 ·subst e;exact hb.slow.1
theorem Ydy{a b:R2}(ha:E32 a)(hb:E32 b)(h:¬0<cmp a b):qv a≤qv b:=(Ydx ha.p hb.p).1 O
open Go.Proofs.Tryz
open Go.Proofs
set_option synthInstance.maxHeartbeats 0
set_option synthInstance.maxSize 100000
set_option maxRecDepth 20000
set_option maxHeartbeats 4000000
set_option linter.unusedSimpArgs false
theorem Yb2(bf bc bs:Nat)(v1 v2 c0 c1 c2 c3:Value)(ls cs:List (SL×List Int))(a b m:R2)(hx:bl m.1.natAbs≤65536)(hy:bl m.2.natAbs≤65536)(hp:0<m.2)(hlsv:∀z∈ls,Vp z.2)(hlsE:∀z∈ls,¬Ml z.2 m.1 m.2):Yen prog 181 #[.agg #[.bool (decide (a.1<0)),.string (Xn a.1.natAbs),.bool (decide (a.2<0)),.string (Xn a.2.natAbs),.bool (decide (b.1<0)),.string (Xn b.1.natAbs),.bool (decide (b.2<0)),.string (Xn b.2.natAbs)],rX m.1 m.2,.pointer (some ⟨bf,0,none⟩),.pointer (some ⟨bc,0,none⟩),.pointer (some ⟨bs,0,none⟩)] [Ge bs 236 #[.int .i64 0],Ge bc 232 #[v1,v2],Mm 1 Hb qZ v1 ls,Mm 1 Hb qZ v2 cs] (box bf 129 #[c0,c1,c2,c3]) (G:=Unit) (fun _=>True) (fun _=> .bool (decide (vlu (ls.map Prod.snd) (m.1,m.2)<0))) (fun _=>box bf 129 #[.bool (decide (m.1<0)),.string (Xn m.1.natAbs),.bool (decide (m.2<0)),.string (Xn m.2.natAbs)]):=by
 refine Zt4 func181 J ntmps181 J K4 ?_
 intro w0 sc hw hsc;have hw:=Hw.mk hw
 simp only [Ps,Pa]
 refine go 2 ?_
 refine Ya (Ye 6) fun bx _=>Ya (Ye 7) fun bx_2 _=>go 13 ?_
 refine cl 7 [4,5,2] (Zgy _ _ _ _ _ _ _ hx hy hp hlsv hlsE) fun _ _=>go 5 ?_
 exact Zwf (.inl J) hsc () _ (fun a w hs=>Zeq hs results181 J) J trivial 1 J J J J (Zk 2 J J J (Zk 3 J J J (Zk 4 J J J (Zk 5 J J J Zy))))
theorem Zir(bf bc bs:Nat)(v1 v2:Value)(ls cs:List (SL×List Int))(xs:List Int)(a0 b0:R2)(s t:Rat)(c0 c1 c2 c3:Value)(hd:Cvd xs)(h0:xs≠[])(hgl:ls.map Prod.snd=Pq xs)(hgc:cs.map Prod.snd=chx xs)(hI0:NIn xs s t 0 a0 b0):Yen prog 180 #[.agg #[v1,v2],.pointer (some ⟨bs,0,none⟩),.agg #[.bool (decide (a0.1<0)),.string (Xn a0.1.natAbs),.bool (decide (a0.2<0)),.string (Xn a0.2.natAbs),.bool (decide (b0.1<0)),.string (Xn b0.1.natAbs),.bool (decide (b0.2<0)),.string (Xn b0.2.natAbs)],.func (.func 181) #[] #[.pointer (some ⟨bf,0,none⟩),.pointer (some ⟨bc,0,none⟩),.pointer (some ⟨bs,0,none⟩)]] [Ge bs 236 #[.int .i64 0],Ge bc 232 #[v1,v2],Mm 1 Hb qZ v1 ls,Mm 1 Hb qZ v2 cs] (box bf 129 #[c0,c1,c2,c3]) (G:=R2×R2×R2) (fun r=>Fnd xs s t r.1) (fun r=> .agg #[.bool (decide (r.2.1.1<0)),.string (Xn r.2.1.1.natAbs),.bool (decide (r.2.1.2<0)),.string (Xn r.2.1.2.natAbs),.bool (decide (r.2.2.1<0)),.string (Xn r.2.2.1.natAbs),.bool (decide (r.2.2.2<0)),.string (Xn r.2.2.2.natAbs)]) (fun r=>box bf 129 #[.bool (decide (r.1.1<0)),.string (Xn r.1.1.natAbs),.bool (decide (r.1.2<0)),.string (Xn r.1.2.natAbs)]):=by
 refine Zt4 func180 J ntmps180 J K4 ?_
 intro w0 sc hw hsc;have hw:=Hw.mk hw
 simp only [Ps,Pa]
 refine go 2 ?_
 refine Ya (Ye 6) fun bx _=>Ya (Ye 7) fun bx_2 _=>Ya (Zr 8) fun bx_3 _=>go 4 ?_
 refine lp (G:=R2×R2×Nat×Value×Value×Value×Value) [1,3,4,6,8] [0,2,3,4,5,6,8] (fun q=>[]) (fun q=>[(7,box bx_2 238 #[.bool (decide (q.1.1<0)),.string (Xn q.1.1.natAbs),.bool (decide (q.1.2<0)),.string (Xn q.1.2.natAbs),.bool (decide (q.2.1.1<0)),.string (Xn q.2.1.1.natAbs),.bool (decide (q.2.1.2<0)),.string (Xn q.2.1.2.natAbs)]),(1,box bf 129 #[q.2.2.2.1,q.2.2.2.2.1,q.2.2.2.2.2.1,q.2.2.2.2.2.2])]) (fun q=>NIn xs s t q.2.2.1 q.1 q.2.1) (fun q=>5436-q.2.2.1) (a0,b0,0,c0,c1,c2,c3) (hI0) trivial K2 ?_
 rintro⟨a,b,j,c0,c1,c2,c3⟩ hI
 dsimp only at hI
 dsimp only
 obtain⟨r1,r2,r3,r4,r5,r6,r7⟩:=hI.round hd h0
 rw [←hgl]at r5 r6 r7
 rw [←hgc]at r6 r7
 refine go 7 ?_
 refine kt O3<|go 13 ?_
 refine cl 8 [2] (Zus _ a.1 a.2 b.1 b.2 O O O O r3.2.2 r4.2.2 r1) fun _ _=>Ya (Zr 9) fun bx_4 _=>go 9 ?_
 refine tt (Zrl (i:=1) (fs:=[]) (vs:=[_,_]) (us:=[_,_,_]) (Yb2 _ _ _ _ _ _ _ _ _ _ _ a b (Qm a b) O O r2.2.2 (Nk hgl (fun q hq=>(Gq hd q hq).1)) (Nk hgl (Za4 hd (m:=(Qm a b)) O O).1)) J J J J K2 call181 J J O3 (Zk 2 J J J (Zk 3 J J J (Zk 4 J J J (Zk 5 J J J Zy)))) J hw.h (fun _ _=>trivial)) fun _ _=>go 2 ?_
 refine Zc J (fun h228=>?_) (fun h228=>?_)
 ·refine go 13 ?_
  exact Zwf (.inl J) hsc (Qm a b,a,b) _ (fun a w hs=>Zeq hs results180 (Ii (i:=8) J J isAgg238 sizeOf238 J)) J (r5 ‹_›) 1 J J J J (Zk 2 J J J (Zk 3 J J J (Zk 4 J J J (Zk 5 J J J Zy))))
 ·refine go 9 ?_
  refine cl 9 [4,5,2] (Zag _ _ _ _ _ a.1 a.2 (Qm a b).1 (Qm a b).2 r3.2.2 r2.2.2 (Nk hgl (fun q hq=>(Gq hd q hq).1)) (Nk hgl (Za4 hd (m:=a) O O).1) (Nk hgc (fun q hq=>(Zd6 hd q hq).1)) (Nk hgc (Za4 hd (m:=a) O O).2) (Nk hgc (Za4 hd (m:=(Qm a b)) O O).2) (by have h7:=congrArg List.length hgc;rw [List.length_map]at h7;have:=Zl7 xs;omega)) fun _ _=>go 2 ?_
  refine Nn J (fun h231=>?_) (fun h231=>?_)
  ·refine go 6 ?_
   exact Xd (a,Qm a b,j+1,_,_,_,_) (r6 ‹_› ‹_›) (by have:=hI.j hd h0;dsimp only;omega) trivial K2
  ·refine go 6 ?_
   exact Xd (Qm a b,b,j+1,_,_,_,_) (r7 ‹_› ‹_›) (by have:=hI.j hd h0;dsimp only;omega) trivial K2
theorem Zfv(v:Value)(xs:List Int)(a b:R2)(hd:Cvd xs)(ha:E32 a)(hb:E32 b)(hc:¬0<cmp a b)(hn:ngb (Pq xs) (chx xs) a b=true):Cal prog 140 #[v,rX a.1 a.2,rX b.1 b.2] [Yj 2 wv v xs] false (G:=R2) (fun r=>Fnd xs (qv a) (qv b) r) (fun r=> .tuple #[rX r.1 r.2,.bool true,.int .i64 0]) (fun r=>[]):=by
 refine Zd func140 ntmps140 fun w0 sc hw hsc=>?_
 have ha1:=ha.b1
 have ha2:=ha.b2
 have hap:=ha.p
 have hb1:=hb.b1
 have hb2:=hb.b2
 have hbp:=hb.p
 have hle:=Ydy ha hb hc
 have h0:=ngb_ne hn
 have hE2:=Ydm ha hb
 have hLl:([slow a,slow b]:List R2).length=2:=rfl
 refine Ze (Pe 999 2 93 wv)<|Ze (Xp 999 J J pV)<|go 2 ?_
 refine Ya (Ye 2) fun bx _=>Ya (Ye 3) fun bx_2 _=>Ya (Zr 4) fun bx_3 _=>go 10 ?_
 refine cl 4 [1] (Znb _ _ a.1 a.2 b.1 b.2 hap hbp hd.v (Zo0 hd O) ha.efit hb.efit) fun _ _=>go 6 ?_
 refine kf (decide_eq_false (fun h=>h (if_neg hc)))<|go 8 ?_
 refine cl 5 [1] (sg_of _ _ hd) fun g hg=>?_
 obtain⟨hgl,hgc⟩:=hg
 refine go 3 ?_
 refine Ya (Zr 7) fun bx_4 _=>go 8 ?_
 refine kf O3<|go 7 ?_
 refine Ya (Zr 8) fun bx_5 _=>go 6 ?_
 refine cl 8 [] (Zjb a.1 a.2 b.1 b.2 hap hbp) fun _ _=>Ya (Zr 9) fun bx_6 _=>go 8 ?_
 refine cl 9 [5,6,8] (Zag _ _ _ _ _ a.1 a.2 b.1 b.2 hap hbp (Nk hgl (fun q hq=>(Gq hd q hq).1)) (Nk hgl (Za4 hd (m:=a) O O).1) (Nk hgc (fun q hq=>(Zd6 hd q hq).1)) (Nk hgc (Za4 hd (m:=a) O O).2) (Nk hgc (Za4 hd (m:=b) O O).2) (by have h7:=congrArg List.length hgc;rw [List.length_map]at h7;have:=Zl7 xs;omega)) fun _ _=>go 8 ?_
 refine kf O3<|go 2 ?_
 refine Gh (dF (Xk J J) (vB (by rw [hgl,hgc];show(!ngb (Pq xs) (chx xs) a b)=false;rw [hn];rfl))) J J<|go 13 ?_
 refine tt (Xy (i:=10) (ivs:=[(0,_),(1,_)]) (enc:=rq) ([slow a,slow b]:List R2) J J K4 underlying242 ti129 J J (fill24 _ _ _ _ _ _ _ _ _ _ _ _) J J pQ.cells J J hw.h) fun v _=>go 5 ?_
 refine lp (G:=Nat) [6,10,12,13,56,57] [0,1,999,2,3,4,5,6,7,8,9,10] (fun i=>[(58,.int .i64 (i:Int))]) (fun i=>[]) (fun i=>(i≤2)∧(∀k,k<i→¬vlu (g.2.1.map Prod.snd) ([slow a,slow b].getD k (0,0))<0)) (fun i=>2-i) 0 ⟨O1,fun k hk=>absurd hk (Nat.not_lt_zero k)⟩ K1 trivial ?_
 rintro i ⟨hi,hz⟩
 refine go 6 ?_
 refine Zc J (fun h262=>?_) (fun h262=>?_)
 ·refine go 7 ⟨O2,?_⟩
  refine dt (Od (ii:=10) (0,0) J J J (Xa pQ) pQ O2)<|Ya (Zr 11) fun bx_7 _=>go 4 ?_
  have hEi:=hE2 i O
  have hEb1:=hEi.b1
  have hEb2:=hEi.b2
  refine go 3 ?_
  refine cl 11 [5,6,8] (Zgy _ _ _ _ _ ([slow a,slow b].getD i (0,0)).1 ([slow a,slow b].getD i (0,0)).2 O O hEi.p (Nk hgl (fun q hq=>(Gq hd q hq).1)) (Nk hgl (Za4 hd (m:=([slow a,slow b].getD i (0,0))) O O).1)) fun _ _=>go 3 ?_
  refine Zc J (fun h263=>?_) (fun h263=>?_)
  ·refine go 1 ?_
   refine Nm [8,11] [5]<|Zl (n:=0) [(0,0),(1,0),(2,0),(3,1),(4,0),(5,3)]<|go 7 ?_
   refine Zu<|go 7 ?_
   exact xe3 hsc ([slow a,slow b].getD i (0,0)) results140 J (Ycu ha hb hle O (by rw [←hgl];assumption)) Za
  ·refine go 7 ⟨O,?_⟩
   exact Xd (i+1) ⟨O1,fun k hk2=>by rcases Nat.lt_succ_iff_lt_or_eq.1 hk2 with h9 | h9;exact hz k h9;subst h9;assumption⟩ O1 K1 trivial
 ·refine go 6 ?_
  have hI0:=Zva hd ha hb hle (by have h9:=hz 0 O;rw [hgl]at h9;exact h9) (by have h9:=hz 1 O;rw [hgl]at h9;exact h9) hn
  refine go 1 ?_
  refine Ya (Zr 12) fun bx_8 _=>go 6 ?_
  refine dt (d_mkc (vs:=[]) (us:=[_,_,_]) J trivial K3)<|tt (Zrl (i:=12) (fs:=[]) (vs:=[_,_,_,_]) (us:=[]) (Zir _ _ _ _ _ _ _ xs (slow a) (slow b) (qv a) (qv b) _ _ _ _ hd h0 hgl hgc hI0) J J J J K4 call180 J J O3 (Zeu 8 J J (Zeu 7 J J (Zk 5 J J J (Zk 6 J J J Zy)))) J hw.h (fun _ _=>trivial)) fun g_2 hg_2=>go 7 ?_
  refine kf O3<|go 14 ?_
  exact xe3 hsc (g_2.1) results140 J hg_2 Za
theorem Zgz(v:Value)(xs:List Int)(a b:R2)(hd:Cvd xs)(ha:E32 a)(hb:E32 b)(hc:¬0<cmp a b)(hn:ngb (Pq xs) (chx xs) a b=false):Og prog 140 #[v,rX a.1 a.2,rX b.1 b.2] [Yj 2 wv v xs] (.tuple #[.agg #[.bool false,.string ⟨#[]⟩,.bool false,.string ⟨#[]⟩],.bool false,.int .i64 0]):=by
 refine Zd func140 ntmps140 fun w0 sc hw hsc=>?_
 have ha1:=ha.b1
 have ha2:=ha.b2
 have hap:=ha.p
 have hb1:=hb.b1
 have hb2:=hb.b2
 have hbp:=hb.p
 refine Ze (Pe 999 2 93 wv)<|Ze (Xp 999 J J pV)<|go 2 ?_
 refine Ya (Ye 2) fun bx _=>Ya (Ye 3) fun bx_2 _=>Ya (Zr 4) fun bx_3 _=>go 10 ?_
 refine cl 4 [1] (Znb _ _ a.1 a.2 b.1 b.2 hap hbp hd.v (Zo0 hd O) ha.efit hb.efit) fun _ _=>go 6 ?_
 refine kf (decide_eq_false (fun h=>h (if_neg hc)))<|go 8 ?_
 refine cl 5 [1] (sg_of _ _ hd) fun g hg=>?_
 obtain⟨hgl,hgc⟩:=hg
 refine go 3 ?_
 refine Ya (Zr 7) fun bx_4 _=>go 8 ?_
 refine kf O3<|go 7 ?_
 refine Ya (Zr 8) fun bx_5 _=>go 6 ?_
 refine cl 8 [] (Zjb a.1 a.2 b.1 b.2 hap hbp) fun _ _=>Ya (Zr 9) fun bx_6 _=>go 8 ?_
 refine cl 9 [5,6,8] (Zag _ _ _ _ _ a.1 a.2 b.1 b.2 hap hbp (Nk hgl (fun q hq=>(Gq hd q hq).1)) (Nk hgl (Za4 hd (m:=a) O O).1) (Nk hgc (fun q hq=>(Zd6 hd q hq).1)) (Nk hgc (Za4 hd (m:=a) O O).2) (Nk hgc (Za4 hd (m:=b) O O).2) (by have h7:=congrArg List.length hgc;rw [List.length_map]at h7;have:=Zl7 xs;omega)) fun _ _=>go 8 ?_
 refine kf O3<|go 2 ?_
 refine Gh (dT (Xk J J) (vB (by rw [hgl,hgc];show(!ngb (Pq xs) (chx xs) a b)=true;rw [hn];rfl))) J J<|go 5 ?_
 refine Nm [8] [5]<|Zl (n:=0) [(0,0),(1,0),(2,0),(3,1),(4,0),(5,3)]<|Pf J J (stf (Xs (ivs:=[]) J trivial (fun a w hs=>Zpc)) K1)<|go 6 ?_
 refine Zu<|go 3 ?_
 exact xe3 hsc () results140 J trivial Za
theorem Zsx(fr to ov:Int)(vx vy vz:Value)(x y z:List Int):Cal Tryz.prog 119 #[.agg #[.int .i64 fr,.int .i64 to,.int .i64 ov,vx,vy,vz]] [Yj 1 Ym vx x,Yj 1 Ym vy y,Yj 1 Ym vz z] false (G:=Unit) (fun _=>True) (fun _=> .agg #[vx,vy,vz]) (fun _=>[]):=by
 refine Zd Tryz.func119 Tryz.ntmps119 fun w0 sc hw hsc=>?_
 refine go 2 ?_
 refine Ya (Ye 4) fun bx _=>?_
 refine Ya (Zr 5) fun bx_2 _=>?_
 refine go 10 ?_
 refine dt (Xs (ivs:=[(0,_),(1,_),(2,_)]) rfl ⟨rfl,rfl,rfl,rfl,rfl,rfl,trivial⟩ (fun a w hs=>Zpd ((Pu (i:=1) rfl Zh) a w hs) ((Pu (i:=2) rfl Zh) a w hs) ((Pu (i:=3) rfl Zh) a w hs))) ?_
 refine go 4 ?_
 exact Xi hsc () Tryz.results119 rfl trivial Za
theorem Zar:Cal Tryz.prog 47 #[] [] false (G:=Unit) (fun _=>True) (fun _=> .agg #[.int .i64 1,.int .i64 10000,.int .i64 2]) (fun _=>[]):=by
 refine Zd Tryz.func47 Tryz.ntmps47 fun w0 sc hw hsc=>?_
 refine go 2 ?_
 refine Ya (Zr 1) fun bx _=>?_
 refine go 4 ?_
 refine dt (Xs (ivs:=[(0,_),(1,_),(2,_)]) rfl ⟨rfl,rfl,rfl,rfl,rfl,rfl,trivial⟩ (fun a w hs=>Zua ((Zo rfl) a w hs) ((Zo rfl) a w hs) ((Zo rfl) a w hs))) ?_
 refine go 4 ?_
 exact Xi hsc () Tryz.results47 rfl trivial Za
theorem Ln:Cal Tryz.prog 49 #[] [] false (G:=Unit) (fun _=>True) (fun _=> .agg #[.int .i64 2,.int .i64 10000,.int .i64 3]) (fun _=>[]):=by
 refine Zd Tryz.func49 Tryz.ntmps49 fun w0 sc hw hsc=>?_
 refine go 2 ?_
 refine Ya (Zr 1) fun bx _=>?_
 refine go 4 ?_
 refine dt (Xs (ivs:=[(0,_),(1,_),(2,_)]) rfl ⟨rfl,rfl,rfl,rfl,rfl,rfl,trivial⟩ (fun a w hs=>Zua ((Zo rfl) a w hs) ((Zo rfl) a w hs) ((Zo rfl) a w hs))) ?_
 refine go 4 ?_
 exact Xi hsc () Tryz.results49 rfl trivial Za
theorem Zbs(o:Nat)(mm kd fr to ov m:Int)(vx vy vz:Value)(x y z:List Int)(ho:o=1∨o=2)(hS:Sgo fr to ov x y z)(h0:0≤m)(h1:m≤10000):Cal Tryz.prog 85 #[.agg #[.int .i64 (o:Int),.int .i64 mm,.int .i64 kd],.agg #[.int .i64 fr,.int .i64 to,.int .i64 ov,vx,vy,vz],.int .i64 m] [Yj 1 Ym vx x,Yj 1 Ym vy y,Yj 1 Ym vz z] true (G:=Value) (fun r=>True) (fun r=>r) (fun r=>[Yj 2 wv r (Fh o m ov (to-fr) x y z)]):=by
 refine Zd Tryz.func85 Tryz.ntmps85 fun w0 sc hw hsc=>?_
 have hfr:=hS.t1
 have hlt:=hS.t2
 have hto:=hS.t3
 have ho1:=hS.o1
 have ho2:=hS.o2
 obtain⟨q1,q2,q3,q4,q5,q6,q7⟩:=Zsl hS h0 h1 ho
 obtain⟨r1,r2,r3⟩:=Nv hS h0 h1 ho
 refine Ze (Pe 999 2 93 wv) ?_
 refine Ze (Xp 999 rfl rfl pV) ?_
 refine go 2 ?_
 refine Ya (Ye 4) fun bx _=>?_
 refine Ya (Ye 5) fun bx_2 _=>?_
 refine go 10 ?_
 refine tt (Xy (i:=6) (ivs:=[(0,_)]) (enc:=Ym) ([1000]:List Int) rfl rfl ⟨rfl,rfl,trivial⟩ Tryz.underlying22 Tryz.ti3 rfl rfl rfl rfl rfl pZ.cells rfl rfl hw.h) (fun v _=>?_)
 refine Zt (Xp 6 rfl rfl pZ) ?_
 refine cl 6 [6] (Pk _ _ (Zav (by simp<;>omega)) O5) fun _ _=>?_
 refine Ya (Zr 7) fun bx_3 _=>?_
 refine go 13 ⟨O,?_⟩
 refine tt (Xy (i:=8) (ivs:=[(0,_),(1,_),(2,_)]) (enc:=Ym) ([m,ov,to-fr]:List Int) rfl rfl ⟨rfl,rfl,rfl,rfl,rfl,rfl,trivial⟩ Tryz.underlying22 Tryz.ti3 rfl rfl rfl rfl rfl pZ.cells rfl rfl hw.h) (fun v_2 _=>?_)
 refine Zt (Xp 8 rfl rfl pZ) ?_
 refine cl 8 [8] (Pk _ _ (Zav (by simp<;>omega)) O5) fun _ _=>?_
 refine Ya (Zr 9) fun bx_4 _=>?_
 refine go 3 ?_
 refine jn (G:=Unit) [3,4,7,8,9] [0,1,2,3,999,4,5,6,8] (fun _=>[]) (fun _=>[(7,box bx_3 93 (wc (Zfz o))),(9,box bx_4 93 (wc (Zb4 o m ov (to-fr))))]) (fun _=>True) ?_ ?_
 ·refine go 7 ?_
  refine Zc rfl (fun h66=>?_) (fun h66=>?_)
  ·refine Nm [5] [18] ?_
   refine Zl (n:=6) [(2,0),(3,0),(4,0),(5,0),(6,0),(7,0),(8,0),(9,0),(10,0),(11,0),(12,0),(13,0),(14,0)] ?_
   refine go 14 ⟨O,O,?_⟩
   refine Qt (n:=5) 0 15 ?_ ?_
   ·refine Gi rfl (Xy (i:=10) (ivs:=[(0,_),(1,_)]) (enc:=Ym) ([1000,1000]:List Int) rfl rfl ⟨rfl,rfl,rfl,rfl,trivial⟩ Tryz.underlying22 Tryz.ti3 rfl rfl rfl rfl rfl pZ.cells rfl rfl hw.h) (fun v_3 _=>?_)
    refine Qt (n:=4) 1 15 ?_ ?_
    ·refine Mc (Zg 10 [10] (Pk _ _ (Zav (by simp<;>omega)) O5)) fun _ _=>?_
     refine Zl (n:=0) [(15,1),(16,1),(17,1),(18,3)] ?_
     refine Fi rfl (Xy (i:=11) (ivs:=[(0,_),(1,_),(2,_),(3,_)]) (enc:=Ym) ([m,ov,to-fr,to-fr]:List Int) rfl rfl ⟨rfl,rfl,rfl,rfl,rfl,rfl,rfl,rfl,trivial⟩ Tryz.underlying22 Tryz.ti3 rfl rfl rfl rfl rfl pZ.cells rfl rfl hw.h) (fun v_4 _=>?_)
     refine Yu (Zg 11 [11] (Pk _ _ (Zav (by simp<;>omega)) O5)) fun _ _=>?_
     refine go 3 ?_
     refine Zu ?_
     exact Oo () trivial trivial ⟨by rw [Zqj O];rfl,by rw [Zpo O];rfl,trivial⟩
    ·refine Gi rfl (Xy (i:=12) (ivs:=[(0,_),(1,_),(2,_),(3,_)]) (enc:=Ym) ([m,ov,to-fr,to-fr]:List Int) rfl rfl ⟨rfl,rfl,rfl,rfl,rfl,rfl,rfl,rfl,trivial⟩ Tryz.underlying22 Tryz.ti3 rfl rfl rfl rfl rfl pZ.cells rfl rfl hw.h) (fun v_5 _=>?_)
     refine Zl (n:=0) [(1,1),(16,1),(17,1),(18,3)] ?_
     refine Yu (Zg 12 [10] (Pk _ _ (Zav (by simp<;>omega)) O5)) fun _ _=>?_
     refine Yu (Zg 12 [12] (Pk _ _ (Zav (by simp<;>omega)) O5)) fun _ _=>?_
     refine go 3 ?_
     refine Zu ?_
     exact Oo () trivial trivial ⟨by rw [Zqj O];rfl,by rw [Zpo O];rfl,trivial⟩
   ·refine Gi rfl (Xy (i:=13) (ivs:=[(0,_),(1,_),(2,_),(3,_)]) (enc:=Ym) ([m,ov,to-fr,to-fr]:List Int) rfl rfl ⟨rfl,rfl,rfl,rfl,rfl,rfl,rfl,rfl,trivial⟩ Tryz.underlying22 Tryz.ti3 rfl rfl rfl rfl rfl pZ.cells rfl rfl hw.h) (fun v_6 _=>?_)
    refine Zl (n:=0) [(0,1),(1,1),(16,1),(17,1),(18,3)] ?_
    refine Fi rfl (Xy (i:=14) (ivs:=[(0,_),(1,_)]) (enc:=Ym) ([1000,1000]:List Int) rfl rfl ⟨rfl,rfl,rfl,rfl,trivial⟩ Tryz.underlying22 Tryz.ti3 rfl rfl rfl rfl rfl pZ.cells rfl rfl hw.h) (fun v_7 _=>?_)
    refine Yu (Zg 14 [14] (Pk _ _ (Zav (by simp<;>omega)) O5)) fun _ _=>?_
    refine Yu (Zg 14 [13] (Pk _ _ (Zav (by simp<;>omega)) O5)) fun _ _=>?_
    refine go 3 ?_
    refine Zu ?_
    exact Oo () trivial trivial ⟨by rw [Zqj O];rfl,by rw [Zpo O];rfl,trivial⟩
  ·refine go 1 ?_
   exact Oo () trivial trivial ⟨by rw [kilo_1 O];rfl,by rw [timC_1 O];rfl,trivial⟩
 ·rintro _ -
  refine go 4 ?_
  refine cl 14 [1,2,3] (Zsx _ _ _ _ _ _ _ _ _) fun _ _=>?_
  refine go 4 ?_
  refine Ze (Qp 999 80 rfl rfl rfl) ?_
  refine lp (G:=Nat×Value) [3,8,9,51] [0,7,9,1,2,3,999,4,5,6,8] (fun q=>[(52,.int .i64 (q.1:Int)),(7,q.2)]) (fun q=>[(80,Yj 2 wv q.2 (Es o x y z q.1))]) (fun q=>q.1≤3) (fun q=>3-q.1) (0,.slice none 0 0) O1 ⟨rfl,rfl,trivial⟩ ⟨rfl,trivial⟩ ?_
  rintro⟨i,vs⟩ hi
  dsimp only at hi
  dsimp only
  refine go 6 ?_
  refine Zc rfl (fun h69=>?_) (fun h69=>?_)
  ·refine go 5 ?_
   refine Ze (Zki i 1 2 3 50 rfl rfl rfl rfl rfl rfl) ?_
   refine go 1 ?_
   refine dt (Ztn (i:=i) rfl rfl rfl Tryz.underlying124 Tryz.sizeOf22 Tryz.isAgg22 rfl) ?_
   refine go 6 ?_
   refine cl 15 [50] (Zkz _ _ (hS.hc i) (Nat.le_trans (hS.lc i).2 O3)) fun _ _=>?_
   refine Zt (He 15 (q:=Yj 2 wv _ (tzl (Yv i x y z))) (congrArg (Yj 2 wv _) (if_neg (Ybj (hS.lc i).2))) rfl rfl) ?_
   refine go 16 ?_
   refine Ze (Qp 15 81 rfl rfl rfl) ?_
   refine lp (G:=Nat×Value) [3,7,8,9,51,52,61] [0,80,7,9,1,2,3,999,4,5,6,8,50,15] (fun q=>[(62,.int .i64 (q.1:Int)),(12,q.2)]) (fun q=>[(81,Yj 2 wv q.2 (dN q.1 (tzl (Yv i x y z))))]) (fun q=>q.1≤o) (fun q=>o-q.1) (0,_) O1 ⟨rfl,rfl,trivial⟩ ⟨rfl,trivial⟩ ?_
   rintro⟨k,vd⟩ hk
   dsimp only at hk
   dsimp only
   refine go 6 ?_
   refine Zc rfl (fun h71=>?_) (fun h71=>?_)
   ·refine go 6 ?_
    refine cl 16 [81] (Fe _ _ (Ztp (hS.hc i) (hS.lc i).2 O).1 (Ztp (hS.hc i) (hS.lc i).2 O).2) fun _ _=>?_
    refine go 11 ⟨O,?_⟩
    refine Yr (Qp 16 81 rfl rfl rfl) ?_
    exact Xd (k+1,_) O1 O1 ⟨rfl,rfl,trivial⟩ ⟨rfl,trivial⟩
   ·obtain rfl:o=k:=O
    refine go 9 ?_
    refine cl 17 [81] (Iw _ _ (Zfz o) (Ztp (hS.hc i) (hS.lc i).2 O).1 (Zcy (hS.hc i) (hS.lc i).2 ho).1 (Zcy (hS.hc i) (hS.lc i).2 ho).2.1) fun _ _=>?_
    refine Zt (He 17 (q:=Yj 2 wv _ (axQ o (Yv i x y z))) (congrArg (Yj 2 wv _) (by rw [Zs2];rfl)) rfl rfl) ?_
    refine go 10 ?_
    refine cl 18 [17,17] (Zhc _ _ (axQ o (Yv i x y z)) (axQ o (Yv i x y z)) (Zcy (hS.hc i) (hS.lc i).2 ho).2.2.1 (Zcy (hS.hc i) (hS.lc i).2 ho).2.2.1 (Zcy (hS.hc i) (hS.lc i).2 ho).2.2.2.1) fun _ _=>?_
    refine Zt (He 18 (q:=Yj 2 wv _ (sqQ o (Yv i x y z))) (congrArg (Yj 2 wv _) rfl) rfl rfl) ?_
    refine go 9 ?_
    refine cl 19 [80,18] (Zx9 _ _ (Es o x y z i) (sqQ o (Yv i x y z)) (Gu hS ho i O).2.2.2.2 (Zcy (hS.hc i) (hS.lc i).2 ho).2.2.2.2.1 (Ybt hS ho O)) fun _ _=>?_
    refine go 11 ⟨O,?_⟩
    refine Yr (Qp 19 80 rfl rfl rfl) ?_
    exact Xd (i+1,_) O1 O1 ⟨rfl,rfl,trivial⟩ ⟨rfl,trivial⟩
  ·obtain rfl:i=3:=O
   refine go 7 ?_
   refine tt (Xy (i:=20) (ivs:=[(0,_)]) (enc:=Ym) ([1]:List Int) rfl rfl ⟨rfl,rfl,trivial⟩ Tryz.underlying22 Tryz.ti3 rfl rfl rfl rfl rfl pZ.cells rfl rfl hw.h) (fun v_8 _=>?_)
   refine Zt (Xp 20 rfl rfl pZ) ?_
   refine cl 21 [20] (Zkz _ _ (fun a ha=>by rw [List.mem_singleton.1 ha];exact⟨O3,O3⟩)) fun _ _=>?_
   refine Zt (He 21 (q:=Yj 2 wv _ [1]) (congrArg (Yj 2 wv _) tzl1) rfl rfl) ?_
   refine go 11 ?_
   refine cl 22 [21] (Iw _ [1] (Zb4 o m ov (to-fr)) vp1 (Nat.le_trans q1 O3) q3) fun _ _=>?_
   refine Zt (He 22 (q:=Yj 2 wv _ (Kg o m ov (to-fr))) (congrArg (Yj 2 wv _) rfl) rfl rfl) ?_
   refine go 10 ?_
   refine cl 23 [22,22] (Zhc _ _ (Kg o m ov (to-fr)) (Kg o m ov (to-fr)) q2 q2 q4) fun _ _=>?_
   refine go 10 ?_
   refine cl 24 [23,80] (Zx8 _ _ (Xl (Kg o m ov (to-fr)) (Kg o m ov (to-fr))) (Es o x y z 3) q5 (Gu hS ho 3 O).2.2.2.2 r1) fun _ _=>?_
   refine go 10 ?_
   refine cl 25 [24] (Oz _ _ r2) fun _ _=>?_
   refine go 13 ?_
   exact Xi hsc _ Tryz.results85 rfl trivial (Oq 25 Za)
theorem e32_0:E32 (0,1):=⟨O3,O3,O3⟩
theorem e32_1:E32 (1,1):=⟨O3,O3,O3⟩
theorem rn01:Gl 0 1=0∧Hs 0 1=1:=by
 obtain⟨n1,n2,-⟩:=Bx e32_0.slow.2.2.2
 exact⟨n1.trans O7,n2.trans O7⟩
theorem rn11:Gl 1 1=1∧Hs 1 1=1:=by
 obtain⟨n1,n2,-⟩:=Bx e32_1.slow.2.2.2
 exact⟨n1.trans O7,n2.trans O7⟩
theorem cmp01:¬0<cmp (0,1) (1,1):=O7
def Zcm(xs:List Int):Bool:=ngb (Pq xs) (chx xs) (0,1) (1,1)
theorem Zsw:Cal Tryz.prog 139 #[] [] false (G:=Unit) (fun _=>True) (fun _=> .tuple #[.agg #[.bool (decide ((0:Int)<0)),.string (Xn (0:Int).natAbs),.bool (decide ((1:Int)<0)),.string (Xn (1:Int).natAbs)],.agg #[.bool (decide ((1:Int)<0)),.string (Xn (1:Int).natAbs),.bool (decide ((1:Int)<0)),.string (Xn (1:Int).natAbs)]]) (fun _=>[]):=by
 refine Zd Tryz.func139 Tryz.ntmps139 fun w0 sc hw hsc=>?_
 refine go 2 ?_
 refine Ya (Zr 1) fun bx _=>?_
 refine Ya (Zr 2) fun bx_2 _=>?_
 refine go 4 ?_
 refine cl 2 [] (Zc0 0 1 ⟨O3,O3⟩ ⟨O3,O3⟩ O3) fun _ _=>?_
 refine go 8 ?_
 refine cl 2 [] (Zc0 1 1 ⟨O3,O3⟩ ⟨O3,O3⟩ O3) fun _ _=>?_
 refine go 7 ?_
 refine Nm [2] [3] ?_
 refine Zl (n:=0) [(1,0),(0,1),(2,1),(3,3)] ?_
 refine go 5 ?_
 refine Zu ?_
 refine go 2 ?_
 exact Mb hsc () Tryz.results139 (by rw [rn01.1,rn01.2,rn11.1,rn11.2]) trivial Za
theorem Zqh(v:Value)(xs:List Int)(hd:Cvd xs)(hn:ngb (Pq xs) (chx xs) (0,1) (1,1)=true):Cal Tryz.prog 97 #[v] [Yj 2 wv v xs] false (G:=Unit) (fun _=>True) (fun _=> .bool true) (fun _=>[]):=by
 refine Zd Tryz.func97 Tryz.ntmps97 fun w0 sc hw hsc=>?_
 refine go 7 ?_
 refine cl 1 [] (Zsw) fun _ _=>?_
 refine go 3 ?_
 refine Ya (Zr 2) fun bx _=>?_
 refine Ya (Zr 3) fun bx_2 _=>?_
 refine go 9 ?_
 refine cl 3 [1] (Zfv _ _ (0,1) (1,1) hd e32_0 e32_1 cmp01 hn) fun g hg=>?_
 refine go 4 ?_
 refine Ya (Zr 4) fun bx_3 _=>?_
 refine go 12 ?_
 exact Xi hsc () Tryz.results97 rfl trivial Za
theorem Zvl(v:Value)(xs:List Int)(hd:Cvd xs)(hn:ngb (Pq xs) (chx xs) (0,1) (1,1)=false):Cal Tryz.prog 97 #[v] [Yj 2 wv v xs] false (G:=Unit) (fun _=>True) (fun _=> .bool false) (fun _=>[]):=by
 refine Zd Tryz.func97 Tryz.ntmps97 fun w0 sc hw hsc=>?_
 refine go 7 ?_
 refine cl 1 [] (Zsw) fun _ _=>?_
 refine go 3 ?_
 refine Ya (Zr 2) fun bx _=>?_
 refine Ya (Zr 3) fun bx_2 _=>?_
 refine go 9 ?_
 refine cl 3 [1] (Zgz _ _ (0,1) (1,1) hd e32_0 e32_1 cmp01 hn) fun _ _=>?_
 refine go 4 ?_
 refine Ya (Zr 4) fun bx_3 _=>?_
 refine go 12 ?_
 exact Xi hsc () Tryz.results97 rfl trivial Za
theorem li_of(o:Nat)(kd fr to ov m:Int)(vx vy vz:Value)(x y z:List Int)(ho:o=1∨o=2)(hfr:Xo fr)(hto:Xo to)(hov:Xo ov)(hx:∀a∈x,Xo a)(hy:∀a∈y,Xo a)(hz:∀a∈z,Xo a)(hb:Ir fr to ov x y z=true)(h0:0≤m)(h1:m≤10000):Cal Tryz.prog 48 #[.agg #[.int .i64 (o:Int),.int .i64 10000,.int .i64 kd],.agg #[.int .i64 fr,.int .i64 to,.int .i64 ov,vx,vy,vz],.int .i64 m] [Yj 1 Ym vx x,Yj 1 Ym vy y,Yj 1 Ym vz z] true (G:=Value) (fun r=>True) (fun r=> .tuple #[r,.int .i64 0]) (fun r=>[Yj 2 wv r (Fh o m ov (to-fr) x y z)]):=by
 refine Zd Tryz.func48 Tryz.ntmps48 fun w0 sc hw hsc=>?_
 refine go 2 ?_
 refine Ya (Ye 4) fun bx _=>?_
 refine Ya (Ye 5) fun bx_2 _=>?_
 refine go 8 ?_
 refine cl 5 [1,2,3] (Et _ _ _ _ _ _ _ _ _ hfr hto hov hx hy hz) fun _ _=>?_
 refine dt (Zv (r':= .bool false) (Xk rfl rfl) (congrArg Value.bool (by rw [hb];rfl))) ?_
 refine go 2 ?_
 refine kfg (decide_eq_false O) ?_
 refine kf O3 ?_
 refine go 4 ?_
 refine kfg (decide_eq_false O) ?_
 refine kf O3 ?_
 refine go 10 ?_
 refine cl 6 [1,2,3] (Zbs _ _ _ _ _ _ _ _ _ _ _ _ _ ho (Sgo.of hx hy hz hb) h0 h1) fun v _=>?_
 refine go 5 ?_
 exact Mb hsc _ Tryz.results48 rfl trivial (Oq 6 Za)
theorem Zjt(o:Nat)(kd fr to ov m:Int)(vx vy vz:Value)(x y z:List Int)(hfr:Xo fr)(hto:Xo to)(hov:Xo ov)(hx:∀a∈x,Xo a)(hy:∀a∈y,Xo a)(hz:∀a∈z,Xo a)(hb:¬(Ir fr to ov x y z=true∧0≤m∧m≤10000)):Cal Tryz.prog 48 #[.agg #[.int .i64 (o:Int),.int .i64 10000,.int .i64 kd],.agg #[.int .i64 fr,.int .i64 to,.int .i64 ov,vx,vy,vz],.int .i64 m] [Yj 1 Ym vx x,Yj 1 Ym vy y,Yj 1 Ym vz z] false (G:=Unit) (fun _=>True) (fun _=> .tuple #[.slice none 0 0,.int .i64 2]) (fun _=>[]):=by
 refine Zd Tryz.func48 Tryz.ntmps48 fun w0 sc hw hsc=>?_
 refine go 2 ?_
 refine Ya (Ye 4) fun bx _=>?_
 refine Ya (Ye 5) fun bx_2 _=>?_
 refine go 8 ?_
 refine cl 5 [1,2,3] (Et _ _ _ _ _ _ _ _ _ hfr hto hov hx hy hz) fun _ _=>?_
 refine go 2 ?_
 refine Zau (d:=11) rfl (fun s88=>?_) (fun s88=>?_)
 ·refine go 20 ?_
  exact Mb hsc () Tryz.results48 rfl trivial Za
 ·refine go 4 ?_
  refine Yq (d:=15) rfl (fun s88_2=>?_) (fun s88_2=>?_)
  ·refine go 16 ?_
   exact Mb hsc () Tryz.results48 rfl trivial Za
  ·refine go 7 ?_
   refine Zc rfl (fun h88=>?_) (fun h88=>?_)
   ·refine go 8 ?_
    exact Mb hsc () Tryz.results48 rfl trivial Za
   ·refine go 3 ?_
    exfalso;first | (simp_all;done) | (simp_all;omega)
theorem Zhr(v:Value)(xs:List Int)(hd:Cvd xs):Cal Tryz.prog 97 #[v] [Yj 2 wv v xs] false (G:=Unit) (fun _=>True) (fun _=> .bool (Zcm xs)) (fun _=>[]):=by
 unfold Zcm
 cases hn:ngb (Pq xs) (chx xs) (0,1) (1,1)with
 | true=>exact Zqh v xs hd hn
 | false=>exact Zvl v xs hd hn
theorem Ff(fr to ov m:Int)(vx vy vz:Value)(x y z:List Int)(hfr:Xo fr)(hto:Xo to)(hov:Xo ov)(hx:∀a∈x,Xo a)(hy:∀a∈y,Xo a)(hz:∀a∈z,Xo a)(hb:Ir fr to ov x y z=true)(h0:0≤m)(h1:m≤10000):Cal Tryz.prog 16 #[.agg #[.int .i64 fr,.int .i64 to,.int .i64 ov,vx,vy,vz],.int .i64 m] [Yj 1 Ym vx x,Yj 1 Ym vy y,Yj 1 Ym vz z] true (G:=Value) (fun r=>True) (fun r=> .tuple #[r,.int .i64 0]) (fun r=>[Yj 2 wv r (Fh 1 m ov (to-fr) x y z)]):=by
 refine Zd Tryz.func16 Tryz.ntmps16 fun w0 sc hw hsc=>?_
 refine go 2 ?_
 refine Ya (Ye 4) fun bx _=>?_
 refine go 5 ?_
 refine Qb (fun _=>False) [(1,0),(2,0),(0,1),(3,1),(4,0),(5,0),(6,3),(7,3)] ?_
 refine go 2 ?_
 refine Yu (Zg 4 [] (Zar)) fun _ _=>?_
 refine Yu (Zg 5 [1,2,3] (li_of 1 2 _ _ _ _ _ _ _ _ _ _ O hfr hto hov hx hy hz hb h0 h1)) fun _ _=>?_
 refine go 7 ?_
 exact Mb hsc _ Tryz.results16 rfl trivial (Oq 5 Za)
theorem Ac(fr to ov m:Int)(vx vy vz:Value)(x y z:List Int)(hfr:Xo fr)(hto:Xo to)(hov:Xo ov)(hx:∀a∈x,Xo a)(hy:∀a∈y,Xo a)(hz:∀a∈z,Xo a)(hb:¬(Ir fr to ov x y z=true∧0≤m∧m≤10000)):Cal Tryz.prog 16 #[.agg #[.int .i64 fr,.int .i64 to,.int .i64 ov,vx,vy,vz],.int .i64 m] [Yj 1 Ym vx x,Yj 1 Ym vy y,Yj 1 Ym vz z] false (G:=Unit) (fun _=>True) (fun _=> .tuple #[.slice none 0 0,.int .i64 2]) (fun _=>[]):=by
 refine Zd Tryz.func16 Tryz.ntmps16 fun w0 sc hw hsc=>?_
 refine go 2 ?_
 refine Ya (Ye 4) fun bx _=>?_
 refine go 5 ?_
 refine Qb (fun _=>False) [(1,0),(2,0),(0,1),(3,1),(4,0),(5,0),(6,3),(7,3)] ?_
 refine go 2 ?_
 refine Yu (Zg 4 [] (Zar)) fun _ _=>?_
 refine Yu (Zg 4 [1,2,3] (Zjt 1 2 _ _ _ _ _ _ _ _ _ _ hfr hto hov hx hy hz hb)) fun _ _=>?_
 refine go 7 ?_
 exact Mb hsc () Tryz.results16 rfl trivial Za
theorem Iz(fr to ov m:Int)(vx vy vz:Value)(x y z:List Int)(hfr:Xo fr)(hto:Xo to)(hov:Xo ov)(hx:∀a∈x,Xo a)(hy:∀a∈y,Xo a)(hz:∀a∈z,Xo a)(hb:Ir fr to ov x y z=true)(h0:0≤m)(h1:m≤10000):Cal Tryz.prog 17 #[.agg #[.int .i64 fr,.int .i64 to,.int .i64 ov,vx,vy,vz],.int .i64 m] [Yj 1 Ym vx x,Yj 1 Ym vy y,Yj 1 Ym vz z] true (G:=Value) (fun r=>True) (fun r=> .tuple #[r,.int .i64 0]) (fun r=>[Yj 2 wv r (Fh 2 m ov (to-fr) x y z)]):=by
 refine Zd Tryz.func17 Tryz.ntmps17 fun w0 sc hw hsc=>?_
 refine go 2 ?_
 refine Ya (Ye 4) fun bx _=>?_
 refine go 5 ?_
 refine Qb (fun _=>False) [(1,0),(2,0),(0,1),(3,1),(4,0),(5,0),(6,3),(7,3)] ?_
 refine go 2 ?_
 refine Yu (Zg 4 [] (Ln)) fun _ _=>?_
 refine Yu (Zg 5 [1,2,3] (li_of 2 3 _ _ _ _ _ _ _ _ _ _ O hfr hto hov hx hy hz hb h0 h1)) fun _ _=>?_
 refine go 7 ?_
 exact Mb hsc _ Tryz.results17 rfl trivial (Oq 5 Za)
theorem Kz(fr to ov m:Int)(vx vy vz:Value)(x y z:List Int)(hfr:Xo fr)(hto:Xo to)(hov:Xo ov)(hx:∀a∈x,Xo a)(hy:∀a∈y,Xo a)(hz:∀a∈z,Xo a)(hb:¬(Ir fr to ov x y z=true∧0≤m∧m≤10000)):Cal Tryz.prog 17 #[.agg #[.int .i64 fr,.int .i64 to,.int .i64 ov,vx,vy,vz],.int .i64 m] [Yj 1 Ym vx x,Yj 1 Ym vy y,Yj 1 Ym vz z] false (G:=Unit) (fun _=>True) (fun _=> .tuple #[.slice none 0 0,.int .i64 2]) (fun _=>[]):=by
 refine Zd Tryz.func17 Tryz.ntmps17 fun w0 sc hw hsc=>?_
 refine go 2 ?_
 refine Ya (Ye 4) fun bx _=>?_
 refine go 5 ?_
 refine Qb (fun _=>False) [(1,0),(2,0),(0,1),(3,1),(4,0),(5,0),(6,3),(7,3)] ?_
 refine go 2 ?_
 refine Yu (Zg 4 [] (Ln)) fun _ _=>?_
 refine Yu (Zg 4 [1,2,3] (Zjt 2 3 _ _ _ _ _ _ _ _ _ _ hfr hto hov hx hy hz hb)) fun _ _=>?_
 refine go 7 ?_
 exact Mb hsc () Tryz.results17 rfl trivial Za
theorem Zzc(sp ac:Int):Cal Tryz.prog 12 #[.agg #[.int .i64 sp,.int .i64 ac]] [] false (G:=Unit) (fun _=>True) (fun _=> .bool (decide (1≤sp∧sp≤10000∧1≤ac∧ac≤10000))) (fun _=>[]):=by
 refine Zd Tryz.func12 Tryz.ntmps12 fun w0 sc hw hsc=>?_
 refine go 2 ?_
 refine Ya (Ye 1) fun bx _=>?_
 refine go 9 ?_
 refine Yq (d:=6) rfl (fun s23=>?_) (fun s23=>?_)
 ·refine go 5 ?_
  refine Yq (d:=11) rfl (fun s23_2=>?_) (fun s23_2=>?_)
  ·refine go 5 ?_
   refine Yq (d:=16) rfl (fun s23_3=>?_) (fun s23_3=>?_)
   ·refine go 8 ?_
    exact Xi hsc () Tryz.results12 (by first | (simp_all;done) | (simp_all;omega)) trivial Za
   ·refine go 8 ?_
    exact Xi hsc () Tryz.results12 (by first | (simp_all;done) | (simp_all;omega)) trivial Za
  ·refine go 13 ?_
   exact Xi hsc () Tryz.results12 (by first | (simp_all;done) | (simp_all;omega)) trivial Za
 ·refine go 18 ?_
  exact Xi hsc () Tryz.results12 (by first | (simp_all;done) | (simp_all;omega)) trivial Za
theorem eg130:Tryz.prog.eqGuardType Tryz.prog.depth 130=false:=O6
theorem eqlA(w:World)(p q r p' q' r':R2):(binOp .eql 130 (.agg (cellsOf rq [p,q,r]).toArray) (.agg (cellsOf rq [p',q',r']).toArray)).run Tryz.prog w= .ok (.bool (decide (p=p'∧q=q'∧r=r'))) w:=by
 rw [run_eql_struct,run_equalIn_array w 9999 _ _ Tryz.underlying130 Tryz.ti129]
 have hc:Tryz.prog.cellsOf 129=4:=O6
 rw [hc]
 have e3:List.range 3=[0,1,2]:=rfl
 rw [e3]
 obtain⟨p1,p2⟩:=p;obtain⟨q1,q2⟩:=q;obtain⟨r1,r2⟩:=r
 obtain⟨u1,u2⟩:=p';obtain⟨v1,v2⟩:=q';obtain⟨w1,w2⟩:=r'
 have hp:∀(a b c:R2),(cellsOf rq [a,b,c]).toArray=#[.bool (decide (a.1<0)),.string (Xn a.1.natAbs),.bool (decide (a.2<0)),.string (Xn a.2.natAbs),.bool (decide (b.1<0)),.string (Xn b.1.natAbs),.bool (decide (b.2<0)),.string (Xn b.2.natAbs),.bool (decide (c.1<0)),.string (Xn c.1.natAbs),.bool (decide (c.2<0)),.string (Xn c.2.natAbs)]:=fun a b c=>rfl
 rw [hp,hp]
 simp [Op.eqItems,part,Tryz.isAgg129,Tryz.sizeOf129,in129,Zqq]
 by_cases h1:p1=u1<;>by_cases h2:p2=u2<;>by_cases h3:q1=v1<;>by_cases h4:q2=v2<;>by_cases h5:r1=w1<;>by_cases h6:r2=w2<;>simp_all
def slS(d:List Int):Nat→Int
 | 0=>0
 | k+1=>slS d k+Xu [d.getD k 0,(k:Int)+1]
def fsS(d:List Int)(k:Nat):Int:=if k=0 then 0 else d.getD 0 0
theorem Zbx{d:List Int}{k:Nat}(h:k≠0):fsS d k=d.getD 0 0:=if_neg h
def qr(a b:Int):R2:=(Gl a b,Hs a b)
def bgS(c:List Int):Int:=fsS (c.drop 1) (c.drop 1).length
def enS(c:List Int):Int:=slS (c.drop 1) (c.drop 1).length
def bS(ov T:Int)(x y z:List Int):Nat→List R2
 | 0=>List.replicate 3 (0,0)
 | i+1=>(bS ov T x y z i).set i (qr (bgS (Yv i x y z)) (Xu [ov,T]))
def eS(ov T:Int)(x y z:List Int):Nat→List R2
 | 0=>List.replicate 3 (0,0)
 | i+1=>(eS ov T x y z i).set i (qr (enS (Yv i x y z)) (Xu [ov,T]))
theorem Ag(ov T:Int)(x y z:List Int):∀i,(bS ov T x y z i).length=3
 | 0=>rfl
 | i+1=>by show(List.set _ _ _).length=3;rw [List.length_set];exact Ag ov T x y z i
theorem Af(ov T:Int)(x y z:List Int):∀i,(eS ov T x y z i).length=3
 | 0=>rfl
 | i+1=>by show(List.set _ _ _).length=3;rw [List.length_set];exact Af ov T x y z i
theorem Zrr{d:List Int}(h:∀a∈d,Xo a):∀k,k≤5→(slS d k).natAbs≤k*(9223372036854775808*5)
 | 0,_=>by show(0:Int).natAbs≤_;decide
 | k+1,hk=>by
  have ih:=Zrr h k O
  obtain⟨h1,h2⟩:=Qy h k
  have h3:(Xu [d.getD k 0,(k:Int)+1]).natAbs≤9223372036854775808*5:=by
   show(d.getD k 0*(((k:Int)+1)*1)).natAbs≤_
   rw [Int.natAbs_mul]
   exact Nat.mul_le_mul O O
  show(slS d k+Xu [d.getD k 0,(k:Int)+1]).natAbs≤_
  rw [Nat.succ_mul];omega
theorem Qz{c:List Int}(h:∀a∈c,Xo a):∀a∈c.drop 1,Xo a:=fun a ha=>h a (List.mem_of_mem_drop ha)
theorem Za8{d:List Int}(h:∀a∈d,Xo a){k:Nat}(hk:k≤5):bl (slS d k).natAbs≤80:=
 (Xt 80 _).2 (Nat.lt_of_le_of_lt (Zrr h k hk) (Nat.lt_of_le_of_lt (Nat.mul_le_mul_right _ hk) O3))
theorem bl_fsS{d:List Int}(h:∀a∈d,Xo a)(k:Nat):bl (fsS d k).natAbs≤80:=by
 unfold fsS
 split
 ·decide
 ·exact Nat.le_trans (Ig (Qy h 0)) O3
theorem per_ok{fr to ov:Int}{x y z:List Int}(h:Sgo fr to ov x y z):bl (Xu [ov,to-fr]).natAbs≤80∧Xu [ov,to-fr]≠0∧0<Xu [ov,to-fr]:=by
 have a1:=h.t1
 have a2:=h.t2
 have a3:=h.t3
 have a4:=h.o1
 have a5:=h.o2
 have e:Xu [ov,to-fr]=ov*(to-fr):=by show ov*((to-fr)*1)=_;rw [Int.mul_one]
 have hp:0<ov*(to-fr):=Int.mul_pos O O
 rw [e]
 refine⟨(Xt 80 _).2 ?_,O,hp⟩
 rw [Int.natAbs_mul]
 exact Nat.lt_of_le_of_lt (Nat.mul_le_mul (show ov.natAbs≤4294967296 by omega) (show(to-fr).natAbs≤3600000 by omega)) O3
theorem in_pr{fr to ov:Int}{x y z:List Int}(h:Sgo fr to ov x y z):∀a∈[ov,to-fr],Xo a:=fun a ha=>by
 have a1:=h.t1
 have a2:=h.t2
 have a3:=h.t3
 have a4:=h.o1
 have a5:=h.o2
 simp only [List.mem_cons,List.not_mem_nil,or_false]at ha
 rcases ha with rfl | rfl<;>exact⟨O,O⟩
theorem Ze8{d:List Int}(h:∀a∈d,Xo a){k:Nat}(hk:k≤5):bl (Xu [d.getD k 0,(k:Int)+1]).natAbs≤65536:=by
 have h1:=Ig (Qy h k)
 have h2:bl (((k:Int)+1)*1).natAbs≤3:=(Xt 3 _).2 O
 have h3:=Yw (d.getD k 0) (((k:Int)+1)*1)
 show bl (d.getD k 0*(((k:Int)+1)*1)).natAbs≤_
 omega
theorem Zj2{d:List Int}(h:∀a∈d,Xo a){k:Nat}(hk:k<5):Cg (slS d k+Xu [d.getD k 0,(k:Int)+1])=slS d (k+1):=
 Ny (Nat.le_trans (Za8 h (k:=k+1) O) O3)
def Zog(fr to ov:Int)(x y z:List Int)(fr2 to2 ov2:Int)(x2 y2 z2:List Int):Bool:=
 decide (qr (bgS x2) (Xu [ov2,to2-fr2])=qr (enS x) (Xu [ov,to-fr])∧qr (bgS y2) (Xu [ov2,to2-fr2])=qr (enS y) (Xu [ov,to-fr])∧qr (bgS z2) (Xu [ov2,to2-fr2])=qr (enS z) (Xu [ov,to-fr]))
theorem Zjs(fr to ov:Int)(vx vy vz:Value)(x y z:List Int)(hS:Sgo fr to ov x y z):Cal Tryz.prog 75 #[.agg #[.int .i64 fr,.int .i64 to,.int .i64 ov,vx,vy,vz]] [Yj 1 Ym vx x,Yj 1 Ym vy y,Yj 1 Ym vz z] false (G:=Unit) (fun _=>True) (fun _=> .tuple #[.agg (cellsOf rq (bS ov (to-fr) x y z 3)).toArray,.agg (cellsOf rq (eS ov (to-fr) x y z 3)).toArray]) (fun _=>[]):=by
 refine Zd Tryz.func75 Tryz.ntmps75 fun w0 sc hw hsc=>?_
 have hfr:=hS.t1
 have hlt:=hS.t2
 have hto:=hS.t3
 have ho1:=hS.o1
 have ho2:=hS.o2
 obtain⟨p1,p2,p3⟩:=per_ok hS
 refine go 2 ?_
 refine Ya (Ye 4) fun bx _=>?_
 refine tt (Gt (i:=5) rfl rfl Tryz.zeroValue130 rfl rfl hw.h) (fun bx_2 _=>?_)
 refine tt (Gt (i:=6) rfl rfl Tryz.zeroValue130 rfl rfl hw.h) (fun bx_3 _=>?_)
 refine go 6 ?_
 refine cl 6 [1,2,3] (Zsx _ _ _ _ _ _ _ _ _) fun _ _=>?_
 refine go 4 ?_
 refine Ze (He 5 (q:=box bx_2 130 (cellsOf rq (List.replicate 3 ((0:Int),(0:Int)))).toArray) (congrArg (box bx_2 130) (show _=(cellsOf rq (List.replicate 3 ((0:Int),(0:Int)))).toArray from rfl)) rfl rfl) ?_
 refine Ze (He 6 (q:=box bx_3 130 (cellsOf rq (List.replicate 3 ((0:Int),(0:Int)))).toArray) (congrArg (box bx_3 130) (show _=(cellsOf rq (List.replicate 3 ((0:Int),(0:Int)))).toArray from rfl)) rfl rfl) ?_
 refine lp (G:=Nat) [1,2,3,12] [0,1,2,3,4] (fun i=>[(13,.int .i64 (i:Int))]) (fun i=>[(5,box bx_2 130 (cellsOf rq (bS ov (to-fr) x y z i)).toArray),(6,box bx_3 130 (cellsOf rq (eS ov (to-fr) x y z i)).toArray)]) (fun i=>i≤3) (fun i=>3-i) 0 O1 ⟨rfl,trivial⟩ ⟨rfl,rfl,trivial⟩ ?_
 rintro i hi
 have hc:=hS.hc i
 have hlc:=hS.lc i
 have hdl:((Yv i x y z).drop 1).length=(Yv i x y z).length-1:=List.length_drop
 refine go 6 ?_
 refine Zc rfl (fun h104=>?_) (fun h104=>?_)
 ·refine go 5 ?_
  refine Ze (Zki i 1 2 3 50 rfl rfl rfl rfl rfl rfl) ?_
  refine go 2 ?_
  refine dt (Ztn (i:=i) rfl rfl rfl Tryz.underlying124 Tryz.sizeOf22 Tryz.isAgg22 rfl) ?_
  refine go 6 ?_
  refine Ya (Zr 7) fun bx_4 _=>?_
  refine Ya (Zr 8) fun bx_5 _=>?_
  refine go 6 ?_
  refine dt (d_suf (ii:=50) (i:=1) rfl rfl rfl rfl Zh Tryz.underlying22 Tryz.sizeOf3 rfl) ?_
  refine Zt (s_suf 50 9 (1) rfl rfl) ?_
  refine go 5 ?_
  refine lp (G:=Nat) [1,2,3,4,6,7,12,13,18,19] [0,5,6,1,2,3,4,50,9] (fun k=>[(20,.int .i64 (k:Int))]) (fun k=>[(7,box bx_4 93 (wc (fsS ((Yv i x y z).drop 1) k))),(8,box bx_5 93 (wc (slS ((Yv i x y z).drop 1) k)))]) (fun k=>k≤((Yv i x y z).drop 1).length) (fun k=>((Yv i x y z).drop 1).length-k) 0 O1 ⟨rfl,trivial⟩ ⟨rfl,rfl,trivial⟩ ?_
  rintro k hk
  refine go 6 ?_
  refine Zc rfl (fun h106=>?_) (fun h106=>?_)
  ·refine go 20 ⟨O2,O2,?_⟩
   refine Zc rfl (fun h107=>?_) (fun h107=>?_)
   ·refine go 2 ?_
    refine cl 9 [] (Zx (((Yv i x y z).drop 1).getD k 0) (Qy (Qz hc) k)) fun _ _=>?_
    refine go 3 ?_
    refine Nm [] [] ?_
    refine Zl (n:=8) [(1,0),(2,0),(3,0)] ?_
    refine go 4 ⟨O,?_⟩
    refine Qt (n:=7) 0 4 ?_ ?_
    ·refine Gi rfl (An (Zoz (i:=8) rfl rfl rfl Tryz.isAgg93 Tryz.sizeOf93 rfl rfl) rfl) (fun _ _=>?_)
     refine Zl (n:=0) [(4,1),(5,1),(6,1),(7,0),(8,0),(9,0),(10,1)] ?_
     refine Fi rfl (Xy (i:=10) (ivs:=[(0,_),(1,_)]) (enc:=Ym) ([((Yv i x y z).drop 1).getD k 0,(k:Int)+1]:List Int) rfl rfl ⟨rfl,rfl,rfl,rfl,trivial⟩ Tryz.underlying22 Tryz.ti3 rfl rfl rfl rfl rfl pZ.cells rfl rfl hw.h) (fun v _=>?_)
     refine Yu (Zg 10 [10] (Pk _ _ (fun a ha=>by simp only [List.mem_cons,List.not_mem_nil,or_false]at ha;rcases ha with rfl | rfl;exact Qy (Qz hc) k;exact⟨O,O⟩) O5)) fun _ _=>?_
     refine Yu (Zg 10 [] (Fb (slS ((Yv i x y z).drop 1) k) (Xu [((Yv i x y z).drop 1).getD k 0,(k:Int)+1]) (Nat.le_trans (Za8 (Qz hc) O) O3) (Ze8 (Qz hc) O))) fun _ _=>?_
     refine go 3 ?_
     refine Fi rfl (Zfe (i:=8) rfl rfl rfl rfl rfl rfl Tryz.sizeOf93 rfl rfl ⟨Zo rfl,Zo rfl,trivial⟩ rfl hw.h (fun _ h=>nomatch h)) (fun _ _=>?_)
     refine go 1 ?_
     refine Zu ?_
     refine go 6 ⟨O,?_⟩
     exact Xd (k+1) O1 O1 ⟨rfl,trivial⟩ ⟨by first | (obtain rfl:k=0:=O;rfl) | (rw [Zbx (show k≠0 by omega)];rfl),by rw [Zj2 (Qz hc) O];rfl,trivial⟩
    ·refine Gi rfl (Xy (i:=11) (ivs:=[(0,_),(1,_)]) (enc:=Ym) ([((Yv i x y z).drop 1).getD k 0,(k:Int)+1]:List Int) rfl rfl ⟨rfl,rfl,rfl,rfl,trivial⟩ Tryz.underlying22 Tryz.ti3 rfl rfl rfl rfl rfl pZ.cells rfl rfl hw.h) (fun v_2 _=>?_)
     refine Qt (n:=6) 0 5 ?_ ?_
     ·refine Gi rfl (An (Zoz (i:=8) rfl rfl rfl Tryz.isAgg93 Tryz.sizeOf93 rfl rfl) rfl) (fun _ _=>?_)
      refine Zl (n:=0) [(5,1),(6,1),(7,0),(8,0),(9,0),(10,1)] ?_
      refine Yu (Zg 11 [11] (Pk _ _ (fun a ha=>by simp only [List.mem_cons,List.not_mem_nil,or_false]at ha;rcases ha with rfl | rfl;exact Qy (Qz hc) k;exact⟨O,O⟩) O5)) fun _ _=>?_
      refine Yu (Zg 11 [] (Fb (slS ((Yv i x y z).drop 1) k) (Xu [((Yv i x y z).drop 1).getD k 0,(k:Int)+1]) (Nat.le_trans (Za8 (Qz hc) O) O3) (Ze8 (Qz hc) O))) fun _ _=>?_
      refine go 3 ?_
      refine Fi rfl (Zfe (i:=8) rfl rfl rfl rfl rfl rfl Tryz.sizeOf93 rfl rfl ⟨Zo rfl,Zo rfl,trivial⟩ rfl hw.h (fun _ h=>nomatch h)) (fun _ _=>?_)
      refine go 1 ?_
      refine Zu ?_
      refine go 6 ⟨O,?_⟩
      exact Xd (k+1) O1 O1 ⟨rfl,trivial⟩ ⟨by first | (obtain rfl:k=0:=O;rfl) | (rw [Zbx (show k≠0 by omega)];rfl),by rw [Zj2 (Qz hc) O];rfl,trivial⟩
     ·refine Mc (Zg 11 [11] (Pk _ _ (fun a ha=>by simp only [List.mem_cons,List.not_mem_nil,or_false]at ha;rcases ha with rfl | rfl;exact Qy (Qz hc) k;exact⟨O,O⟩) O5)) fun _ _=>?_
      refine Zl (n:=0) [(0,1),(6,1),(7,0),(8,0),(9,0),(10,1)] ?_
      refine go 1 ?_
      refine Yu (Zg 11 [] (Fb (slS ((Yv i x y z).drop 1) k) (Xu [((Yv i x y z).drop 1).getD k 0,(k:Int)+1]) (Nat.le_trans (Za8 (Qz hc) O) O3) (Ze8 (Qz hc) O))) fun _ _=>?_
      refine go 3 ?_
      refine Fi rfl (Zfe (i:=8) rfl rfl rfl rfl rfl rfl Tryz.sizeOf93 rfl rfl ⟨Zo rfl,Zo rfl,trivial⟩ rfl hw.h (fun _ h=>nomatch h)) (fun _ _=>?_)
      refine go 1 ?_
      refine Zu ?_
      refine go 6 ⟨O,?_⟩
      exact Xd (k+1) O1 O1 ⟨rfl,trivial⟩ ⟨by first | (obtain rfl:k=0:=O;rfl) | (rw [Zbx (show k≠0 by omega)];rfl),by rw [Zj2 (Qz hc) O];rfl,trivial⟩
   ·refine go 2 ?_
    refine Nm [] [] ?_
    refine Zl (n:=8) [(1,0),(2,0),(3,0)] ?_
    refine go 4 ⟨O,?_⟩
    refine Qt (n:=7) 0 4 ?_ ?_
    ·refine Gi rfl (An (Zoz (i:=8) rfl rfl rfl Tryz.isAgg93 Tryz.sizeOf93 rfl rfl) rfl) (fun _ _=>?_)
     refine Zl (n:=0) [(4,1),(5,1),(6,1),(7,0),(8,0),(9,0),(10,1)] ?_
     refine Fi rfl (Xy (i:=12) (ivs:=[(0,_),(1,_)]) (enc:=Ym) ([((Yv i x y z).drop 1).getD k 0,(k:Int)+1]:List Int) rfl rfl ⟨rfl,rfl,rfl,rfl,trivial⟩ Tryz.underlying22 Tryz.ti3 rfl rfl rfl rfl rfl pZ.cells rfl rfl hw.h) (fun v_3 _=>?_)
     refine Yu (Zg 12 [12] (Pk _ _ (fun a ha=>by simp only [List.mem_cons,List.not_mem_nil,or_false]at ha;rcases ha with rfl | rfl;exact Qy (Qz hc) k;exact⟨O,O⟩) O5)) fun _ _=>?_
     refine Yu (Zg 12 [] (Fb (slS ((Yv i x y z).drop 1) k) (Xu [((Yv i x y z).drop 1).getD k 0,(k:Int)+1]) (Nat.le_trans (Za8 (Qz hc) O) O3) (Ze8 (Qz hc) O))) fun _ _=>?_
     refine go 3 ?_
     refine Fi rfl (Zfe (i:=8) rfl rfl rfl rfl rfl rfl Tryz.sizeOf93 rfl rfl ⟨Zo rfl,Zo rfl,trivial⟩ rfl hw.h (fun _ h=>nomatch h)) (fun _ _=>?_)
     refine go 1 ?_
     refine Zu ?_
     refine go 6 ⟨O,?_⟩
     exact Xd (k+1) O1 O1 ⟨rfl,trivial⟩ ⟨by first | (obtain rfl:k=0:=O;rfl) | (rw [Zbx (show k≠0 by omega)];rfl),by rw [Zj2 (Qz hc) O];rfl,trivial⟩
    ·refine Gi rfl (Xy (i:=13) (ivs:=[(0,_),(1,_)]) (enc:=Ym) ([((Yv i x y z).drop 1).getD k 0,(k:Int)+1]:List Int) rfl rfl ⟨rfl,rfl,rfl,rfl,trivial⟩ Tryz.underlying22 Tryz.ti3 rfl rfl rfl rfl rfl pZ.cells rfl rfl hw.h) (fun v_4 _=>?_)
     refine Qt (n:=6) 0 5 ?_ ?_
     ·refine Gi rfl (An (Zoz (i:=8) rfl rfl rfl Tryz.isAgg93 Tryz.sizeOf93 rfl rfl) rfl) (fun _ _=>?_)
      refine Zl (n:=0) [(5,1),(6,1),(7,0),(8,0),(9,0),(10,1)] ?_
      refine Yu (Zg 13 [13] (Pk _ _ (fun a ha=>by simp only [List.mem_cons,List.not_mem_nil,or_false]at ha;rcases ha with rfl | rfl;exact Qy (Qz hc) k;exact⟨O,O⟩) O5)) fun _ _=>?_
      refine Yu (Zg 13 [] (Fb (slS ((Yv i x y z).drop 1) k) (Xu [((Yv i x y z).drop 1).getD k 0,(k:Int)+1]) (Nat.le_trans (Za8 (Qz hc) O) O3) (Ze8 (Qz hc) O))) fun _ _=>?_
      refine go 3 ?_
      refine Fi rfl (Zfe (i:=8) rfl rfl rfl rfl rfl rfl Tryz.sizeOf93 rfl rfl ⟨Zo rfl,Zo rfl,trivial⟩ rfl hw.h (fun _ h=>nomatch h)) (fun _ _=>?_)
      refine go 1 ?_
      refine Zu ?_
      refine go 6 ⟨O,?_⟩
      exact Xd (k+1) O1 O1 ⟨rfl,trivial⟩ ⟨by first | (obtain rfl:k=0:=O;rfl) | (rw [Zbx (show k≠0 by omega)];rfl),by rw [Zj2 (Qz hc) O];rfl,trivial⟩
     ·refine Mc (Zg 13 [13] (Pk _ _ (fun a ha=>by simp only [List.mem_cons,List.not_mem_nil,or_false]at ha;rcases ha with rfl | rfl;exact Qy (Qz hc) k;exact⟨O,O⟩) O5)) fun _ _=>?_
      refine Zl (n:=0) [(0,1),(6,1),(7,0),(8,0),(9,0),(10,1)] ?_
      refine go 1 ?_
      refine Yu (Zg 13 [] (Fb (slS ((Yv i x y z).drop 1) k) (Xu [((Yv i x y z).drop 1).getD k 0,(k:Int)+1]) (Nat.le_trans (Za8 (Qz hc) O) O3) (Ze8 (Qz hc) O))) fun _ _=>?_
      refine go 3 ?_
      refine Fi rfl (Zfe (i:=8) rfl rfl rfl rfl rfl rfl Tryz.sizeOf93 rfl rfl ⟨Zo rfl,Zo rfl,trivial⟩ rfl hw.h (fun _ h=>nomatch h)) (fun _ _=>?_)
      refine go 1 ?_
      refine Zu ?_
      refine go 6 ⟨O,?_⟩
      exact Xd (k+1) O1 O1 ⟨rfl,trivial⟩ ⟨by first | (obtain rfl:k=0:=O;rfl) | (rw [Zbx (show k≠0 by omega)];rfl),by rw [Zj2 (Qz hc) O];rfl,trivial⟩
  ·obtain rfl:k=((Yv i x y z).drop 1).length:=O
   refine go 14 ⟨O,?_⟩
   refine tt (Xy (i:=14) (ivs:=[(0,_),(1,_)]) (enc:=Ym) ([ov,to-fr]:List Int) rfl rfl ⟨rfl,rfl,rfl,rfl,trivial⟩ Tryz.underlying22 Tryz.ti3 rfl rfl rfl rfl rfl pZ.cells rfl rfl hw.h) (fun v_5 _=>?_)
   refine cl 14 [14] (Pk _ _ (in_pr hS) O5) fun _ _=>?_
   refine Ya (Zr 15) fun bx_6 _=>?_
   refine go 8 ?_
   refine cl 15 [] (Ek (bgS (Yv i x y z)) (Xu [ov,to-fr]) (Nat.le_trans (bl_fsS (Qz hc) _) O3) (Nat.le_trans p1 O3) p2) fun _ _=>?_
   refine go 3 ?_
   refine dt (Ie (i:=i) rfl rfl rfl Tryz.underlying130 Tryz.sizeOf129 rfl) ?_
   refine tt (Zwr (i:=5) (j:=i) (k:=4) (enc:=rq) (qr (bgS (Yv i x y z)) (Xu [ov,to-fr])) rfl rfl rfl rfl rfl pQ (by rw [Ag];omega) rfl hw.h trivial) (fun _ _=>?_)
   refine go 6 ?_
   refine cl 15 [] (Ek (enS (Yv i x y z)) (Xu [ov,to-fr]) (Nat.le_trans (Za8 (Qz hc) O) O3) (Nat.le_trans p1 O3) p2) fun _ _=>?_
   refine go 3 ?_
   refine dt (Ie (i:=i) rfl rfl rfl Tryz.underlying130 Tryz.sizeOf129 rfl) ?_
   refine tt (Zwr (i:=6) (j:=i) (k:=4) (enc:=rq) (qr (enS (Yv i x y z)) (Xu [ov,to-fr])) rfl rfl rfl rfl rfl pQ (by rw [Af];omega) rfl hw.h trivial) (fun _ _=>?_)
   refine go 7 ⟨O,?_⟩
   exact Xd (i+1) O1 O1 ⟨rfl,trivial⟩ ⟨rfl,rfl,trivial⟩
 ·obtain rfl:i=3:=O
  refine go 6 ?_
  refine Nm [6] [3] ?_
  refine Zl (n:=0) [(1,0),(0,1),(2,1),(3,3)] ?_
  refine Pf rfl rfl (stf (Ztl (i:=6) (enc:=rq) (l:=(eS ov (to-fr) x y z 3)) rfl rfl rfl pQ Tryz.isAgg130 Tryz.sizeOf130 (by rw [Af])) ⟨rfl,trivial⟩) ?_
  refine Fi rfl (An (Ztl (i:=5) (enc:=rq) (l:=(bS ov (to-fr) x y z 3)) rfl rfl rfl pQ Tryz.isAgg130 Tryz.sizeOf130 (by rw [Ag])) rfl) (fun _ _=>?_)
  refine Fi rfl (t_off 5 rfl rfl ⟨rfl,trivial⟩ (fun ob=>(Zi6 (i:=5) (enc:=rq) (l:=(bS ov (to-fr) x y z 3)) rfl rfl rfl rfl rfl pQ Tryz.sizeOf130 (by rw [Ag]) (by simp [Yb pQ.cells,Ag]) rfl hw.h ob))) (fun _ _=>?_)
  refine r3' rfl (Zi6 (i:=6) (enc:=rq) (l:=(eS ov (to-fr) x y z 3)) rfl rfl rfl rfl rfl pQ Tryz.sizeOf130 (by rw [Af]) (by simp [Yb pQ.cells,Af]) rfl hw.h trivial) (fun _ _=>?_)
  refine go 1 ?_
  refine Zu ?_
  refine go 2 ?_
  exact Zmo (.inl rfl) hsc () _ (fun a w hs=>Zxu hs Tryz.results75 (Ii (i:=5) (vs:=cellsOf rq (bS ov (to-fr) x y z 3)) rfl rfl Tryz.isAgg130 Tryz.sizeOf130 (by simp [Yb pQ.cells,Ag])) (Ii (i:=6) (vs:=cellsOf rq (eS ov (to-fr) x y z 3)) rfl rfl Tryz.isAgg130 Tryz.sizeOf130 (by simp [Yb pQ.cells,Af]))) rfl trivial rfl Za
theorem Zdx(fr to ov fr2 to2 ov2:Int)(vx vy vz vx2 vy2 vz2:Value)(x y z x2 y2 z2:List Int)(hS:Sgo fr to ov x y z)(hS2:Sgo fr2 to2 ov2 x2 y2 z2):Cal Tryz.prog 37 #[.agg #[.int .i64 fr,.int .i64 to,.int .i64 ov,vx,vy,vz],.agg #[.int .i64 fr2,.int .i64 to2,.int .i64 ov2,vx2,vy2,vz2]] [Yj 1 Ym vx x,Yj 1 Ym vy y,Yj 1 Ym vz z,Yj 1 Ym vx2 x2,Yj 1 Ym vy2 y2,Yj 1 Ym vz2 z2] false (G:=Unit) (fun _=>True) (fun _=> .bool (Zog fr to ov x y z fr2 to2 ov2 x2 y2 z2)) (fun _=>[]):=by
 refine Zd Tryz.func37 Tryz.ntmps37 fun w0 sc hw hsc=>?_
 refine go 2 ?_
 refine Ya (Ye 7) fun bx _=>?_
 refine Ya (Ye 8) fun bx_2 _=>?_
 refine go 6 ?_
 refine cl 8 [1,2,3] (Zjs _ _ _ _ _ _ _ _ _ hS) fun _ _=>?_
 refine go 3 ?_
 refine tt (Gt (i:=9) rfl rfl Tryz.zeroValue130 rfl rfl hw.h) (fun bx_3 _=>?_)
 refine tt (Gt (i:=10) rfl rfl Tryz.zeroValue130 rfl rfl hw.h) (fun bx_4 _=>?_)
 refine tt (Zi6 (i:=9) (enc:=rq) (l:=(bS ov (to-fr) x y z 3)) rfl rfl rfl rfl rfl pQ Tryz.sizeOf130 (by rw [Ag]) rfl rfl hw.h trivial) (fun _ _=>?_)
 refine tt (Zi6 (i:=10) (enc:=rq) (l:=(eS ov (to-fr) x y z 3)) rfl rfl rfl rfl rfl pQ Tryz.sizeOf130 (by rw [Af]) rfl rfl hw.h trivial) (fun _ _=>?_)
 refine go 5 ?_
 refine cl 10 [4,5,6] (Zjs _ _ _ _ _ _ _ _ _ hS2) fun _ _=>?_
 refine go 3 ?_
 refine tt (Gt (i:=11) rfl rfl Tryz.zeroValue130 rfl rfl hw.h) (fun bx_5 _=>?_)
 refine tt (Gt (i:=12) rfl rfl Tryz.zeroValue130 rfl rfl hw.h) (fun bx_6 _=>?_)
 refine tt (Zi6 (i:=11) (enc:=rq) (l:=(bS ov2 (to2-fr2) x2 y2 z2 3)) rfl rfl rfl rfl rfl pQ Tryz.sizeOf130 (by rw [Ag]) rfl rfl hw.h trivial) (fun _ _=>?_)
 refine tt (Zi6 (i:=12) (enc:=rq) (l:=(eS ov2 (to2-fr2) x2 y2 z2 3)) rfl rfl rfl rfl rfl pQ Tryz.sizeOf130 (by rw [Af]) rfl rfl hw.h trivial) (fun _ _=>?_)
 refine go 4 ?_
 refine dt (Ztl (i:=11) (enc:=rq) (l:=(bS ov2 (to2-fr2) x2 y2 z2 3)) rfl rfl rfl pQ Tryz.isAgg130 Tryz.sizeOf130 (by rw [Ag])) ?_
 refine dt (Ztl (i:=10) (enc:=rq) (l:=(eS ov (to-fr) x y z 3)) rfl rfl rfl pQ Tryz.isAgg130 Tryz.sizeOf130 (by rw [Af])) ?_
 refine dt (Zh9 (xs:=(cellsOf rq [qr (bgS x2) (Xu [ov2,to2-fr2]),qr (bgS y2) (Xu [ov2,to2-fr2]),qr (bgS z2) (Xu [ov2,to2-fr2])]).toArray) (ys:=(cellsOf rq [qr (enS x) (Xu [ov,to-fr]),qr (enS y) (Xu [ov,to-fr]),qr (enS z) (Xu [ov,to-fr])]).toArray) rfl rfl rfl eg130 (fun w=>eqlA w _ _ _ _ _ _)) ?_
 refine go 4 ?_
 exact Xi hsc () Tryz.results37 rfl trivial Za
theorem Zfq(fr to ov fr2 to2 ov2:Int)(vx vy vz vx2 vy2 vz2:Value)(x y z x2 y2 z2:List Int)(hfr:Xo fr)(hto:Xo to)(hov:Xo ov)(hx:∀a∈x,Xo a)(hy:∀a∈y,Xo a)(hz:∀a∈z,Xo a)(hfr2:Xo fr2)(hto2:Xo to2)(hov2:Xo ov2)(hx2:∀a∈x2,Xo a)(hy2:∀a∈y2,Xo a)(hz2:∀a∈z2,Xo a)(hb:Ir fr to ov x y z=true)(hb2:Ir fr2 to2 ov2 x2 y2 z2=true)(hm:to=fr2):Cal Tryz.prog 11 #[.agg #[.int .i64 fr,.int .i64 to,.int .i64 ov,vx,vy,vz],.agg #[.int .i64 fr2,.int .i64 to2,.int .i64 ov2,vx2,vy2,vz2]] [Yj 1 Ym vx x,Yj 1 Ym vy y,Yj 1 Ym vz z,Yj 1 Ym vx2 x2,Yj 1 Ym vy2 y2,Yj 1 Ym vz2 z2] false (G:=Unit) (fun _=>True) (fun _=> .tuple #[.bool (Zog fr to ov x y z fr2 to2 ov2 x2 y2 z2),.int .i64 0]) (fun _=>[]):=by
 refine Zd Tryz.func11 Tryz.ntmps11 fun w0 sc hw hsc=>?_
 refine go 2 ?_
 refine Ya (Ye 7) fun bx _=>?_
 refine Ya (Ye 8) fun bx_2 _=>?_
 refine go 9 ?_
 refine cl 8 [1,2,3] (Et _ _ _ _ _ _ _ _ _ hfr hto hov hx hy hz) fun _ _=>?_
 refine dt (Zv (r':= .bool false) (Xk rfl rfl) (congrArg Value.bool (by rw [hb];rfl))) ?_
 refine go 2 ?_
 refine Hc 8 [4,5,6] (Et _ _ _ _ _ _ _ _ _ hfr2 hto2 hov2 hx2 hy2 hz2) fun _ _=>?_
 refine Gh (Zv (r':= .bool false) (Xk rfl rfl) (congrArg Value.bool (by rw [hb2];rfl))) rfl rfl ?_
 refine kf O3 ?_
 refine go 10 ?_
 refine kf (decide_eq_false (fun h=>h hm)) ?_
 refine go 11 ?_
 refine cl 8 [1,2,3,4,5,6] (Zdx _ _ _ _ _ _ _ _ _ _ _ _ _ _ _ _ _ _ (Sgo.of hx hy hz hb) (Sgo.of hx2 hy2 hz2 hb2)) fun _ _=>?_
 refine go 5 ?_
 exact Mb hsc () Tryz.results11 rfl trivial Za
def plT(c:List Int)(a d:Int)(k:Nat):Int:=c.getD k 0*(a^k*d^(5-(k:Int)).toNat)
def plS(c:List Int)(a d:Int):Nat→Int
 | 0=>0
 | k+1=>plS c a d k+plT c a d k
def pl(c:List Int)(a d:Int):Int:=plS c a d c.length
def atS(a d:Int)(x y z:List Int):Nat→List Int
 | 0=>List.replicate 3 0
 | i+1=>(atS a d x y z i).set i (pl (Yv i x y z) a d)
def gS(ov a d:Int)(x y z:List Int):Nat→Int
 | 0=>ov*d^5
 | i+1=>(Int.gcd (gS ov a d x y z i) (pl (Yv i x y z) a d):Int)
abbrev plV (p q r o:Int):Value:= .agg #[.bool (decide (p<0)),.string (Xn p.natAbs),.bool (decide (q<0)),.string (Xn q.natAbs),.bool (decide (r<0)),.string (Xn r.natAbs),.bool (decide (o<0)),.string (Xn o.natAbs)]
theorem Fy(a d:Int)(x y z:List Int):∀i,(atS a d x y z i).length=3
 | 0=>rfl
 | i+1=>by show(List.set _ _ _).length=3;rw [List.length_set];exact Fy a d x y z i
theorem Yaz(a d:Int)(x y z:List Int){i:Nat}(h:i<3):atS a d x y z i=(atS a d x y z i).set i 0:=by
 match i,h with
 | 0,_=>rfl
 | 1,_=>rfl
 | 2,_=>rfl
theorem Znc{l:List Int}{i:Nat}(v:Int)(h:i<l.length):(l.set i v).getD i 0=v:=by
 rw [List.getD_eq_getElem?_getD,List.getElem?_set_self h];rfl
theorem Zsd{c:List Int}(h:∀x∈c,Xo x){a d:Int}(ha:0≤a∧a≤3600000)(hd:1≤d∧d≤3600000){k:Nat}(hk:k≤5):(a^k*d^(5-(k:Int)).toNat).natAbs≤3600000^5∧(plT c a d k).natAbs≤9223372036854775808*3600000^5:=by
 have h1:(a^k*d^(5-(k:Int)).toNat).natAbs≤3600000^5:=by
  rw [Int.natAbs_mul,Int.natAbs_pow,Int.natAbs_pow]
  refine Nat.le_trans (Nat.mul_le_mul (Nat.pow_le_pow_left (show a.natAbs≤3600000 by omega) k) (Nat.pow_le_pow_left (show d.natAbs≤3600000 by omega) _)) ?_
  rw [←Nat.pow_add,show k+(5-(k:Int)).toNat=5 by omega]
  exact Nat.le_refl _
 obtain⟨h2,h3⟩:=Qy h k
 refine⟨h1,?_⟩
 unfold plT
 rw [Int.natAbs_mul]
 exact Nat.mul_le_mul O h1
theorem Zse{c:List Int}(h:∀x∈c,Xo x){a d:Int}(ha:0≤a∧a≤3600000)(hd:1≤d∧d≤3600000):∀k,k≤6→(plS c a d k).natAbs≤k*(9223372036854775808*3600000^5)
 | 0,_=>by show(0:Int).natAbs≤_;decide
 | k+1,hk=>by
  have ih:=Zse h ha hd k O
  have:=(Zsd h ha hd (k:=k) O).2
  show(plS c a d k+plT c a d k).natAbs≤_
  rw [Nat.succ_mul];omega
theorem Ze9{c:List Int}(h:∀x∈c,Xo x){a d:Int}(ha:0≤a∧a≤3600000)(hd:1≤d∧d≤3600000){k:Nat}(hk:k≤6):bl (plS c a d k).natAbs≤180:=
 (Xt 180 _).2 (Nat.lt_of_le_of_lt (Zse h ha hd k hk) (Nat.lt_of_le_of_lt (Nat.mul_le_mul_right _ hk) O3))
theorem Yas{c:List Int}(h:∀x∈c,Xo x){a d:Int}(ha:0≤a∧a≤3600000)(hd:1≤d∧d≤3600000){k:Nat}(hk:k≤5):bl (a^k*d^(5-(k:Int)).toNat).natAbs≤180∧bl (plT c a d k).natAbs≤180:=by
 obtain⟨h1,h2⟩:=Zsd h ha hd hk
 exact⟨(Xt 180 _).2 (Nat.lt_of_le_of_lt h1 O3),(Xt 180 _).2 (Nat.lt_of_le_of_lt h2 O3)⟩
theorem Zq6{a:Int}(ha:0≤a∧a≤3600000){k:Nat}(hk:k≤5):bl (a^k).natAbs≤180:=by
 refine(Xt 180 _).2 ?_
 rw [Int.natAbs_pow]
 exact Nat.lt_of_le_of_lt (Nat.le_trans (Nat.pow_le_pow_left (show a.natAbs≤3600000 by omega) k) (Nat.pow_le_pow_right O3 hk)) O3
theorem Zzs{fr to ov:Int}{x y z:List Int}(h:Sgo fr to ov x y z){a d:Int}(ha:0≤a∧a≤3600000)(hd:1≤d∧d≤3600000):∀i,0<gS ov a d x y z i∧bl (gS ov a d x y z i).natAbs≤180
 | 0=>by
  have h1:=h.o1
  have h2:=h.o2
  refine⟨Int.mul_pos O (Int.pow_pos O),(Xt 180 _).2 ?_⟩
  show(ov*d^5).natAbs<_
  rw [Int.natAbs_mul,Int.natAbs_pow]
  exact Nat.lt_of_le_of_lt (Nat.mul_le_mul (show ov.natAbs≤4294967296 by omega) (Nat.pow_le_pow_left (show d.natAbs≤3600000 by omega) 5)) O3
 | i+1=>by
  obtain⟨h1,h2⟩:=Zzs h ha hd i
  have h3:0<Int.gcd (gS ov a d x y z i) (pl (Yv i x y z) a d):=Int.gcd_pos_of_ne_zero_left _ O
  have h4:=Zmd (gS ov a d x y z i) (pl (Yv i x y z) a d)
  have h5:bl (pl (Yv i x y z) a d).natAbs≤180:=Ze9 (h.hc i) ha hd (h.lc i).2
  show 0<((Int.gcd _ _:Nat):Int)∧bl ((Int.gcd _ _:Nat):Int).natAbs≤180
  exact⟨O,O⟩
theorem pG:Enc Tryz.prog 24 6 Cf:=Enc.agg O3 Tryz.sizeOf24 Tryz.isAgg24 (fun x=>⟨[.int .i64 x.1.1,.int .i64 x.1.2.1,.int .i64 x.1.2.2,Ph x.2.1.1,Ph x.2.2.1.1,Ph x.2.2.2.1],rfl,rfl,by simp [Value.oneCell']⟩)
theorem Zem(n k:Int)(hn:bl n.natAbs≤60)(h0:0≤k)(hk:k≤10):Cal Tryz.prog 150 #[.int .i64 n,.int .i64 k] [] false (G:=Unit) (fun _=>True) (fun _=>wv (n^k.toNat)) (fun _=>[]):=by
 have h:=Zw5 n k.toNat hn O
 rw [Int.toNat_of_nonneg h0]at h
 exact h
theorem Zm6(fr to ov:Int)(vx vy vz:Value)(x y z:List Int)(a d:Int)(hS:Sgo fr to ov x y z)(ha:0≤a∧a≤3600000)(hd:1≤d∧d≤3600000):Cal Tryz.prog 138 #[.agg #[.int .i64 fr,.int .i64 to,.int .i64 ov,vx,vy,vz],.int .i64 a,.int .i64 d] [Yj 1 Ym vx x,Yj 1 Ym vy y,Yj 1 Ym vz z] false (G:=Unit) (fun _=>True) (fun _=>plV (pl x a d/(gS ov a d x y z 3)) (pl y a d/(gS ov a d x y z 3)) (pl z a d/(gS ov a d x y z 3)) (ov*d^5/(gS ov a d x y z 3))) (fun _=>[]):=by
 refine Zd Tryz.func138 Tryz.ntmps138 fun w0 sc hw hsc=>?_
 have hba:bl a.natAbs≤60:=(Xt 60 _).2 O
 have hbd:bl d.natAbs≤60:=(Xt 60 _).2 O
 have ho1:=hS.o1
 have ho2:=hS.o2
 obtain⟨k1,k2⟩:=Zzs hS ha hd 0
 refine go 2 ?_
 refine Ya (Ye 4) fun bx _=>?_
 refine Ya (Zr 5) fun bx_2 _=>?_
 refine go 4 ?_
 refine Ya (Zr 6) fun bx_3 _=>?_
 refine go 6 ?_
 refine cl 6 [] (Zx ov ⟨O,O⟩) fun _ _=>?_
 refine go 1 ?_
 refine cl 6 [] (Zem d 5 hbd O3 O3) fun _ _=>?_
 refine cl 6 [] (Zen ov (d^5) (Nat.le_trans ((Xt 40 _).2 O) (by decide:40≤30000)) (Nat.le_trans (Zq6 (a:=d) ⟨O,O⟩ (k:=5) O3) O3)) fun _ _=>?_
 refine Ya (Zr 7) fun bx_4 _=>?_
 refine go 6 ?_
 refine Ya (Zr 8) fun bx_5 _=>?_
 refine go 7 ?_
 refine cl 8 [1,2,3] (Zrq _ _ _ _ _ _ _ _ _) fun _ _=>?_
 refine go 4 ?_
 refine Ze (He 6 (q:=box bx_3 227 (cellsOf wv (List.replicate 3 (0:Int))).toArray) (congrArg (box bx_3 227) (show _=(cellsOf wv (List.replicate 3 (0:Int))).toArray from rfl)) rfl rfl) ?_
 refine lp (G:=Nat) [1,2,6,7,8,9,22] [0,1,2,3,4,5,7] (fun i=>[(23,.int .i64 (i:Int))]) (fun i=>[(6,box bx_3 227 (cellsOf wv (atS a d x y z i)).toArray),(8,box bx_5 93 (wc (gS ov a d x y z i)))]) (fun i=>i≤3) (fun i=>3-i) 0 O1 ⟨rfl,trivial⟩ ⟨rfl,rfl,trivial⟩ ?_
 rintro i hi
 have hc:=hS.hc i
 have hlc:=hS.lc i
 obtain⟨g1,g2⟩:=Zzs hS ha hd i
 refine go 6 ?_
 refine Zc rfl (fun h103=>?_) (fun h103=>?_)
 ·refine go 5 ?_
  refine Ze (Zki i 1 2 3 50 rfl rfl rfl rfl rfl rfl) ?_
  refine go 2 ?_
  refine dt (Ztn (i:=i) rfl rfl rfl Tryz.underlying124 Tryz.sizeOf22 Tryz.isAgg22 rfl) ?_
  refine go 13 ?_
  refine lp (G:=Nat) [1,2,6,7,8,9,10,22,23,27,28] [0,8,1,2,3,4,5,7,50] (fun k=>[(29,.int .i64 (k:Int))]) (fun k=>[(6,box bx_3 227 (cellsOf wv ((atS a d x y z i).set i (plS (Yv i x y z) a d k))).toArray)]) (fun k=>k≤(Yv i x y z).length) (fun k=>(Yv i x y z).length-k) 0 O1 ⟨rfl,trivial⟩ ⟨by rw [show((atS a d x y z i).set i (plS (Yv i x y z) a d 0))=(atS a d x y z i)from(Yaz a d x y z O).symm];rfl,trivial⟩ ?_
  rintro k hk
  refine go 6 ?_
  refine Zc rfl (fun h104=>?_) (fun h104=>?_)
  ·refine go 13 ⟨O2,O2,?_⟩
   refine Qb (fun _=>False) [(0,0),(1,0),(2,0),(3,0),(4,0),(6,0),(7,0),(9,0),(10,0),(11,0),(5,1),(8,1),(12,1),(13,1),(14,1),(15,1),(16,0),(17,3)] ?_
   refine go 2 ?_
   refine Pf rfl rfl (Pn (Ie (i:=i) rfl rfl rfl Tryz.underlying227 Tryz.sizeOf93 rfl)) ?_
   refine Pf rfl rfl (Pn (Zv (r':=wv (plS (Yv i x y z) a d k)) (Zoy (i:=6) (enc:=wv) (j:=i) (l:=((atS a d x y z i).set i (plS (Yv i x y z) a d k))) 0 rfl rfl rfl pV (by rw [List.length_set,Fy];omega)) (congrArg wv (Znc _ (by rw [Fy];omega))))) ?_
   refine go 6 ⟨O,?_⟩
   refine Yu (Zg 8 [] (Zx ((Yv i x y z).getD k 0) (Qy hc k))) fun _ _=>?_
   refine Yu (Zg 8 [] (Zem a (k:Int) hba O O)) fun _ _=>?_
   refine Yu (Zg 8 [] (Zem d (5-(k:Int)) hbd O O)) fun _ _=>?_
   refine Yu (Zg 8 [] (Zen (a^k) (d^(5-(k:Int)).toNat) (Nat.le_trans (Zq6 ha O) O3) (Nat.le_trans (Zq6 (a:=d) ⟨O,O⟩ O) O3))) fun _ _=>?_
   refine Yu (Zg 8 [] (Zen ((Yv i x y z).getD k 0) (a^k*d^(5-(k:Int)).toNat) (Nat.le_trans (Ig (Qy hc k)) O3) (Nat.le_trans (Yas hc ha hd (k:=k) O).1 O3))) fun _ _=>?_
   refine Yu (Zg 8 [] (Zw7 (plS (Yv i x y z) a d k) (plT (Yv i x y z) a d k) (Nat.le_trans (Ze9 hc ha hd O) O3) (Nat.le_trans (Yas hc ha hd O).2 O3))) fun _ _=>?_
   refine Pf rfl rfl (Pn (Ie (i:=i) rfl rfl rfl Tryz.underlying227 Tryz.sizeOf93 rfl)) ?_
   refine r3' rfl (Zwr (i:=6) (j:=i) (k:=2) (enc:=wv) ((plS (Yv i x y z) a d k)+plT (Yv i x y z) a d k) rfl rfl rfl rfl rfl pV (by rw [List.length_set,Fy];omega) rfl hw.h trivial) (fun _ _=>?_)
   refine go 7 ⟨O,?_⟩
   exact Xd (k+1) O1 O1 ⟨rfl,trivial⟩ ⟨by rw [List.set_set];rfl,trivial⟩
  ·obtain rfl:k=(Yv i x y z).length:=O
   refine go 5 ?_
   refine Qb (fun _=>False) [(0,0),(1,0),(2,0),(3,0),(4,1),(5,3)] ?_
   refine go 2 ?_
   refine Pf rfl rfl (Pn (Ie (i:=i) rfl rfl rfl Tryz.underlying227 Tryz.sizeOf93 rfl)) ?_
   refine Pf rfl rfl (Pn (Zv (r':=wv (pl (Yv i x y z) a d)) (Zoy (i:=6) (enc:=wv) (j:=i) (l:=((atS a d x y z i).set i (pl (Yv i x y z) a d))) 0 rfl rfl rfl pV (by rw [List.length_set,Fy];omega)) (congrArg wv (Znc _ (by rw [Fy];omega))))) ?_
   refine Yu (Zg 8 [] (Zpt (gS ov a d x y z i) (pl (Yv i x y z) a d) (Nat.le_trans g2 O3) (Nat.le_trans (Ze9 hc ha hd hlc.2) O3))) fun _ _=>?_
   refine go 8 ⟨O,?_⟩
   exact Xd (i+1) O1 O1 ⟨rfl,trivial⟩ ⟨rfl,rfl,trivial⟩
 ·obtain rfl:i=3:=O
  refine go 6 ?_
  refine Qb (fun _=>False) [(0,0),(1,0),(2,0),(4,0),(5,0),(6,0),(8,0),(9,0),(10,0),(12,0),(13,0),(3,1),(7,1),(11,1),(14,1),(15,0),(16,3)] ?_
  refine Pf rfl rfl (Pn (Ie (i:=0) rfl rfl rfl Tryz.underlying227 Tryz.sizeOf93 rfl)) ?_
  refine Pf rfl rfl (Pn (Zv (r':=wv (pl x a d)) (Zoy (i:=6) (enc:=wv) (j:=0) (l:=(atS a d x y z 3)) 0 rfl rfl rfl pV (by rw [Fy];decide)) (congrArg wv rfl))) ?_
  refine go 1 ?_
  refine Pf rfl rfl (Pn (Ie (i:=1) rfl rfl rfl Tryz.underlying227 Tryz.sizeOf93 rfl)) ?_
  refine Pf rfl rfl (Pn (Zv (r':=wv (pl y a d)) (Zoy (i:=6) (enc:=wv) (j:=1) (l:=(atS a d x y z 3)) 0 rfl rfl rfl pV (by rw [Fy];decide)) (congrArg wv rfl))) ?_
  refine go 1 ?_
  refine Pf rfl rfl (Pn (Ie (i:=2) rfl rfl rfl Tryz.underlying227 Tryz.sizeOf93 rfl)) ?_
  refine Pf rfl rfl (Pn (Zv (r':=wv (pl z a d)) (Zoy (i:=6) (enc:=wv) (j:=2) (l:=(atS a d x y z 3)) 0 rfl rfl rfl pV (by rw [Fy];decide)) (congrArg wv rfl))) ?_
  refine go 3 ?_
  refine Yu (Zg 8 [] (Zkh (pl x a d) (gS ov a d x y z 3) (Nat.le_trans (Ze9 hS.hx ha hd hS.lx.2) O3) (Nat.le_trans g2 O3) O)) fun _ _=>?_
  refine Yu (Zg 8 [] (Zkh (pl y a d) (gS ov a d x y z 3) (Nat.le_trans (Ze9 hS.hy ha hd hS.ly.2) O3) (Nat.le_trans g2 O3) O)) fun _ _=>?_
  refine Yu (Zg 8 [] (Zkh (pl z a d) (gS ov a d x y z 3) (Nat.le_trans (Ze9 hS.hz ha hd hS.lz.2) O3) (Nat.le_trans g2 O3) O)) fun _ _=>?_
  refine Yu (Zg 8 [] (Zkh (ov*d^5) (gS ov a d x y z 3) (Nat.le_trans k2 O3) (Nat.le_trans g2 O3) O)) fun _ _=>?_
  refine Pf rfl rfl (Pn (Xs (ivs:=[(0,_),(1,_),(2,_),(3,_)]) rfl ⟨rfl,rfl,rfl,rfl,rfl,rfl,rfl,rfl,trivial⟩ (fun a w hs=>Zv9))) ?_
  refine go 4 ?_
  exact Xi hsc () Tryz.results138 rfl trivial Za
theorem eg151:Tryz.prog.eqGuardType Tryz.prog.depth 151=false:=O6
theorem eqlP(w:World)(p q r o p' q' r' o':Int):(binOp .eql 151 (plV p q r o) (plV p' q' r' o')).run Tryz.prog w= .ok (.bool (decide (p=p'∧q=q'∧r=r'∧o=o'))) w:=by
 have sh:Tryz.prog.stoodInHeld 151=false:=O6
 have hu:Tryz.prog.underlying 151=some (.struct (Tryz.prog.fieldsOf 151)):=by unfold Program.fieldsOf;rw [Tryz.underlying151]
 rw [run_eql_struct,run_equalIn_agg w 9999 151 _ _ hu sh]
 unfold Program.fieldsOf
 rw [Tryz.underlying151]
 simp [Op.eqFields,part,Tryz.isAgg93,Tryz.sizeOf93,Ydb,Zqq]
 by_cases h1:p=p'<;>by_cases h2:q=q'<;>by_cases h3:r=r'<;>by_cases h4:o=o'<;>simp_all
def sameP(ov a d:Int)(x y z:List Int)(ov2 a2 d2:Int)(x2 y2 z2:List Int):Bool:=
 decide (pl x a d/gS ov a d x y z 3=pl x2 a2 d2/gS ov2 a2 d2 x2 y2 z2 3∧pl y a d/gS ov a d x y z 3=pl y2 a2 d2/gS ov2 a2 d2 x2 y2 z2 3∧pl z a d/gS ov a d x y z 3=pl z2 a2 d2/gS ov2 a2 d2 x2 y2 z2 3∧ov*d^5/gS ov a d x y z 3=ov2*d2^5/gS ov2 a2 d2 x2 y2 z2 3)
def Zst(to ov:Int)(x y z:List Int)(fr2 ov2:Int)(x2 y2 z2:List Int):Bool:=decide (to=fr2) && sameP ov 1 1 x y z ov2 0 1 x2 y2 z2
structure Gin (g:Pv):Prop where
 f:Xo g.1.1
 t:Xo g.1.2.1
 o:Xo g.1.2.2
 x:∀a∈g.2.1.2,Xo a
 y:∀a∈g.2.2.1.2,Xo a
 z:∀a∈g.2.2.2.2,Xo a
def seB(g:Pv):Bool:=Ir g.1.1 g.1.2.1 g.1.2.2 g.2.1.2 g.2.2.1.2 g.2.2.2.2
def meG(g h:Pv):Bool:=Zst g.1.2.1 g.1.2.2 g.2.1.2 g.2.2.1.2 g.2.2.2.2 h.1.1 h.1.2.2 h.2.1.2 h.2.2.1.2 h.2.2.2.2
abbrev SgG (g:Pv):Prop:=Sgo g.1.1 g.1.2.1 g.1.2.2 g.2.1.2 g.2.2.1.2 g.2.2.2.2
theorem Zp0{g:Pv}(h:Gin g)(hb:seB g=true):SgG g:=Sgo.of h.x h.y h.z hb
def Zcl(ps:List Pv)(i:Nat):Bool:=seB (ps.getD i G0) && (decide (i=0) || meG (ps.getD (i-1) G0) (ps.getD i G0))
def Dq(ps:List Pv):Bool:=(List.range ps.length).all (Zcl ps) && decide (1≤ps.length) && decide (ps.length≤256)
theorem Zsm{ps:List Pv}{i:Nat}(h:Zcl ps i=true):seB (ps.getD i G0)=true:=by
 unfold Zcl at h;rw [Bool.and_eq_true]at h;exact h.1
theorem okAt_s{ps:List Pv}{i:Nat}(h:seB (ps.getD i G0)=false):Zcl ps i=false:=by unfold Zcl;rw [h];rfl
theorem okAt_0{ps:List Pv}{i:Nat}(h:seB (ps.getD i G0)=true)(h0:i=0):Zcl ps i=true:=by unfold Zcl;rw [h,decide_eq_true h0];rfl
theorem Zyn{ps:List Pv}{i:Nat}(h:seB (ps.getD i G0)=true)(h0:0<i):Zcl ps i=meG (ps.getD (i-1) G0) (ps.getD i G0):=by unfold Zcl;rw [h,decide_eq_false O];rfl
theorem Zsi{ps:List Pv}{i:Nat}(hi:i<ps.length)(h:Zcl ps i=false):Dq ps=false:=by
 unfold Dq
 have:(List.range ps.length).all (Zcl ps)=false:=by
  cases hb:(List.range ps.length).all (Zcl ps)with
  | false=>rfl
  | true=>have:=List.all_eq_true.1 hb i (List.mem_range.2 hi);rw [h]at this;cases this
 rw [this];rfl
theorem Zsj{ps:List Pv}(h:∀i,i<ps.length→Zcl ps i=true):Dq ps=decide (1≤ps.length∧ps.length≤256):=by
 unfold Dq
 rw [List.all_eq_true.2 fun i hi=>h i (List.mem_range.1 hi)]
 simp
theorem Zut(g:Pv)(i:Nat):seB g=false∨(seB g=true∧i=0)∨(seB g=true∧0<i):=by
 cases seB g
 ·exact .inl rfl
 ·exact .inr (by rcases Nat.eq_zero_or_pos i with h | h;exact .inl ⟨rfl,h⟩;exact .inr ⟨rfl,h⟩)
theorem Zu8{ps:List Pv}(h:Dq ps=true):(∀i,i<ps.length→Zcl ps i=true)∧1≤ps.length∧ps.length≤256:=by
 unfold Dq at h
 simp only [Bool.and_eq_true,decide_eq_true_eq]at h
 exact⟨fun i hi=>List.all_eq_true.1 h.1.1 i (List.mem_range.2 hi),h.1.2,h.2⟩
def litb(l:List Int):Bool:=(l.all fun x=>decide (-1000000≤x) && decide (x≤1000000)) && (decide (tzl l=l) && decide (l.length≤25))
instance eokDec:∀f a b,Decidable (eok f a b)
 | 0,_,b=>inferInstanceAs (Decidable (b=[]))
 | f+1,a,b=>@instDecidableOr _ _ _ (@instDecidableAnd _ _ _ (eokDec f b (Zz (Xx a b))))
def lessx(xs:List Int)(m:Int):List Int:=Dg xs (tzl [m])
def Zpi(xs:List Int)(m:Int):Prop:=∃x:Rat,0≤x∧x≤1∧Zb xs x<(m:Rat)
theorem Zvg{xs:List Int}{m n:Int}(h:Zpi xs m)(hmn:m≤n):Zpi xs n:=by
 obtain⟨x,a,b,c⟩:=h
 have:(m:Rat)≤(n:Rat):=by exact_mod_cast hmn
 exact⟨x,a,b,O4⟩
def lws:List Int→Int
 | []=>0
 | c :: p=>-(c.natAbs:Int)+lws p
theorem Zy1{n:Nat} : ∀p:List Int,(∀c∈p,c.natAbs≤n)→-((p.length*n:Nat):Int)≤lws p∧lws p≤0
 | [],_=>by show -((0*n:Nat):Int)≤0∧(0:Int)≤0;omega
 | c :: p,h=>by
  have h1:=Zy1 p fun d hd=>h d (List.mem_cons_of_mem _ hd)
  have h2:=h c List.mem_cons_self
  show -(((p.length+1)*n:Nat):Int)≤-(c.natAbs:Int)+lws p∧-(c.natAbs:Int)+lws p≤0
  rw [Nat.succ_mul];omega
theorem Zsu{x:Rat}(h0:0≤x)(h1:x≤1):∀p:List Int,((lws p:Int):Rat)≤Zb p x
 | []=>by show((0:Int):Rat)≤0;exact Rat.le_refl
 | c :: p=>by
  have ih:=Zsu h0 h1 p
  have hb:=(Zy1 (n:=p.foldl (fun m c=>max m c.natAbs) 0) p (fun c hc=>by
   have:∀(l:List Int) (a:Nat),(a≤l.foldl (fun m c=>max m c.natAbs) a)∧∀c∈l,c.natAbs≤l.foldl (fun m c=>max m c.natAbs) a:=fun l=>by
    induction l with
    | nil=>intro a;exact⟨Nat.le_refl _,fun c hc=>absurd hc O5⟩
    | cons d l ih=>
     intro a
     obtain⟨i1,i2⟩:=ih (max a d.natAbs)
     refine⟨Nat.le_trans (Nat.le_max_left _ _) i1,fun c hc=>?_⟩
     rcases List.mem_cons.1 hc with rfl | hc
     ·exact Nat.le_trans (Nat.le_max_right _ _) i1
     ·exact i2 c hc
   exact(this p 0).2 c hc)).2
  have hb':((lws p:Int):Rat)≤0:=by exact_mod_cast hb
  have hc:((-(c.natAbs:Int):Int):Rat)≤(c:Rat):=by exact_mod_cast (show -(c.natAbs:Int)≤c by omega)
  have hm:=Rat.mul_nonneg (show 0≤1-x by grind) (show 0≤-((lws p:Int):Rat) by grind)
  have hm2:=Rat.mul_nonneg h0 (show 0≤Zb p x-((lws p:Int):Rat) by grind)
  show((-(c.natAbs:Int)+lws p:Int):Rat)≤(c:Rat)+x*Zb p x
  push_cast at hc ⊢
  grind
theorem Zy4(xs:List Int):¬Zpi xs (lws xs):=by
 rintro⟨x,a,b,c⟩
 have:=Zsu a b xs;grind
theorem Ycb(xs:List Int):Zb xs 0=((cf xs 0:Int):Rat):=by
 cases xs with
 | nil=>rfl
 | cons c p=>show(c:Rat)+0*Zb p 0=(c:Rat);grind
theorem Zvh(xs:List Int):Zpi xs (cf xs 0+1):=by
 refine⟨0,O4,O3,?_⟩
 rw [Ycb]
 push_cast;grind
theorem Ycy{xs:List Int}{l h:Int}(h1:¬Zpi xs l)(h2:Zpi xs h):l<h:=by
 rcases Int.lt_or_le l h with q | q
 ·exact q
 ·exact absurd (Zvg h2 q) h1
theorem Zm0{xs:List Int}(hs:Sz 40 xs)(i:Nat):(cf xs i).natAbs<1099511627776:=(Xt 40 _).1 (hs i)
theorem Zy0{xs:List Int}(hs:Sz 40 xs)(hl:xs.length≤9)(i:Nat):-9895604649984≤lws (xs.take i)∧lws (xs.take i)≤0:=by
 obtain⟨h1,h2⟩:=Zy1 (n:=1099511627776) (xs.take i) fun c hc=>by
  obtain⟨k,hk,rfl⟩:=List.mem_iff_getElem.1 hc
  have h9:=Zm0 hs k
  rw [List.length_take]at hk
  have e:(xs.take i)[k]=cf xs k:=by rw [List.getElem_take];unfold cf;rw [List.getD_eq_getElem?_getD,List.getElem?_eq_getElem O];rfl
  rw [e];omega
 have h3:(xs.take i).length*1099511627776≤9*1099511627776:=Nat.mul_le_mul_right _ (by rw [List.length_take];omega)
 exact⟨O,h2⟩
structure FlI (xs:List Int) (lo hi:Int):Prop where
 l:¬Zpi xs lo
 h:Zpi xs hi
 b1:-17592186044416≤lo
 b2:hi≤17592186044416
theorem FlI.lt{xs:List Int}{lo hi:Int}(h:FlI xs lo hi):lo<hi:=Ycy h.l h.h
theorem FlI.start{xs:List Int}(hs:Sz 40 xs)(hl:xs.length≤9){i:Nat}(hi:xs.length≤i):FlI xs (lws (xs.take i)) (cf xs 0+1):=by
 have h1:=Zy0 hs hl i
 have h2:=Zm0 hs 0
 refine⟨by rw [List.take_of_length_le hi];exact Zy4 xs,Zvh xs,O,O⟩
structure Ef (a:R2):Prop where
 p:0<a.2
 b1:bl a.1.natAbs≤512
 b2:bl a.2.natAbs≤512
theorem E32.ef{a:R2}(h:E32 a):Ef a:=⟨h.p,Nat.le_trans h.b1 O3,Nat.le_trans h.b2 O3⟩
def plx(a b:R2):Int:=a.1*b.2
def ply(a b:R2):Int:=b.1*a.2
def pld(a b:R2):Int:=a.2*b.2
def plc(xs:List Int)(a b:R2):List Int:=pcompo xs (plx a b) (ply a b-plx a b) (pld a b)
def psum(c:List Int)(d j:Nat)(i:Nat):Int:=Yi (fun i=>cf c i*(Au (d-i) (j-i):Int)) i
def plainB(xs:List Int)(a b:R2):Bool:=if xs.length=0 then true else(List.range xs.length).all fun j=>decide (0≤psum (plc xs a b) (xs.length-1) j (min (j+1) (plc xs a b).length))
abbrev PTs:=Int×R2×R2
abbrev P0:PTs:=(0,(0,0),(0,0))
abbrev encP9 (z:PTs):Value:= .agg #[.int .i64 z.1,.bool (decide (z.2.1.1<0)),.string (Xn z.2.1.1.natAbs),.bool (decide (z.2.1.2<0)),.string (Xn z.2.1.2.natAbs),.bool (decide (z.2.2.1<0)),.string (Xn z.2.2.1.natAbs),.bool (decide (z.2.2.2<0)),.string (Xn z.2.2.2.natAbs)]
def shw(xs:List Int)(z:PTs):Bool:=if z.1=1 then plainB xs z.2.1 z.2.2 else if xs.length=0∨cmp z.2.1 z.2.2=0 then decide (0≤vlu (Pq xs) z.2.1)else decide (0<aft (Pq xs) z.2.1) && !crb (chx xs) z.2.1 z.2.2
def okpB(xs:List Int)(l:R2)(z:PTs):Bool:=decide (cmp l z.2.1=0) && decide (¬0<cmp z.2.1 z.2.2) && shw xs z
def lst(a:R2)(ps:List PTs)(i:Nat):R2:=if i=0 then a else(ps.getD (i-1) P0).2.2
def chkP(xs:List Int)(ps:List PTs)(a b:R2):Bool:=decide (0<ps.length) && (List.range ps.length).all (fun k=>okpB xs (lst a ps k) (ps.getD k P0)) && decide (cmp (lst a ps ps.length) b=0)
def ValP(ps:List PTs):Prop:=∀z∈ps,(z.1=1∨z.1=2)∧Ef z.2.1∧Ef z.2.2
theorem Ef.efit{a:R2}(h:Ef a):Go.Sky.efit a=true:=by
 have:=h.b1
 have:=h.b2
 unfold Go.Sky.efit;exact decide_eq_true O
theorem Yan{b:Bool}(h:(!b)=true):b=false:=by cases b<;>simp_all
theorem Yao{b:Bool}(h:(!b)=false):b=true:=by cases b<;>simp_all
theorem r2u {P:Program} {N:Nat} {sc:Nat→Prop} {env:Qu} {H:Hp} {M:Nat→Prop} {ops:Array Oper} {F:Qu→Hp→Prop} {rest:List (Nat×Nat)} {o:Oper} {i d j e:Nat} {b:Bool} (ho:ops[i]? = some o) (hg:o.guard=some (j,b)) (hj:(ops[j]?).bind (·.dst)=some e) (he:lk env e=some undef) (hd:o.dst=some d) 
  (h:LD P N sc M ops F rest ((d,undef) :: env) H) (hN:Nat.blt d N=true:=by rfl):LD P N sc M ops F ((i,2) :: rest) env H:=⟨o,d,ho,hd,hN,fun a w hsat=>by simp [Region.wanted,hg,hsat.yieldedu hj he],h⟩
theorem Zw6(fr to ov fr2 to2 ov2:Int)(vx vy vz vx2 vy2 vz2:Value)(x y z x2 y2 z2:List Int)(hS:Sgo fr to ov x y z)(hS2:Sgo fr2 to2 ov2 x2 y2 z2):Cal Tryz.prog 95 #[.agg #[.int .i64 fr,.int .i64 to,.int .i64 ov,vx,vy,vz],.agg #[.int .i64 fr2,.int .i64 to2,.int .i64 ov2,vx2,vy2,vz2]] [Yj 1 Ym vx x,Yj 1 Ym vy y,Yj 1 Ym vz z,Yj 1 Ym vx2 x2,Yj 1 Ym vy2 y2,Yj 1 Ym vz2 z2] false (G:=Unit) (fun _=>True) (fun _=> .bool (Zst to ov x y z fr2 ov2 x2 y2 z2)) (fun _=>[]):=by
 refine Zd Tryz.func95 Tryz.ntmps95 fun w0 sc hw hsc=>?_
 refine go 2 ?_
 refine Ya (Ye 7) fun bx _=>?_
 refine Ya (Ye 8) fun bx_2 _=>?_
 refine go 4 ?_
 rcases(show to=fr2∨to≠fr2 by omega)with hc1 | hc1
 ·refine Qb (fun _=>False) [(0,0),(1,0),(2,0),(3,0),(4,0),(5,0),(6,0),(8,0),(7,1),(9,1),(10,0),(11,0),(12,3)] ?_
  refine go 4 ?_
  refine Pf rfl rfl (Pn (Zv (r':= .bool true) (Yae rfl rfl rfl) (congrArg Value.bool (decide_eq_true hc1)))) ?_
  refine go 3 ?_
  refine Zku rfl rfl rfl rfl rfl (Pt (n:=8) (Zm6 _ _ _ _ _ _ _ _ _ 1 1 hS ⟨O3,O3⟩ ⟨O3,O3⟩) rfl rfl rfl ⟨rfl,rfl,rfl,trivial⟩ Tryz.call138 (Zk 1 rfl rfl rfl (Zk 2 rfl rfl rfl (Zk 3 rfl rfl rfl Zy))) rfl hw.h) (fun _ _=>?_)
  refine Zku rfl rfl rfl rfl rfl (Pt (n:=8) (Zm6 _ _ _ _ _ _ _ _ _ 0 1 hS2 ⟨O3,O3⟩ ⟨O3,O3⟩) rfl rfl rfl ⟨rfl,rfl,rfl,trivial⟩ Tryz.call138 (Zk 4 rfl rfl rfl (Zk 5 rfl rfl rfl (Zk 6 rfl rfl rfl Zy))) rfl hw.h) (fun _ _=>?_)
  refine r0g (Pn (Zh9 rfl rfl rfl eg151 (fun w=>eqlP w _ _ _ _ _ _ _ _))) rfl rfl rfl rfl rfl ?_
  refine go 5 ?_
  exact Xi hsc () Tryz.results95 (by unfold Zst;rw [decide_eq_true hc1];rfl) trivial Za
 ·refine Qb (fun _=>False) [(0,0),(1,0),(2,0),(3,0),(4,0),(5,0),(6,2),(8,2),(7,2),(9,2),(10,2),(11,0),(12,3)] ?_
  refine go 4 ?_
  refine Pf rfl rfl (Pn (Zv (r':= .bool false) (Yae rfl rfl rfl) (congrArg Value.bool (decide_eq_false hc1)))) ?_
  refine go 11 ?_
  exact Xi hsc () Tryz.results95 (by unfold Zst;rw [decide_eq_false hc1];rfl) trivial Za
theorem Zde(v:Value)(ps:List Pv)(hp:∀g∈ps,Gin g):Cal Tryz.prog 52 #[v] [Mm 6 Cf qG v ps] false (G:=Unit) (fun _=>True) (fun _=> .bool (Dq ps)) (fun _=>[]):=by
 refine Zd Tryz.func52 Tryz.ntmps52 fun w0 sc hw hsc=>?_
 refine On (Ic (i:=1) rfl Zp) (fun hlen=>?_)
 refine go 14 ?_
 refine lp (G:=Nat) [0,5,6] [0,1] (fun i=>[(7,.int .i64 (i:Int))]) (fun i=>[]) (fun i=>(i≤ps.length)∧(∀k,k<i→Zcl ps k=true)) (fun i=>ps.length-i) 0 ⟨O1,fun k hk=>absurd hk (Nat.not_lt_zero k)⟩ ⟨rfl,trivial⟩ trivial ?_
 rintro i ⟨hi,hk⟩
 refine go 6 ?_
 refine Zc rfl (fun h117=>?_) (fun h117=>?_)
 ·refine go 5 ?_
  have hg:=hp _ (Zi (d:=G0) (show i<ps.length by omega))
  refine Ze (Pd (g:=(ps.getD i G0)) (z:=(ps.getD i G0).2.1) 1 51 rfl rfl (Zi) O5) ?_
  refine Ze (Pd (g:=(ps.getD i G0)) (z:=(ps.getD i G0).2.2.1) 1 52 rfl rfl (Zi) O5) ?_
  refine Ze (Pd (g:=(ps.getD i G0)) (z:=(ps.getD i G0).2.2.2) 1 53 rfl rfl (Zi) O5) ?_
  refine go 3 ⟨O2,?_⟩
  refine dt (Od (ii:=1) G0 rfl rfl rfl Zp pG O2) ?_
  refine Ya (Zr 2) fun bx _=>?_
  refine go 5 ?_
  rcases Zut (ps.getD i G0) i with hc1 | ⟨hc1,hc2⟩ | ⟨hc1,hc2⟩
  ·refine Qb (fun _=>False) [(0,0),(1,1),(2,0),(3,0),(4,2),(5,2),(6,2),(7,2),(8,2),(9,2),(10,2),(11,2),(12,2),(13,2),(14,2),(15,2),(16,0)] ?_
   refine go 1 ?_
   refine Yu (Zg 2 [51,52,53] (Et _ _ _ _ _ _ _ _ _ hg.f hg.t hg.o hg.x hg.y hg.z)) fun _ _=>?_
   refine Pf rfl rfl (Pn (Zv (r':= .bool true) (Xk rfl rfl) (congrArg Value.bool (by rw [show Ir _ _ _ _ _ _=_ from hc1];rfl)))) ?_
   refine go 4 ?_
   refine r2u rfl rfl rfl rfl rfl ?_
   refine r2u rfl rfl rfl rfl rfl ?_
   refine r2u rfl rfl rfl rfl rfl ?_
   refine r2u rfl rfl rfl rfl rfl ?_
   refine r2u rfl rfl rfl rfl rfl ?_
   refine r2u rfl rfl rfl rfl rfl ?_
   refine r2u rfl rfl rfl rfl rfl ?_
   refine r2u rfl rfl rfl rfl rfl ?_
   refine go 16 ?_
   exact Xi hsc () Tryz.results52 (by rw [Zsi (i:=i) O (okAt_s hc1)]) trivial Za
  ·refine Qb (fun _=>False) [(0,0),(1,1),(2,0),(3,0),(4,0),(5,0),(6,0),(7,2),(8,2),(9,2),(10,2),(11,2),(12,2),(13,2),(14,2),(15,0),(16,0)] ?_
   refine go 1 ?_
   refine Yu (Zg 2 [51,52,53] (Et _ _ _ _ _ _ _ _ _ hg.f hg.t hg.o hg.x hg.y hg.z)) fun _ _=>?_
   refine Pf rfl rfl (Pn (Zv (r':= .bool false) (Xk rfl rfl) (congrArg Value.bool (by rw [show Ir _ _ _ _ _ _=_ from hc1];rfl)))) ?_
   refine go 2 ?_
   refine r0g (Pn (Zv (r':= .bool false) (Zj1 rfl rfl rfl) (congrArg Value.bool (decide_eq_false O)))) rfl rfl rfl rfl rfl ?_
   refine go 21 ⟨O,?_⟩
   exact Xd (i+1) ⟨O1,fun k h9=>by rcases Nat.lt_succ_iff_lt_or_eq.1 h9 with h8 | h8;exact hk k h8;subst h8;exact okAt_0 hc1 hc2⟩ O1 ⟨rfl,trivial⟩ trivial
  ·refine Ze (Pd (g:=(ps.getD (i-1) G0)) (z:=(ps.getD (i-1) G0).2.1) 1 54 rfl rfl (Zi) O5) ?_
   refine Ze (Pd (g:=(ps.getD (i-1) G0)) (z:=(ps.getD (i-1) G0).2.2.1) 1 55 rfl rfl (Zi) O5) ?_
   refine Ze (Pd (g:=(ps.getD (i-1) G0)) (z:=(ps.getD (i-1) G0).2.2.2) 1 56 rfl rfl (Zi) O5) ?_
   refine Qb (fun _=>False) [(0,0),(1,1),(2,0),(3,0),(4,0),(5,0),(6,0),(7,0),(8,0),(9,0),(10,0),(11,0),(12,0),(13,1),(14,0),(15,0),(16,0)] ?_
   refine go 1 ?_
   refine Yu (Zg 2 [51,52,53] (Et _ _ _ _ _ _ _ _ _ hg.f hg.t hg.o hg.x hg.y hg.z)) fun _ _=>?_
   refine Pf rfl rfl (Pn (Zv (r':= .bool false) (Xk rfl rfl) (congrArg Value.bool (by rw [show Ir _ _ _ _ _ _=_ from hc1];rfl)))) ?_
   refine go 2 ?_
   refine r0g (Pn (Zv (r':= .bool true) (Zj1 rfl rfl rfl) (congrArg Value.bool (decide_eq_true O)))) rfl rfl rfl rfl rfl ?_
   refine go 4 ⟨O,?_⟩
   refine r0g (Pn (Yp (ii:=1) (i:=(i-1)) rfl rfl rfl rfl Zp Tryz.underlying29 Tryz.sizeOf24)) rfl rfl rfl rfl rfl ?_
   refine r0g (Pn (Od (ii:=1) G0 rfl rfl rfl Zp pG)) rfl rfl rfl rfl rfl ?_
   refine go 1 ?_
   refine Zku rfl rfl rfl rfl rfl (Pt (n:=2) (Zw6 _ _ _ _ _ _ _ _ _ _ _ _ _ _ _ _ _ _ (Zp0 (hp _ (Zi)) (Zsm (hk (i-1) O))) (Zp0 hg hc1)) rfl rfl rfl ⟨rfl,rfl,trivial⟩ Tryz.call95 (Zk 54 rfl rfl rfl (Zk 55 rfl rfl rfl (Zk 56 rfl rfl rfl (Zk 51 rfl rfl rfl (Zk 52 rfl rfl rfl (Zk 53 rfl rfl rfl Zy)))))) rfl hw.h) (fun _ _=>?_)
   refine go 5 ?_
   refine Nn rfl (fun h118=>?_) (fun h118=>?_)
   ·refine go 11 ?_
    exact Xi hsc () Tryz.results52 (by rw [Zsi (i:=i) O ((Zyn hc1 hc2).trans (Yan ‹_›))]) trivial Za
   ·refine go 7 ⟨O,?_⟩
    exact Xd (i+1) ⟨O1,fun k h9=>by rcases Nat.lt_succ_iff_lt_or_eq.1 h9 with h8 | h8;exact hk k h8;subst h8;exact(Zyn hc1 hc2).trans (Yao ‹_›)⟩ O1 ⟨rfl,trivial⟩ trivial
 ·obtain rfl:i=ps.length:=O
  refine go 11 ?_
  refine Yq (d:=33) rfl (fun s122=>?_) (fun s122=>?_)
  ·refine go 8 ?_
   exact Xi hsc () Tryz.results52 (by rw [Zsj hk];first | exact congrArg Value.bool (decide_eq_decide.2 O) | exact congrArg Value.bool (decide_eq_false O)) trivial Za
  ·refine go 8 ?_
   exact Xi hsc () Tryz.results52 (by rw [Zsj hk];first | exact congrArg Value.bool (decide_eq_decide.2 O) | exact congrArg Value.bool (decide_eq_false O)) trivial Za
abbrev Bb (o:Nat) (m:Int) (g:Pv):List Int:=Fh o m g.1.2.2 (g.1.2.1-g.1.1) g.2.1.2 g.2.2.1.2 g.2.2.2.2
def Zhz(o:Nat)(ps:List Pv)(m:Int):Bool:=ps.all fun g=>!Zcm (Bb o m g)
theorem Yc7{o:Nat}{ps:List Pv}{m:Int}{i:Nat}(hi:i<ps.length)(h:Zcm (Bb o m (ps.getD i G0))=true):Zhz o ps m=false:=by
 cases hb:Zhz o ps m with
 | false=>rfl
 | true=>
  have:=List.all_eq_true.1 hb _ (Zi (d:=G0) hi)
  rw [h]at this;cases this
theorem Yc6{o:Nat}{ps:List Pv}{m:Int}(h:∀i,i<ps.length→Zcm (Bb o m (ps.getD i G0))=false):Zhz o ps m=true:=by
 unfold Zhz
 rw [List.all_eq_true]
 intro g hg
 obtain⟨i,hi,rfl⟩:=List.mem_iff_getElem.1 hg
 have:=h i hi
 rw [List.getD_eq_getElem?_getD,List.getElem?_eq_getElem hi]at this
 simp only [Option.getD_some]at this
 rw [this];rfl
def Zfu(p:Nat→Bool):Nat→Nat→Nat→Nat
 | 0,i,_=>i
 | f+1,i,j=>if i<j then(if p ((i+j)/2)then Zfu p f i ((i+j)/2)else Zfu p f ((i+j)/2+1) j)else i
theorem Zuo{p:Nat→Bool}{f:Nat}{i j:Nat}(h:¬i<j):Zfu p f i j=i:=by
 cases f with
 | zero=>rfl
 | succ f=>unfold Zfu;rw [if_neg h]
theorem srch_t{p:Nat→Bool}{f:Nat}{i j:Nat}(h:i<j)(hp:p ((i+j)/2)=true):Zfu p (f+1) i j=Zfu p f i ((i+j)/2):=by
 conv=>lhs;unfold Zfu
 rw [if_pos h,if_pos hp]
theorem srch_f{p:Nat→Bool}{f:Nat}{i j:Nat}(h:i<j)(hp:p ((i+j)/2)=false):Zfu p (f+1) i j=Zfu p f ((i+j)/2+1) j:=by
 conv=>lhs;unfold Zfu
 rw [if_pos h,if_neg (by rw [hp];exact Bool.false_ne_true)]
theorem sr_pos{i j f:Nat}(h:i<j)(hf:j-i<2^f):∃g,f=g+1∧2^(g+1)=2*2^g:=by
 cases f with
 | zero=>rw [Nat.pow_zero]at hf;omega
 | succ g=>exact⟨g,rfl,by rw [Nat.pow_succ,Nat.mul_comm]⟩
def Zda(o:Nat)(ps:List Pv):Nat:=Zfu (fun n=>Zhz o ps (n:Int)) 14 0 10001
theorem Zzd(v:Value)(ps:List Pv)(o:Nat)(mm kd m:Int)(ho:o=1∨o=2)(hg:∀g∈ps,SgG g)(h0:0≤m)(h1:m≤10000):Cal Tryz.prog 58 #[.agg #[v,.int .i64 (o:Int),.int .i64 mm,.int .i64 kd],.int .i64 m] [Mm 6 Cf qG v ps] false (G:=Unit) (fun _=>True) (fun _=> .bool (Zhz o ps m)) (fun _=>[]):=by
 refine Zd Tryz.func58 Tryz.ntmps58 fun w0 sc hw hsc=>?_
 refine On (Ic (i:=1) rfl Zp) (fun hlen=>?_)
 refine go 2 ?_
 refine Ya (Ye 2) fun bx _=>?_
 refine go 13 ?_
 refine lp (G:=Nat) [1,2,8,9] [0,1,2] (fun i=>[(10,.int .i64 (i:Int))]) (fun i=>[]) (fun i=>(i≤ps.length)∧(∀k,k<i→Zcm (Bb o m (ps.getD k G0))=false)) (fun i=>ps.length-i) 0 ⟨O1,fun k hk=>absurd hk (Nat.not_lt_zero k)⟩ ⟨rfl,trivial⟩ trivial ?_
 rintro i ⟨hi,hk⟩
 refine go 6 ?_
 refine Zc rfl (fun h179=>?_) (fun h179=>?_)
 ·refine go 5 ?_
  have hgi:=hg _ (Zi (d:=G0) (show i<ps.length by omega))
  refine Ze (Pd (g:=(ps.getD i G0)) (z:=(ps.getD i G0).2.1) 1 51 rfl rfl (Zi) O5) ?_
  refine Ze (Pd (g:=(ps.getD i G0)) (z:=(ps.getD i G0).2.2.1) 1 52 rfl rfl (Zi) O5) ?_
  refine Ze (Pd (g:=(ps.getD i G0)) (z:=(ps.getD i G0).2.2.2) 1 53 rfl rfl (Zi) O5) ?_
  refine go 2 ⟨O2,?_⟩
  refine dt (Od (ii:=1) G0 rfl rfl rfl Zp pG O2) ?_
  refine Ya (Zr 3) fun bx_2 _=>?_
  refine go 9 ?_
  refine cl 4 [51,52,53] (Zbs o _ _ _ _ _ _ _ _ _ _ _ _ ho hgi h0 h1) fun v _=>?_
  refine cl 4 [4] (Zhr _ _ (Nv hgi h0 h1 ho).2.2) fun _ _=>?_
  refine go 2 ?_
  refine Nn rfl (fun h180=>?_) (fun h180=>?_)
  ·refine go 11 ?_
   exact Xi hsc () Tryz.results58 (by rw [Yc7 (i:=i) O (by simp_all)]) trivial Za
  ·refine go 7 ⟨O,?_⟩
   exact Xd (i+1) ⟨O1,fun k h9=>by rcases Nat.lt_succ_iff_lt_or_eq.1 h9 with h8 | h8;exact hk k h8;subst h8;simp_all⟩ O1 ⟨rfl,trivial⟩ trivial
 ·obtain rfl:i=ps.length:=O
  refine go 11 ?_
  exact Xi hsc () Tryz.results58 (by rw [Yc6 hk]) trivial Za
theorem Zfh(v:Value)(ps:List Pv)(o:Nat)(mm kd:Int)(ho:o=1∨o=2)(hg:∀g∈ps,SgG g):Cal Tryz.prog 57 #[.int .i64 10001,.func (.func 58) #[.agg #[v,.int .i64 (o:Int),.int .i64 mm,.int .i64 kd]] #[]] [Mm 6 Cf qG v ps] false (G:=Unit) (fun _=>True) (fun _=> .int .i64 (Zda o ps:Int)) (fun _=>[]):=by
 refine Zd Tryz.func57 Tryz.ntmps57 fun w0 sc hw hsc=>?_
 refine go 14 ?_
 refine lp (G:=Nat×Nat×Nat) [1] [0,1] (fun q=>[(5,.int .i64 (q.1:Int)),(6,.int .i64 (q.2.1:Int))]) (fun q=>[]) (fun q=>(q.1≤q.2.1∧q.2.1≤10001)∧(q.2.1-q.1<2^q.2.2)∧(Zfu (fun n=>Zhz o ps (n:Int)) q.2.2 q.1 q.2.1=Zda o ps)) (fun q=>q.2.1-q.1) (0,10001,14) ⟨⟨O3,O3⟩,O3,rfl⟩ ⟨rfl,rfl,trivial⟩ trivial ?_
 rintro⟨i,j,f⟩ ⟨hij,hf,hs⟩
 dsimp only at hij hf hs
 dsimp only
 refine go 8 ?_
 refine Zc rfl (fun h62=>?_) (fun h62=>?_)
 ·have hlt:i<j:=O
  obtain⟨f9,rfl,hpw⟩:=sr_pos hlt hf
  refine go 7 ?_
  refine dt (Zv (r':= .int .i64 ((i+j:Nat):Int)) (Yag rfl rfl rfl) (by rw [Int.natCast_add])) ?_
  refine dt (Zqy rfl rfl Tryz.underlying3 Tryz.underlying155 (by simp only [U];omega)) ?_
  refine dt (Ip (n:=1) (n':=2) rfl rfl rfl rfl rfl) ?_
  refine dt (Ak rfl rfl Tryz.underlying155 Tryz.underlying3 ⟨O,O⟩) ?_
  refine go 7 ?_
  refine tt (Ybr (n:=1) (fs:=[_]) (vs:=[_]) (us:=[]) (Zzd v ps o mm kd (((i+j)/2):Nat) ho hg O O) rfl rfl rfl rfl ⟨rfl,trivial⟩ Tryz.call58 (Zk 1 rfl rfl rfl Zy) rfl hw.h) (fun _ _=>?_)
  refine go 3 ?_
  refine Nn rfl (fun h65=>?_) (fun h65=>?_)
  ·refine go 6 ⟨O,?_⟩
   exact Xd (((i+j)/2)+1,j,f9) ⟨⟨O9,O9⟩,O9,by dsimp only;rw [←hs];exact(srch_f hlt (by simp_all)).symm⟩ O9 ⟨rfl,rfl,trivial⟩ trivial
  ·refine go 5 ?_
   exact Xd (i,(i+j)/2,f9) ⟨⟨O9,O9⟩,O9,by dsimp only;rw [←hs];exact(srch_t hlt (by simp_all)).symm⟩ O9 ⟨rfl,rfl,trivial⟩ trivial
 ·have hge:¬i<j:=O
  refine go 12 ?_
  exact Xi hsc () Tryz.results57 (by rw [←hs,Zuo hge]) trivial Za
def joG(g h:Pv):Bool:=Zog g.1.1 g.1.2.1 g.1.2.2 g.2.1.2 g.2.2.1.2 g.2.2.2.2 h.1.1 h.1.2.1 h.1.2.2 h.2.1.2 h.2.2.1.2 h.2.2.2.2
def Zh0(ps:List Pv):Bool:=(List.range ps.length).all fun i=>decide (i=0) || joG (ps.getD (i-1) G0) (ps.getD i G0)
theorem Yc8{ps:List Pv}(h:∀k,1≤k→k<ps.length→joG (ps.getD (k-1) G0) (ps.getD k G0)=true):Zh0 ps=true:=by
 unfold Zh0
 rw [List.all_eq_true]
 intro i hi
 have hi:=List.mem_range.1 hi
 rcases Nat.eq_zero_or_pos i with h0 | h0
 ·rw [decide_eq_true h0];rfl
 ·rw [h i h0 hi,Bool.or_true]
theorem Yc9{ps:List Pv}{k:Nat}(h1:1≤k)(h2:k<ps.length)(h:joG (ps.getD (k-1) G0) (ps.getD k G0)=false):Zh0 ps=false:=by
 cases hb:Zh0 ps with
 | false=>rfl
 | true=>
  have:=List.all_eq_true.1 hb k (List.mem_range.2 h2)
  rw [h,decide_eq_false O]at this
  cases this
def Zc9(ps:List Pv):Int×Int×Int:=
 if 10000<Zda 1 ps∨10000<Zda 2 ps then(0,0,3)else if Zh0 ps then((Zda 1 ps:Int),(Zda 2 ps:Int),0)else(0,0,10)
theorem Zwn{ps:List Pv}(h:10000<Zda 1 ps∨10000<Zda 2 ps):Zc9 ps=(0,0,3):=if_pos h
theorem Ybn{ps:List Pv}(h:¬10000<Zda 1 ps)(h2:¬10000<Zda 2 ps)(h3:Zh0 ps=false):Zc9 ps=(0,0,10):=by
 unfold Zc9;rw [if_neg O,h3];rfl
theorem topV_0{ps:List Pv}(h:¬10000<Zda 1 ps)(h2:¬10000<Zda 2 ps)(h3:Zh0 ps=true):Zc9 ps=((Zda 1 ps:Int),(Zda 2 ps:Int),0):=by
 unfold Zc9;rw [if_neg O,h3];rfl
theorem Zsh{ps:List Pv}(hp:∀g∈ps,Gin g)(hb:Dq ps=true):∀g∈ps,SgG g:=fun g hg=>by
 obtain⟨i,hi,e⟩:=List.mem_iff_getElem.1 hg
 have h1:=Zsm ((Zu8 hb).1 i hi)
 rw [List.getD_eq_getElem?_getD,List.getElem?_eq_getElem hi,Option.getD_some,e]at h1
 exact Zp0 (hp g hg) h1
end Go.Sky

