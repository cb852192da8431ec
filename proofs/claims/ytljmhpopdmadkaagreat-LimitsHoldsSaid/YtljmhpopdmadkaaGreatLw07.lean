/- Rules, arithmetic and contracts: part 8. No conditions but those that each theorem names. -/
import Derived.Test.YtljmhpopdmadkaaGreatLw06
set_option linter.all false
namespace Go.Sky
theorem Zzh{xs:List Int}(h:Cvd xs)(h0:xs≠[]):Ix xs=Eu 13 xs.length (Yt xs):=by
 have hD:=Dp.start h.v.tr h0
 have hl:=h.l
 have hok:=(hD.ok h.v.tr h0 h.s O O (show xs.length≤13+1 by omega)).2
 unfold Ix
 rw [Yia h.v.tr h0 h.s O O O xs.length [1] (Yt xs) (.inr (show cf [1] 0≠0 by decide)) hD (by rw [Qr h.v.tr];exact Nat.le_refl _),Yh2 (Znw (p:=xs) hD.1 hD.2.1 hok)]
theorem Ze0{xs:List Int}(h:Cvd xs)(h0:xs≠[]):Odp 13 185 xs (Ix xs)∧Vp (Ix xs)∧Sz 315 (Ix xs)∧(Ix xs).length≤xs.length∧Br (Ix xs):=by
 have hD:=Dp.start h.v.tr h0
 have hl:=h.l
 have hok:=(hD.ok h.v.tr h0 h.s O O (show xs.length≤13+1 by omega)).2
 have he:=Zzh h h0
 have ht:Tr (Ix xs):=by rw [he];exact Znw (p:=xs) hD.1 hD.2.1 hok
 obtain⟨⟨B,hB⟩,-⟩:=Gi h.v.tr h0 h.s O O (show xs.length≤13+1 by omega) xs.length (Yt xs) hD (by rw [Qr h.v.tr];exact Nat.le_refl _)
 rw [←he]at hB
 have e:Yt xs=Xm (Xm B B) (Ix xs):=hD.1.ext (Xq _ _) fun i=>Od (fun x=>by rw [hB x,Zv,Zv];grind) i
 obtain⟨s1,s2,s3⟩:=Zub h.v.tr h0 h.s O (Xq _ _) ht e
 have hC:=(chG 13 ht s3 s1 O O O).1
 refine⟨⟨h.v.tr,h0,h.s,O,O,O,he,ht,s3,hC⟩,⟨s1.mono O,ht,O⟩,s1,s2,.inr ?_⟩
 have m1:=Qz s1
 have g1:((Ix xs).length+2)*((Ix xs).length+2)≤11*11:=Nat.mul_le_mul O O
 have g2:((Ix xs).length+2)*((Ix xs).length+2)*(Qh (Ix xs)+16)≤11*11*331:=Nat.mul_le_mul g1 O
 omega
def chx(xs:List Int):List (List Int):=if xs.length=0 then []else chn 13 (Ix xs)
def Py(xs:List Int):List (List Int):=Zdz xs.length xs
theorem Zrx:∀(n k:Nat) (p:List Int),Tr p→p.length≤25→Sz k p→∀q∈Zdz n p,Tr q∧q.length≤p.length∧Sz (k+5*n) q
 | 0,_,_,_,_,_,q,hq=>absurd hq (by simp [Zdz])
 | n+1,k,p,ht,hl,hs,q,hq=>by
  unfold Zdz at hq
  by_cases h0:p.length=0
  ·rw [if_pos h0]at hq;exact absurd hq O5
  ·rw [if_neg h0]at hq
   rcases List.mem_cons.1 hq with rfl | hq
   ·exact⟨ht,Nat.le_refl _,hs.mono O⟩
   ·have ld':=Oi p
    obtain⟨a1,a2,a3⟩:=Zrx n (k+5) (Yo p) (Oq ht) O (Ca hs hl) q hq
    exact⟨a1,O,a3.mono O⟩
theorem Fv{xs:List Int}(h:Cvd xs):∀q∈Py xs,Vp q∧Qh q≤11400∧q.length≤9:=fun q hq=>by
 have hl:=h.l
 obtain⟨a1,a2,a3⟩:=Zrx xs.length 185 xs h.v.tr O h.s q hq
 have:=Qz a3
 exact⟨⟨a3.mono O,a1,O⟩,O,O⟩
theorem Zfp{xs:List Int}(h:Cvd xs):∀q∈chx xs,Vp q∧Qh q≤11400∧q.length≤9:=fun q hq=>by
 have hl:=h.l
 unfold chx at hq
 by_cases h0:xs.length=0
 ·rw [if_pos h0]at hq;exact absurd hq O5
 ·rw [if_neg h0]at hq
  have h0':xs≠[]:=fun e=>h0 (by rw [e];rfl)
  obtain⟨a1,a2,a3,a4,a5⟩:=Ze0 h h0'
  obtain⟨b1,b2,b3,b4⟩:=chG 13 a1.otr a1.one a3 O O (show(Ix xs).length≤13+1 by omega)
  exact⟨vp_chn a2 a1.one b1 q hq,(b4 q hq).1,by have:=(b4 q hq).2;omega⟩
theorem Zpa(xs:List Int):(chx xs).length≤1000:=by
 unfold chx
 split
 ·exact Nat.zero_le _
 ·have:=Zc9 13 (sqf 13 (Ix xs)) (Zu (Yo (sqf 13 (Ix xs))));unfold chn;omega
theorem Zp8{p:List Int}{m:R2}(h1:Qh p≤11400)(h2:p.length≤9)(a:bl m.1.natAbs≤5700)(b:bl m.2.natAbs≤5700):¬Lg p m.1 m.2:=fun hF=>by
 have h3:Qh [m.1,m.2]≤5700:=by show max (bl m.1.natAbs) (max (bl m.2.natAbs) 0)≤5700;omega
 have h4:(p.length-1)*Qh [m.1,m.2]≤8*5700:=Nat.mul_le_mul O h3
 have:=hF.2
 omega
theorem Zby{xs:List Int}(h:Cvd xs){m:R2}(a:bl m.1.natAbs≤5700)(b:bl m.2.natAbs≤5700):(∀p∈Py xs,¬Lg p m.1 m.2)∧(∀p∈chx xs,¬Lg p m.1 m.2):=
 ⟨fun p hp=>Zp8 (Fv h p hp).2.1 (Fv h p hp).2.2 a b,fun p hp=>Zp8 (Zfp h p hp).2.1 (Zfp h p hp).2.2 a b⟩
theorem Yci{a b:R2}(ha:0<a.2)(hb:0<b.2):((a.1*b.2-b.1*a.2:Int):Rat)=(qv a-qv b)*((a.2:Rat)*(b.2:Rat)):=by
 have h1:=Iv ha
 have h2:=Iv hb
 unfold qv
 push_cast
 grind
theorem Yjq{a b:R2}(ha:0<a.2)(hb:0<b.2):cmp a b<0↔qv a<qv b:=by
 have e:=Yci ha hb
 have hp:=Rat.mul_pos (Iv ha) (Iv hb)
 unfold cmp
 rw [Pm]
 constructor
 ·intro h
  have h1:((a.1*b.2-b.1*a.2:Int):Rat)<0:=by exact_mod_cast h
  rcases(show qv a<qv b∨qv b≤qv a by grind)with q | q
  ·exact q
  ·have:=Rat.mul_nonneg (show 0≤qv a-qv b by grind) (Rat.le_of_lt hp);grind
 ·intro h
  have:=Rat.mul_pos (show 0<qv b-qv a by grind) hp
  have h1:((a.1*b.2-b.1*a.2:Int):Rat)<0:=O4
  exact_mod_cast h1
theorem Zo6{a b:R2}(ha:0<a.2)(hb:0<b.2):cmp a b=0↔qv a=qv b:=by
 have e:=Yci ha hb
 have hp:=Rat.mul_pos (Iv ha) (Iv hb)
 unfold cmp
 rw [Int.sign_eq_zero_iff_zero]
 constructor
 ·intro h
  rw [h]at e
  rcases Rat.mul_eq_zero.1 (show(qv a-qv b)*((a.2:Rat)*(b.2:Rat))=0 by rw [←e];rfl)with q | q
  ·grind
  ·rw [q]at hp;grind
 ·intro h
  have h1:((a.1*b.2-b.1*a.2:Int):Rat)=0:=by rw [e,h];grind
  exact_mod_cast h1
theorem Yjr{a b:R2}(ha:0<a.2)(hb:0<b.2):cmp a b≤0↔qv a≤qv b:=by
 have h1:=Yjq ha hb
 have h2:=Zo6 ha hb
 constructor
 ·intro h
  rcases(show cmp a b<0∨cmp a b=0 by omega)with q | q
  ·exact Rat.le_of_lt (h1.1 q)
  ·have:=h2.1 q;grind
 ·intro h
  rcases(show qv a<qv b∨qv a=qv b by grind)with q | q
  ·exact Int.le_of_lt (h1.2 q)
  ·exact Int.le_of_eq (h2.2 q)
theorem Yex{m:R2}(hm:0<m.2)(p:List Int):fat m.1 m.2 p=Fh (Zb p (qv m)):=Zor hm p
theorem Yjx{xs:List Int}(h:Cvd xs)(h0:xs≠[]){a b:R2}(ha:0<a.2)(hb:0<b.2):crb (chx xs) a b=true↔Bg 13 (Ix xs) (qv a) (qv b):=by
 obtain⟨a1,a2,a3,a4,a5⟩:=Ze0 h h0
 have hl0:xs.length≠0:=fun e=>h0 (List.eq_nil_of_length_eq_zero e)
 unfold crb Bg chx
 rw [if_neg hl0]
 have hh:∃r,chn 13 (Ix xs)=sqf 13 (Ix xs) :: r:=by
  unfold chn Nx
  split<;>exact⟨_,rfl⟩
 obtain⟨r,hr⟩:=hh
 have hv:∀m:R2,0<m.2→chv (chn 13 (Ix xs)) m=Bm 13 (Ix xs) (qv m):=fun m hm=>(cvc_v (F:=13) (xs:=Ix xs) hm)
 rw [if_neg (by rw [hr];simp),hv a ha,hv b hb]
 have hg:(chn 13 (Ix xs)).getD 0 []=sqf 13 (Ix xs):=by rw [hr];rfl
 rw [hg,Yex hb]
 have hz:Fh (Zb (sqf 13 (Ix xs)) (qv b))=0↔Zb (Ix xs) (qv b)=0:=⟨fun e=>(a1.zero _).1 (Zqh e),fun e=>Zqi ((a1.zero _).2 e)⟩
 by_cases hb0:Zb (Ix xs) (qv b)=0
 ·rw [if_pos hb0,if_pos (hz.2 hb0)];exact decide_eq_true_iff
 ·rw [if_neg hb0,if_neg (fun e=>hb0 (hz.1 e))];exact decide_eq_true_iff
theorem Zii{xs:List Int}{m:R2}(hm:0<m.2):vlu (Py xs) m=Fh (Zb xs (qv m)):=by
 unfold vlu Py
 by_cases h0:xs.length=0
 ·have:xs=[]:=List.eq_nil_of_length_eq_zero h0
  subst this;rfl
 ·obtain⟨n,hn⟩:∃n,xs.length=n+1:=⟨xs.length-1,O⟩
  rw [hn];unfold Zdz;rw [if_neg h0,if_neg O5]
  exact Yex hm xs
theorem Zn6{xs:List Int}(h:Cvd xs){a b:R2}(ha:0<a.2)(hb:0<b.2)(hab:qv a≤qv b):ngb (Py xs) (chx xs) a b=true↔Zsr xs (qv a) (qv b):=by
 unfold ngb
 by_cases hc:cmp a b=0
 ·rw [if_pos hc,Zii ha,decide_eq_true_iff]
  have e:=(Zo6 ha hb).1 hc
  constructor
  ·intro h1
   refine⟨qv a,Rat.le_refl,hab,?_⟩
   rcases Qp (Zb xs (qv a))with⟨h5,h6⟩ | ⟨h5,h6⟩ | ⟨h5,h6⟩
   ·rw [h6]at h1;exact absurd h1 O3
   ·exact h5
   ·rw [h6]at h1;exact absurd h1 O3
  ·rintro⟨x,x1,x2,x3⟩
   have:x=qv a:=O4
   rw [←this,Zl0 x3];decide
 ·rw [if_neg hc]
  have hlt:qv a<qv b:=by have:=fun e=>hc ((Zo6 ha hb).2 e);grind
  by_cases h0:xs=[]
  ·subst h0
   constructor
   ·intro h1;exact absurd h1 (by show ¬(decide ((0:Int)<0) || false)=true;decide)
   ·rintro⟨x,x1,x2,x3⟩;exact absurd x3 (by show ¬(0:Rat)<0;grind)
  ·obtain⟨a1,a2,a3,a4,a5⟩:=Ze0 h h0
   rw [←a1.sem hlt,Bool.or_eq_true,decide_eq_true_iff,Yjx h h0 ha hb,show aft (Py xs) a=Fg xs.length xs (qv a)from Zry ha _ _ (Nat.le_refl _)]
theorem Zr5{xs:List Int}(h:Cvd xs){m:Nat}(hm:m≤100):Zba xs m:=by
 refine .inr ?_
 have hl:=h.l
 have m1:=Qz h.s
 have g1:(xs.length+2)*(xs.length+2)≤11*11:=Nat.mul_le_mul O O
 have g2:(xs.length+2)*(xs.length+2)*(Qh xs+m+2*(xs.length-1)+32)≤11*11*365:=Nat.mul_le_mul g1 O
 omega
theorem Zms{xs:List Int}(h:xs.length=0):Py xs=[]:=by unfold Py;rw [h];rfl
theorem Yjw{xs:List Int}(h:xs.length=0):chx xs=[]:=by unfold chx;rw [if_pos h]
theorem chx_ne{xs:List Int}(h:xs.length≠0):chx xs=chn 13 (Ix xs):=by unfold chx;rw [if_neg h]
theorem Zmt:∀(n m:Nat) (p:List Int),p.length≤n→p.length≤m→Zdz n p=Zdz m p
 | 0,m,p,h1,h2=>by
  have h0:p.length=0:=O
  cases m with
  | zero=>rfl
  | succ m=>unfold Zdz;rw [if_pos h0]
 | n+1,m,p,h1,h2=>by
  have ld':=Oi p
  cases m with
  | zero=>unfold Zdz;rw [if_pos O]
  | succ m=>
   unfold Zdz
   by_cases h0:p.length=0
   ·rw [if_pos h0,if_pos h0]
   ·rw [if_neg h0,if_neg h0,Zmt n m (Yo p) O O]
theorem Zz7{p:List Int}(h:p.length≠0):Py p=p :: Py (Yo p):=by
 have ld':=Oi p
 unfold Py
 obtain⟨n,hn⟩:∃n,p.length=n+1:=⟨p.length-1,O⟩
 rw [hn,show Zdz (n+1) p=if p.length=0 then []else p :: Zdz n (Yo p)from rfl,if_neg h,Zmt n (Yo p).length (Yo p) O (Nat.le_refl _)]
def Ab(M:Nat)(p:List Int):Prop:=∀i,(cf p i).natAbs≤M
theorem Ab.sz{M n:Nat}{p:List Int}(h:Ab M p)(hM:M<2^n):Sz n p:=fun i=>(Xo n _).2 (Nat.lt_of_le_of_lt (h i) hM)
theorem Ab.mono{M N:Nat}{p:List Int}(h:Ab M p)(hM:M≤N):Ab N p:=fun i=>Nat.le_trans (h i) hM
theorem Ygj{M n:Nat}{p:List Int}(h:Ab M p)(hl:p.length≤n+1):Ab (n*M) (Yo p):=fun i=>by
 rw [Aj]
 by_cases hi:i+1<p.length
 ·rw [Int.natAbs_mul,Nat.mul_comm];exact Nat.mul_le_mul O (h _)
 ·rw [Yj O,Int.zero_mul];exact Nat.zero_le _
theorem Zsp{M:Nat}{p:List Int}(h:Ab M p)(c:Int):Ab (M*c.natAbs) (Yb p c):=fun i=>by
 rw [Yy,Int.natAbs_mul];exact Nat.mul_le_mul_right _ (h i)
theorem Zp4{f:Nat→Int}{M n:Nat}(h:∀k,(f k).natAbs≤M)(h4:∀k,n≤k→f k=0):∀m,(Ye f m).natAbs≤min m n*M
 | 0=>by show(0:Int).natAbs≤_;simp
 | m+1=>by
  have ih:=Zp4 h h4 m
  rw [Yk]
  rcases Nat.lt_or_ge m n with q | q
  ·have:=h m
   rw [show min (m+1) n=min m n+1 by omega,Nat.succ_mul];omega
  ·rw [h4 m q,Int.add_zero,show min (m+1) n=min m n by omega];exact ih
theorem Ygi{M N n:Nat}{p q:List Int}(hp:Ab M p)(hq:Ab N q)(hl:p.length≤n):Ab (n*(M*N)) (Xm p q):=fun i=>by
 rw [Kv,PS.mul_c]
 exact Nat.le_trans (Zp4 (n:=n) (M:=M*N) (fun k=>by rw [Int.natAbs_mul];exact Nat.mul_le_mul (hp k) (hq (i-k))) (fun k hk=>by
  show cf p k*_=0
  rw [Yj O,Int.zero_mul]) _) (Nat.mul_le_mul_right _ (Nat.min_le_right _ _))
theorem ab_add{M N:Nat}{p q:List Int}(hp:Ab M p)(hq:Ab N q):Ab (M+N) (Ct p q):=fun i=>by
 rw [Zcy];have:=hp i;have:=hq i;omega
theorem ab_in{c:List Int}(h:∀a∈c,Qx a):Ab (2^63) (tzl c):=fun i=>by
 rw [Ku]
 obtain⟨h1,h2⟩:=Qv h i
 show(c.getD i 0).natAbs≤_
 omega
theorem Yis{p q:List Int}{n:Nat}(h1:p.length≤n)(h2:q.length≤n):(Ct p q).length≤n:=by
 unfold Ct;refine Nat.le_trans (Kx _) ?_;rw [Yi];omega
theorem Yir{p q:List Int}{n:Nat}(h1:p.length≤n)(h2:q.length≤n):(Cr p q).length≤n:=by
 unfold Cr;refine Nat.le_trans (Kx _) ?_;rw [Yi];omega
theorem Zwu{p q:List Int}{n m:Nat}(hp:Tr p)(hq:Tr q)(h1:p.length≤n)(h2:q.length≤m):(Xm p q).length≤n+m-1:=by
 by_cases e1:p=[]
 ·rw [e1,Ie];exact Nat.zero_le _
 ·by_cases e2:q=[]
  ·rw [e2,Zaf];exact Nat.zero_le _
  ·have:=Pg hp hq e1 e2;omega
theorem Zwv{p:List Int}{n:Nat}(h:p.length≤n+1):(Yo p).length≤n:=by
 have:=Oi p;omega
def dN:Nat→List Int→List Int
 | 0,p=>p
 | n+1,p=>Yo (dN n p)
def axQ(o:Nat)(c:List Int):List Int:=Yb (dN o (tzl c)) (1000^o)
def sqQ(o:Nat)(c:List Int):List Int:=Xm (axQ o c) (axQ o c)
def Cc(o:Nat)(x y z:List Int):Nat→List Int
 | 0=>[]
 | i+1=>Ct (Cc o x y z i) (sqQ o (Zr i x y z))
def Zho(o:Nat):Int:=Xn (List.replicate o 1000)
def Zc0(o:Nat)(m ov T:Int):Int:=Xn (m :: ov :: List.replicate o T)
def Ig(o:Nat)(m ov T:Int):List Int:=Yb [1] (Zc0 o m ov T)
def Ey(o:Nat)(m ov T:Int)(x y z:List Int):List Int:=Zu (Cr (Xm (Ig o m ov T) (Ig o m ov T)) (Cc o x y z 3))
theorem Zww(o:Nat):Zho o=1000^o:=by
 unfold Zho
 induction o with
 | zero=>rfl
 | succ o ih=>rw [List.replicate_succ,Int.pow_succ,←ih];show 1000*_=_;omega
theorem Zv2(o:Nat)(T:Int):Xn (List.replicate o T)=T^o:=by
 induction o with
 | zero=>rw [Int.pow_zero];rfl
 | succ o ih=>rw [List.replicate_succ,Int.pow_succ,←ih];show T*_=_*T;rw [Int.mul_comm]
structure Sgo (fr to ov:Int) (x y z:List Int):Prop where
 t1:0≤fr
 t2:fr<to
 t3:to≤3600000
 o1:1≤ov
 o2:ov≤4294967296
 hx:∀a∈x,Qx a
 hy:∀a∈y,Qx a
 hz:∀a∈z,Qx a
 lx:1≤x.length∧x.length≤6
 ly:1≤y.length∧y.length≤6
 lz:1≤z.length∧z.length≤6
theorem Sgo.hc{fr to ov:Int}{x y z:List Int}(h:Sgo fr to ov x y z)(i:Nat):∀a∈Zr i x y z,Qx a:=Li h.hx h.hy h.hz i
theorem Sgo.lc{fr to ov:Int}{x y z:List Int}(h:Sgo fr to ov x y z)(i:Nat):1≤(Zr i x y z).length∧(Zr i x y z).length≤6:=Zbc (p:=fun l:List Int=>1≤l.length∧l.length≤6) h.lx h.ly h.lz
theorem Sgo.of{fr to ov:Int}{x y z:List Int}(hx:∀a∈x,Qx a)(hy:∀a∈y,Qx a)(hz:∀a∈z,Qx a)(h:El fr to ov x y z=true):Sgo fr to ov x y z:=by
 unfold El Yaz axB at h
 simp only [Bool.and_eq_true,decide_eq_true_eq]at h
 obtain⟨⟨⟨⟨⟨⟨⟨⟨a1,a2⟩,a3⟩,a4⟩,a5⟩,b1⟩,b2⟩,b3⟩,-⟩:=h
 exact⟨a1,a2,a3,a4,a5,hx,hy,hz,⟨b1.1.1.1,b1.1.1.2⟩,⟨b2.1.1.1,b2.1.1.2⟩,⟨b3.1.1.1,b3.1.1.2⟩⟩
def Mk:Nat→Nat
 | 0=>2^63
 | 1=>5*2^63
 | _=>4*(5*2^63)
theorem dN_ok{c:List Int}(h:∀a∈c,Qx a)(hl:c.length≤6):∀k,k≤2→Tr (dN k (tzl c))∧(dN k (tzl c)).length≤6-k∧Ab (Mk k) (dN k (tzl c)):=fun k hk=>by
 have t0:Tr (tzl c):=Qm c
 have l0:(tzl c).length≤6:=Nat.le_trans (Kx c) hl
 have a0:=ab_in h
 have t1:=Oq t0
 have l1:(Yo (tzl c)).length≤5:=Zwv l0
 have a1:=Ygj a0 (n:=5) l0
 match k,hk with
 | 0,_=>exact⟨t0,l0,a0⟩
 | 1,_=>exact⟨t1,l1,a1⟩
 | 2,_=>exact⟨Oq t1,Zwv l1,Ygj a1 (n:=4) l1⟩
theorem Mk_lt{k:Nat} : Mk k<2^70:=by
 have h1:(2:Nat)^63<2^70:=O3
 have h2:5*(2:Nat)^63<2^70:=O3
 have h3:4*(5*(2:Nat)^63)<2^70:=O3
 unfold Mk
 split
 ·exact h1
 ·exact h2
 ·exact h3
theorem Yfn{c:List Int}(h:∀a∈c,Qx a)(hl:c.length≤6){k:Nat}(hk:k≤2):Vp (dN k (tzl c))∧(∀i,bl (cf (dN k (tzl c)) (i+1)*((i:Int)+1)).natAbs≤65536):=by
 obtain⟨h1,h2,h3⟩:=dN_ok h hl k hk
 have hs:=h3.sz Mk_lt
 exact⟨⟨hs.mono O,h1,O⟩,fun i=>by have:=Ca hs O i;rw [Aj]at this;omega⟩
theorem Zd3{c:List Int}(h:∀a∈c,Qx a)(hl:c.length≤6){o:Nat}(ho:o=1∨o=2) :
  bl (Zho o).natAbs≤65536∧(∀i,bl (cf (dN o (tzl c)) i*Zho o).natAbs≤65536)∧Vp (axQ o c)∧¬Zai (axQ o c) (axQ o c)∧Vp (sqQ o c)∧(sqQ o c).length≤11-2*o∧Ab (if o=1 then 5*(5*2^63*1000*(5*2^63*1000))else 4*(4*(5*2^63)*1000000*(4*(5*2^63)*1000000))) (sqQ o c)∧Sz 183 (sqQ o c):=by
 obtain⟨h1,h2,h3⟩:=dN_ok h hl o O
 have hk:bl (Zho o).natAbs≤20:=by rcases ho with rfl | rfl<;>decide
 have hs:=h3.sz Mk_lt
 have hA:Ab (Mk o*(Zho o).natAbs) (axQ o c):=by have:=Zsp h3 (Zho o);rw [Zww]at this ⊢;exact this
 have lA:(axQ o c).length≤6-o:=Nat.le_trans (Ib _ _) h2
 have tA:Tr (axQ o c):=Xi _ _
 have hAs:Sz 90 (axQ o c):=hA.sz (by rcases ho with rfl | rfl<;>decide)
 have vA:Vp (axQ o c):=⟨hAs.mono O,tA,O⟩
 have hS:=Ygi hA hA lA
 have lS:=Zwu tA tA lA lA
 have hS2:Ab (if o=1 then 5*(5*2^63*1000*(5*2^63*1000))else 4*(4*(5*2^63)*1000000*(4*(5*2^63)*1000000))) (sqQ o c):=by rcases ho with rfl | rfl<;>exact hS
 have hS3:Sz 183 (sqQ o c):=hS2.sz (by rcases ho with rfl | rfl<;>decide)
 refine⟨O,fun i=>?_,vA,fun hF=>?_,⟨hS3.mono O,Xq _ _,by have:(sqQ o c).length≤_:=lS;omega⟩,by have:(sqQ o c).length≤_:=lS;omega,hS2,hS3⟩
 ·have:=hs i
  have:=Yv (cf (dN o (tzl c)) i) (Zho o)
  omega
 ·have m:=Qz hAs
  rcases hF.2.2 with w | w<;>omega
theorem Zhw{fr to ov:Int}{x y z:List Int}(h:Sgo fr to ov x y z){o:Nat}(ho:o=1∨o=2):∀i,i≤3→Tr (Cc o x y z i)∧(Cc o x y z i).length≤11-2*o∧Ab (i*if o=1 then 5*(5*2^63*1000*(5*2^63*1000))else 4*(4*(5*2^63)*1000000*(4*(5*2^63)*1000000))) (Cc o x y z i)∧Sz 184 (Cc o x y z i)∧Vp (Cc o x y z i):=fun i hi=>by
 have key:Tr (Cc o x y z i)∧(Cc o x y z i).length≤11-2*o∧Ab (i*if o=1 then 5*(5*2^63*1000*(5*2^63*1000))else 4*(4*(5*2^63)*1000000*(4*(5*2^63)*1000000))) (Cc o x y z i):=by
  induction i with
  | zero=>exact⟨.inl rfl,Nat.zero_le _,fun i=>by show(cf [] i).natAbs≤_;rw [Yj O5];exact Nat.zero_le _⟩
  | succ i ih=>
   obtain⟨a1,a2,a3⟩:=ih O
   obtain⟨-,-,-,-,-,b2,b3,-⟩:=Zd3 (h.hc i) (h.lc i).2 ho
   exact⟨Qm _,Yis a2 b2,by rw [Nat.succ_mul];exact ab_add a3 b3⟩
 obtain⟨k1,k2,k3⟩:=key
 have hs:Sz 184 (Cc o x y z i):=k3.sz (Nat.lt_of_le_of_lt (Nat.mul_le_mul_right _ hi) (by rcases ho with rfl | rfl<;>decide))
 exact⟨k1,k2,k3,hs,hs.mono O,k1,O⟩
theorem timC_b{fr to ov m:Int}{x y z:List Int}(h:Sgo fr to ov x y z)(h0:0≤m)(h1:m≤10000){o:Nat}(ho:o=1∨o=2):(Zc0 o m ov (to-fr)).natAbs≤10000*4294967296*3600000^o:=by
 have a1:=h.t1
 have a2:=h.t2
 have a3:=h.t3
 have a4:=h.o1
 have a5:=h.o2
 have e:Zc0 o m ov (to-fr)=m*(ov*(to-fr)^o):=by unfold Zc0;show m*(ov*Xn _)=_;rw [Zv2]
 rw [e,Int.natAbs_mul,Int.natAbs_mul,Nat.mul_assoc]
 refine Nat.mul_le_mul O (Nat.mul_le_mul O ?_)
 rw [Int.natAbs_pow]
 exact Nat.pow_le_pow_left O o
theorem Zwg{fr to ov m:Int}{x y z:List Int}(h:Sgo fr to ov x y z)(h0:0≤m)(h1:m≤10000){o:Nat}(ho:o=1∨o=2) :
  bl (Zc0 o m ov (to-fr)).natAbs≤89∧Vp (Ig o m ov (to-fr))∧(∀i,bl (cf [1] i*Zc0 o m ov (to-fr)).natAbs≤65536)∧¬Zai (Ig o m ov (to-fr)) (Ig o m ov (to-fr))∧Vp (Xm (Ig o m ov (to-fr)) (Ig o m ov (to-fr)))∧
  (Xm (Ig o m ov (to-fr)) (Ig o m ov (to-fr))).length≤1∧Sz 178 (Xm (Ig o m ov (to-fr)) (Ig o m ov (to-fr))):=by
 have hb:=timC_b h h0 h1 ho
 have hT:bl (Zc0 o m ov (to-fr)).natAbs≤89:=(Xo 89 _).2 (Nat.lt_of_le_of_lt hb (by rcases ho with rfl | rfl<;>decide))
 have h11:Ab 1 [1]:=fun i=>by
  match i with
  | 0=>decide
  | i+1=>rw [Yj O5];decide
 have hA:Ab (1*(Zc0 o m ov (to-fr)).natAbs) (Ig o m ov (to-fr)):=Zsp h11 _
 have hA2:=hA.mono (N:=10000*4294967296*3600000^o) O
 have lA:(Ig o m ov (to-fr)).length≤1:=Ib [1] _
 have tA:Tr (Ig o m ov (to-fr)):=Xi _ _
 have hS:=Ygi hA2 hA2 lA
 have lS:=Zwu tA tA lA lA
 have hsA:Sz 89 (Ig o m ov (to-fr)):=hA.sz (by rw [Nat.one_mul];exact(Xo 89 _).1 hT)
 have hsS:Sz 178 (Xm (Ig o m ov (to-fr)) (Ig o m ov (to-fr))):=hS.sz (by rcases ho with rfl | rfl<;>decide)
 refine⟨hT,⟨hsA.mono O,tA,O⟩,fun i=>?_,fun hF=>?_,⟨hsS.mono O,Xq _ _,O⟩,O,hsS⟩
 ·have h9:=Yv (cf [1] i) (Zc0 o m ov (to-fr))
  have:=(Xo 1 _).2 (Nat.lt_of_le_of_lt (h11 i) (by decide:1<2^1))
  omega
 ·have m:=Qz hsA
  rcases hF.2.2 with w | w<;>omega
theorem Cl{fr to ov m:Int}{x y z:List Int}(h:Sgo fr to ov x y z)(h0:0≤m)(h1:m≤10000){o:Nat}(ho:o=1∨o=2) :
  (∀i,bl (cf (Xm (Ig o m ov (to-fr)) (Ig o m ov (to-fr))) i-cf (Cc o x y z 3) i).natAbs≤65536)∧Vp (Cr (Xm (Ig o m ov (to-fr)) (Ig o m ov (to-fr))) (Cc o x y z 3))∧Cvd (Ey o m ov (to-fr) x y z):=by
 obtain⟨a1,a2,a3,a4,a5,a6,a7⟩:=Zwg h h0 h1 ho
 obtain⟨b1,b2,b3,b4,b5⟩:=Zhw h ho 3 O
 have hs:Sz 185 (Cr (Xm (Ig o m ov (to-fr)) (Ig o m ov (to-fr))) (Cc o x y z 3)):=fun i=>by
  rw [Dl]
  have h1:=(Xo 178 _).1 (a7 i)
  have h2:=(Xo 184 _).1 (b4 i)
  have h3:(2:Nat)^178≤2^184:=Nat.pow_le_pow_right O3 O3
  have h4:(2:Nat)^185=2*2^184:=O3
  refine(Xo 185 _).2 ?_
  omega
 have hl:(Cr (Xm (Ig o m ov (to-fr)) (Ig o m ov (to-fr))) (Cc o x y z 3)).length≤9:=Yir O O
 have hv:Vp (Cr (Xm (Ig o m ov (to-fr)) (Ig o m ov (to-fr))) (Cc o x y z 3)):=⟨hs.mono O,Qm _,O⟩
 refine⟨fun i=>?_,hv,Kf hv,Gn hs,by unfold Ey;rw [Zt];exact hl⟩
 have:=hs i;rw [Dl]at this;omega
theorem Zt5{o:Nat}(h:o=2):Zho o=Xn [1000,1000]:=by rw [h];rfl
theorem kilo_1{o:Nat}(h:o=1):Zho o=Xn [1000]:=by rw [h];rfl
theorem Zsz{o:Nat}{m ov T:Int}(h:o=2):Zc0 o m ov T=Xn [m,ov,T,T]:=by rw [h];rfl
theorem timC_1{o:Nat}{m ov T:Int}(h:o=1):Zc0 o m ov T=Xn [m,ov,T]:=by rw [h];rfl
theorem Zvb{c:List Int}(h:c.length≤6):¬25<(tzl c).length:=by have:=Kx c;omega
theorem tzl1:(if 25<(tzl [(1:Int)]).length then []else tzl [1])=[1]:=O3
theorem vp1:Vp [1]:=⟨fun i=>by
 match i with
 | 0=>decide
 | i+1=>rw [Yj O5];decide,.inr O3,O3⟩
theorem Zbr{l:List Int}(h:∀a∈l,-9223372036854775808≤a∧a≤9223372036854775807):∀a∈l,Qx a:=h
theorem Yg8{fr to ov:Int}{x y z:List Int}(h:Sgo fr to ov x y z){o i:Nat}(ho:o=1∨o=2)(hi:i<3):∀k,bl (cf (Cc o x y z i) k+cf (sqQ o (Zr i x y z)) k).natAbs≤65536:=fun k=>by
 have:=(Zhw h ho (i+1) hi).2.2.2.1 k
 rw [show Cc o x y z (i+1)=Ct (Cc o x y z i) (sqQ o (Zr i x y z))from rfl,Zcy]at this
 omega
def Lw(z:R2):Prop:=0<z.2∧Int.gcd z.1 z.2=1
theorem lgcd_p{x y:Int}(hy:0<y):Nh x y=(Int.gcd x y:Int):=by unfold Nh;rw [if_neg O]
theorem Ydy{x y:Int}(hy:0<y):Lw (x/Nh x y,y/Nh x y):=by
 have hg:0<Int.gcd x y:=Int.gcd_pos_of_ne_zero_right _ O
 rw [lgcd_p hy]
 refine⟨Int.ediv_pos_of_pos_of_dvd hy O (Int.gcd_dvd_right ..),?_⟩
 exact Int.gcd_ediv_gcd_ediv_gcd hg
theorem Zn9{a:R2}(ha:0<a.2)(h:¬Mz a.1 a.2):Lw (slow a):=by
 obtain⟨n1,n2,-⟩:=Ci h
 have:=Ydy (x:=a.1) ha
 unfold slow;rw [n1,n2];exact this
theorem Ydx{a b:R2}(h:Zc8 a b)(ha:0<a.2)(hb:0<b.2):Lw (Qy a b):=by
 obtain⟨n1,n2,-⟩:=Ci h.2
 have hp:0<Gt (a.1*b.2+b.1*a.2) (a.2*b.2)*2:=Int.mul_pos (Ztp h.1 (Int.mul_pos ha hb)) O3
 have:=Ydy (x:=Fp (a.1*b.2+b.1*a.2) (a.2*b.2)*1) hp
 unfold Qy;rw [n1,n2];exact this
structure Hv (n Q j:Nat) (W:Rat) (a b:R2):Prop where
 hQ:0<Q
 hQ2:Q<2^(2*n)
 ea:En (2^n) Q j a
 eb:En (2^n) Q j b
 wd:(qv b-qv a)*((2^j:Nat):Rat)=W
 le:qv a≤qv b
 la:Lw a
 lb:Lw b
theorem Hv.start{n:Nat}{a b:R2}(ha:0<a.2)(hb:0<b.2)(a1:bl a.1.natAbs≤n)(a2:bl a.2.natAbs≤n)(b1:bl b.1.natAbs≤n)(b2:bl b.2.natAbs≤n)(hn:n≤65536)(hle:qv a≤qv b):∃Q,Hv n Q 0 (qv b-qv a) (slow a) (slow b):=by
 obtain⟨s1,s2,s3,s4,s5⟩:=Za9 ha a1 a2 hn
 obtain⟨t1,t2,t3,t4,t5⟩:=Za9 hb b1 b2 hn
 have pa:=(Xo n _).1 s4
 have pb:=(Xo n _).1 t4
 have qa:=Znq ha (Nat.le_of_lt ((Xo n _).1 a1))
 have qb:=Znq hb (Nat.le_of_lt ((Xo n _).1 b1))
 have hQ0:0<(slow a).2.natAbs*(slow b).2.natAbs:=Nat.mul_pos O O
 have hQ1:(slow a).2.natAbs*(slow b).2.natAbs<2^(2*n):=by
  rw [show 2*n=n+n by omega,Nat.pow_add]
  exact Nat.mul_lt_mul_of_lt_of_le pa (Nat.le_of_lt pb) (Nat.pow_pos O3)
 generalize hQ:(slow a).2.natAbs*(slow b).2.natAbs=Q at *
 have hcast:((Q*2^0:Nat):Int)=(slow a).2*(slow b).2:=by
  rw [Nat.pow_zero,Nat.mul_one,←hQ];push_cast;rw [Int.natAbs_of_nonneg O,Int.natAbs_of_nonneg O]
 have ea:En (2^n) Q 0 (slow a):=⟨s2,by rw [hcast];exact Int.dvd_mul_right _ _,by rw [s5];exact qa.1,by rw [s5];exact qa.2⟩
 have eb:En (2^n) Q 0 (slow b):=⟨t2,by rw [hcast];exact Int.dvd_mul_left _ _,by rw [t5];exact qb.1,by rw [t5];exact qb.2⟩
 exact⟨Q,hQ0,hQ1,ea,eb,by rw [s5,t5,Nat.pow_zero];push_cast;grind,by rw [s5,t5];exact hle,Zn9 ha s1,Zn9 hb t1⟩
theorem Hv.mid{n Q j B:Nat}{W:Rat}{a b:R2}(h:Hv n Q j W a b)(hB:3*n+2+j≤B)(hB2:B≤65536) :
  Zc8 a b∧(bl (Qy a b).1.natAbs≤B∧bl (Qy a b).2.natAbs≤B∧0<(Qy a b).2)∧qv (Qy a b)=(qv a+qv b)/2∧(bl a.1.natAbs≤B∧bl a.2.natAbs≤B∧0<a.2)∧(bl b.1.natAbs≤B∧bl b.2.natAbs≤B∧0<b.2)∧
  Hv n Q (j+1) W a (Qy a b)∧Hv n Q (j+1) W (Qy a b) b:=by
 have hpow:∀m,m≤B→2^m≤2^B:=fun m h=>Nat.pow_le_pow_right O3 h
 have hB1:Q*2^(j+1)<2^B:=by
  have:Q*2^(j+1)<2^(2*n)*2^(j+1):=Nat.mul_lt_mul_of_pos_right h.hQ2 (Nat.pow_pos O3)
  rw [←Nat.pow_add]at this
  exact Nat.lt_of_lt_of_le this (hpow _ O)
 have hB3:2*2^n*(Q*2^j)<2^B:=by
  have h1:Q*2^j<2^(2*n)*2^j:=Nat.mul_lt_mul_of_pos_right h.hQ2 (Nat.pow_pos O3)
  have h2:2*2^n*(Q*2^j)<2*2^n*(2^(2*n)*2^j):=Nat.mul_lt_mul_of_pos_left h1 (Nat.mul_pos O3 (Nat.pow_pos O3))
  have h3:2*2^n*(2^(2*n)*2^j)=2^(3*n+1+j):=by
   rw [←Nat.pow_add,←Nat.pow_succ',←Nat.pow_add];congr 1;omega
  rw [h3]at h2
  exact Nat.lt_of_lt_of_le h2 (hpow _ O)
 obtain⟨m1,m2,m3,m4,m5⟩:=mid_en h.ea h.eb h.hQ hB1 hB3 hB2
 obtain⟨p1,p2⟩:=Ye4 (e:=j) (w:=0) (B:=B) h.ea h.hQ h.hQ2 O
 obtain⟨r1,r2⟩:=Ye4 (e:=j) (w:=0) (B:=B) h.eb h.hQ h.hQ2 O
 have hlm:=Ydx m1 h.ea.pos h.eb.pos
 have hw:((2^(j+1):Nat):Rat)=2*((2^j:Nat):Rat):=by rw [Nat.pow_succ];push_cast;grind
 have hle:=h.le
 refine⟨m1,⟨m4,m5,m2.pos⟩,m3,⟨p1,p2,h.ea.pos⟩,⟨r1,r2,h.eb.pos⟩,⟨h.hQ,h.hQ2,h.ea.up,m2,?_,O4,h.la,hlm⟩,⟨h.hQ,h.hQ2,m2,h.eb.up,?_,O4,hlm,h.lb⟩⟩
 ·rw [m3,hw,←h.wd];grind
 ·rw [m3,hw,←h.wd];grind
theorem Zyq{p:List Int}{k n:Nat}(h:Sz k p)(hk:k≤n)(i:Nat):(cf p i).natAbs≤2^n:=Nat.le_trans (Zf1 h i) (Nat.pow_le_pow_right O3 hk)
theorem Yhl{xs:List Int}(h:Cvd xs)(h0:xs≠[]):Cv 13 xs∧∀u v:Rat,-((2^34:Nat):Rat)≤u→u≤v→v≤((2^34:Nat):Rat)→v-u≤1/((2^5400:Nat):Rat)→Bm 13 xs u-Bm 13 xs v≤1:=by
 have hl:=h.l
 obtain⟨hC,hq1,hq2,hq3⟩:=chG 13 h.v.tr h0 h.s O O O
 have hd:=Ca hq1 O
 have hss:∀n,n≤9→2≤n→Zvw (2^34) (2^320) n 5400=true:=O7
 obtain⟨n,hn⟩:∃n:Nat,n=320:=⟨_,rfl⟩
 rw [←hn]at hss
 have hd:Sz n (Yo (sqf 13 xs)):=by rw [hn];exact hd
 have hq:∀i,(cf (sqf 13 xs) i).natAbs≤2^n:=fun i=>Zyq hq1 O i
 exact⟨hC,fun u v=>sep_of h.v.tr h0 hC (Nat.pow_pos O3) (A:=2^n) (Nat.pow_pos O3) hq (fun i=>Zf1 hd i) (fun h2=>hss _ O h2) u v⟩
theorem Zzc{j e w:Nat}{x W:Rat}(h1:1/((2^(e+1):Nat):Rat)<x)(h2:x*((2^j:Nat):Rat)=W)(h3:W≤((2^w:Nat):Rat)):j<e+1+w:=by
 have p1:=two_pow_pos (e+1)
 have p2:=two_pow_pos j
 rcases Nat.lt_or_ge j (e+1+w)with q | q
 ·exact q
 ·exfalso
  have hi:0<((2^(e+1):Nat):Rat)⁻¹:=Rat.inv_pos.2 p1
  have hc:((2^(e+1):Nat):Rat)*((2^(e+1):Nat):Rat)⁻¹=1:=Rat.mul_inv_cancel _ O4
  have g1:((2^(e+1):Nat):Rat)*((2^w:Nat):Rat)≤((2^j:Nat):Rat):=by
   have:2^(e+1)*2^w≤2^j:=by rw [←Nat.pow_add];exact Nat.pow_le_pow_right O3 q
   exact_mod_cast this
  have g2:((2^(e+1):Nat):Rat)⁻¹<x:=O4
  have g3:=Rat.mul_pos (show 0<x-((2^(e+1):Nat):Rat)⁻¹ by grind) p2
  have g4:=Rat.mul_nonneg (Rat.le_of_lt hi) (show 0≤((2^j:Nat):Rat)-((2^(e+1):Nat):Rat)*((2^w:Nat):Rat) by grind)
  have g5:((2^(e+1):Nat):Rat)⁻¹*(((2^(e+1):Nat):Rat)*((2^w:Nat):Rat))=((2^w:Nat):Rat):=by
   rw [←Rat.mul_assoc,Rat.mul_comm (((2^(e+1):Nat):Rat)⁻¹),hc,Rat.one_mul]
  grind
structure NIn (xs:List Int) (s t:Rat) (j:Nat) (a b:R2):Prop where
 ex:∃Q W,Hv 34 Q j W a b∧W≤((2^34:Nat):Rat)
 lo:s≤qv a
 hi:qv b≤t
 l0:-((2^33:Nat):Rat)≤s
 h0:t≤((2^33:Nat):Rat)
 pa:0≤Zb xs (qv a)
 pb:0≤Zb xs (qv b)
 ng:Zsr xs (qv a) (qv b)
theorem rat34:((2^34:Nat):Rat)=2*((2^33:Nat):Rat)∧(1:Rat)≤((2^33:Nat):Rat):=by
 have h:∀n:Nat,((2^(n+1):Nat):Rat)=2*((2^n:Nat):Rat):=fun n=>by rw [Nat.pow_succ];push_cast;grind
 constructor
 ·exact h 33
 ·exact_mod_cast (show 1≤2^33 by decide)
theorem NIn.j{xs:List Int}{lo hi:Rat}{j:Nat}{a b:R2}(hd:Cvd xs)(h0:xs≠[])(h:NIn xs lo hi j a b):j<5435:=by
 obtain⟨Q,W,h1,h2⟩:=h.ex
 obtain⟨hC,hs⟩:=Yhl hd h0
 obtain⟨k1,k2⟩:=rat34
 have a1:=h.lo
 have a2:=h.hi
 have a3:=h.l0
 have a4:=h.h0
 have:=Yie (Ze0 hd h0).1 hC (K:=2^34) (e:=5400) hs (s:=qv a) (t:=qv b) O4 O4 h.pa h.pb h.ng
 exact Zzc (e:=5400) (w:=34) this h1.wd h2
theorem NIn.start{xs:List Int}{a b:R2}(ha:0<a.2)(hb:0<b.2)(a1:bl a.1.natAbs≤32)(a2:bl a.2.natAbs≤32)(b1:bl b.1.natAbs≤32)(b2:bl b.2.natAbs≤32)(hle:qv a≤qv b)(pa:0≤Zb xs (qv a))(pb:0≤Zb xs (qv b))(ng:Zsr xs (qv a) (qv b)) :
  NIn xs (qv a) (qv b) 0 (slow a) (slow b):=by
 obtain⟨Q,hh⟩:=Hv.start (n:=34) ha hb O O O O O hle
 obtain⟨-,-,-,-,s5⟩:=Za9 (n:=34) ha O O O
 obtain⟨-,-,-,-,t5⟩:=Za9 (n:=34) hb O O O
 have q1:=Znq (K:=2^33) ha (Nat.le_trans (Nat.le_of_lt ((Xo 32 _).1 a1)) O3)
 have q2:=Znq (K:=2^33) hb (Nat.le_trans (Nat.le_of_lt ((Xo 32 _).1 b1)) O3)
 obtain⟨k1,k2⟩:=rat34
 exact⟨⟨Q,_,hh,O4⟩,by rw [s5];exact Rat.le_refl,by rw [t5];exact Rat.le_refl,q1.1,q2.2,by rw [s5];exact pa,by rw [t5];exact pb,by rw [s5,t5];exact ng⟩
structure Fnd (xs:List Int) (s t:Rat) (m:R2):Prop where
 ng:Zb xs (qv m)<0
 lo:s≤qv m
 hi:qv m≤t
 b1:bl m.1.natAbs≤5600
 b2:bl m.2.natAbs≤5600
 lw:Lw m
theorem NIn.round{xs:List Int}{lo hi:Rat}{j:Nat}{a b:R2}(hd:Cvd xs)(h0:xs≠[])(h:NIn xs lo hi j a b) :
  Zc8 a b∧(bl (Qy a b).1.natAbs≤5600∧bl (Qy a b).2.natAbs≤5600∧0<(Qy a b).2)∧(bl a.1.natAbs≤5600∧bl a.2.natAbs≤5600∧0<a.2)∧(bl b.1.natAbs≤5600∧bl b.2.natAbs≤5600∧0<b.2)∧
  (vlu (Py xs) (Qy a b)<0→Fnd xs lo hi (Qy a b))∧(¬vlu (Py xs) (Qy a b)<0→ngb (Py xs) (chx xs) a (Qy a b)=true→NIn xs lo hi (j+1) a (Qy a b))∧
  (¬vlu (Py xs) (Qy a b)<0→ngb (Py xs) (chx xs) a (Qy a b)=false→NIn xs lo hi (j+1) (Qy a b) b):=by
 have hj:=h.j hd h0
 obtain⟨Q,W,h1,h2⟩:=h.ex
 obtain⟨m1,m2,m3,m4,m5,m6,m7⟩:=h1.mid (B:=5600) O O
 have hle:=h1.le
 have l1:=h.lo
 have l2:=h.hi
 have hv:=Zii (xs:=xs) m2.2.2
 have hns:¬vlu (Py xs) (Qy a b)<0→0≤Zb xs (qv (Qy a b)):=fun hn=>by
  rw [hv]at hn
  rcases Qp (Zb xs (qv (Qy a b)))with⟨h5,h6⟩ | ⟨h5,h6⟩ | ⟨h5,h6⟩
  ·exact Rat.le_of_lt h5
  ·rw [h6]at hn;exact absurd O3 hn
  ·rw [h5];exact Rat.le_refl
 have hsem:=Zn6 hd m4.2.2 m2.2.2 (show qv a≤qv (Qy a b) by grind)
 refine⟨m1,m2,m4,m5,fun hn=>?_,fun hn hb=>?_,fun hn hb=>?_⟩
 ·have:Zb xs (qv (Qy a b))<0:=by
   rw [hv]at hn
   rcases Qp (Zb xs (qv (Qy a b)))with⟨h5,h6⟩ | ⟨h5,h6⟩ | ⟨h5,h6⟩
   ·rw [h6]at hn;exact absurd hn O3
   ·exact h5
   ·rw [h6]at hn;exact absurd hn O3
  exact⟨this,O4,O4,m2.1,m2.2.1,Ydx m1 m4.2.2 m5.2.2⟩
 ·exact⟨⟨Q,W,m6,h2⟩,l1,O4,h.l0,h.h0,h.pa,hns hn,hsem.1 hb⟩
 ·refine⟨⟨Q,W,m7,h2⟩,O4,l2,h.l0,h.h0,hns hn,h.pb,?_⟩
  obtain⟨x,x1,x2,x3⟩:=h.ng
  rcases(show x≤qv (Qy a b)∨qv (Qy a b)≤x by grind)with q | q
  ·have:=hsem.2 ⟨x,x1,q,x3⟩;rw [hb]at this;exact absurd this O3
  ·exact⟨x,q,x2,x3⟩
def frs(xs:List Int):Nat→R2→R2→R2×R2
 | 0,a,b=>(a,b)
 | n+1,a,b=>if ngb (Py xs) (chx xs) a (Qy a b)then frs xs n a (Qy a b)else frs xs n (Qy a b) b
structure E32 (a:R2):Prop where
 p:0<a.2
 b1:bl a.1.natAbs≤32
 b2:bl a.2.natAbs≤32
theorem E32.slow{a:R2}(h:E32 a):E32 (slow a)∧qv (Go.Sky.slow a)=qv a∧Lw (Go.Sky.slow a)∧¬Mz a.1 a.2:=by
 obtain⟨s1,s2,s3,s4,s5⟩:=Za9 (n:=32) h.p h.b1 h.b2 O
 exact⟨⟨s2,s3,s4⟩,s5,Zn9 h.p s1,s1⟩
theorem Zht{xs:List Int}{m:R2}(hm:0<m.2):vlu (Py xs) m<0↔Zb xs (qv m)<0:=by
 rw [Zii hm]
 rcases Qp (Zb xs (qv m))with⟨h5,h6⟩ | ⟨h5,h6⟩ | ⟨h5,h6⟩
 ·rw [h6];constructor
  ·intro h;exact absurd h O3
  ·intro h;grind
 ·rw [h6];exact⟨fun _=>h5,fun _=>O3⟩
 ·rw [h6,h5];constructor
  ·intro h;exact absurd h O3
  ·intro h;grind
theorem end_l{xs:List Int}{a b:R2}(ha:E32 a)(hle:qv a≤qv b)(h:vlu (Py xs) (slow a)<0):Fnd xs (qv a) (qv b) (slow a):=by
 obtain⟨s1,s2,s3,s4⟩:=ha.slow
 have h9:=(Zht s1.p).1 h
 exact⟨h9,by rw [s2];exact Rat.le_refl,by rw [s2];exact hle,Nat.le_trans s1.b1 O3,Nat.le_trans s1.b2 O3,s3⟩
theorem end_r{xs:List Int}{a b:R2}(hb:E32 b)(hle:qv a≤qv b)(h:vlu (Py xs) (slow b)<0):Fnd xs (qv a) (qv b) (slow b):=by
 obtain⟨s1,s2,s3,s4⟩:=hb.slow
 have h9:=(Zht s1.p).1 h
 exact⟨h9,by rw [s2];exact hle,by rw [s2];exact Rat.le_refl,Nat.le_trans s1.b1 O3,Nat.le_trans s1.b2 O3,s3⟩
theorem Zzi{xs:List Int}{a b:R2}(hd:Cvd xs)(ha:E32 a)(hb:E32 b)(hle:qv a≤qv b)(h1:¬vlu (Py xs) (slow a)<0)(h2:¬vlu (Py xs) (slow b)<0)(hn:ngb (Py xs) (chx xs) a b=true) :
  NIn xs (qv a) (qv b) 0 (slow a) (slow b):=by
 obtain⟨s1,s2,s3,s4⟩:=ha.slow
 obtain⟨t1,t2,t3,t4⟩:=hb.slow
 have k1:¬Zb xs (qv (slow a))<0:=fun e=>h1 ((Zht s1.p).2 e)
 have k2:¬Zb xs (qv (slow b))<0:=fun e=>h2 ((Zht t1.p).2 e)
 rw [s2]at k1
 rw [t2]at k2
 exact NIn.start ha.p hb.p ha.b1 ha.b2 hb.b1 hb.b2 hle O4 O4 ((Zn6 hd ha.p hb.p hle).1 hn)
theorem ngb_ne{xs:List Int}{a b:R2}(h:ngb (Py xs) (chx xs) a b=true):xs≠[]:=fun e=>by
 subst e
 unfold ngb at h
 split at h
 ·exact absurd h (by show ¬decide ((0:Int)<0)=true;decide)
 ·exact absurd h (by show ¬(decide ((0:Int)<0) || false)=true;decide)
theorem E32.efit{a:R2}(h:E32 a):efit a=true:=by
 have:=h.b1
 have:=h.b2
 unfold Go.Sky.efit;exact decide_eq_true O
structure FIn (xs:List Int) (j:Nat) (a b:R2):Prop where
 ex:∃Q W,Hv 34 Q j W a b
 bj:j≤200
theorem FIn.start{xs:List Int}{a b:R2}(ha:E32 a)(hb:E32 b)(hle:qv a≤qv b):FIn xs 0 (slow a) (slow b):=by
 obtain⟨Q,hh⟩:=Hv.start (n:=34) ha.p hb.p (Nat.le_trans ha.b1 O3) (Nat.le_trans ha.b2 O3) (Nat.le_trans hb.b1 O3) (Nat.le_trans hb.b2 O3) O hle
 exact⟨⟨Q,_,hh⟩,O⟩
theorem FIn.round{xs:List Int}{j:Nat}{a b:R2}(h:FIn xs j a b) :
  Zc8 a b∧(bl (Qy a b).1.natAbs≤5600∧bl (Qy a b).2.natAbs≤5600∧0<(Qy a b).2)∧(bl a.1.natAbs≤5600∧bl a.2.natAbs≤5600∧0<a.2)∧(bl b.1.natAbs≤5600∧bl b.2.natAbs≤5600∧0<b.2)∧
  (j<200→FIn xs (j+1) a (Qy a b)∧FIn xs (j+1) (Qy a b) b):=by
 obtain⟨Q,W,h1⟩:=h.ex
 have hj:=h.bj
 obtain⟨m1,m2,m3,m4,m5,m6,m7⟩:=h1.mid (B:=5600) O O
 exact⟨m1,m2,m4,m5,fun hj2=>⟨⟨⟨Q,W,m6⟩,O⟩,⟨⟨Q,W,m7⟩,O⟩⟩⟩
theorem Yid{xs:List Int}{a b:R2}(ha:E32 a)(hb:E32 b)(hle:qv a≤qv b){i:Nat}(hi:i<2)(h:vlu (Py xs) ([slow a,slow b].getD i (0,0))<0):Fnd xs (qv a) (qv b) ([slow a,slow b].getD i (0,0)):=by
 rcases(show i=0∨i=1 by omega)with e | e
 ·subst e;exact end_l ha hle h
 ·subst e;exact end_r hb hle h
theorem Yjb{a b:R2}(ha:E32 a)(hb:E32 b)(i:Nat)(hi:i<2):E32 ([slow a,slow b].getD i (0,0)):=by
 rcases(show i=0∨i=1 by omega)with e | e
 ·subst e;exact ha.slow.1
 ·subst e;exact hb.slow.1
theorem Yjs{a b:R2}(ha:E32 a)(hb:E32 b)(h:¬0<cmp a b):qv a≤qv b:=(Yjr ha.p hb.p).1 O
theorem e32_0:E32 (0,1):=⟨O3,O3,O3⟩
theorem e32_1:E32 (1,1):=⟨O3,O3,O3⟩
theorem rn01:Fp 0 1=0∧Gt 0 1=1:=by
 obtain⟨n1,n2,-⟩:=Ci e32_0.slow.2.2.2
 exact⟨n1.trans O7,n2.trans O7⟩
theorem rn11:Fp 1 1=1∧Gt 1 1=1:=by
 obtain⟨n1,n2,-⟩:=Ci e32_1.slow.2.2.2
 exact⟨n1.trans O7,n2.trans O7⟩
theorem cmp01:¬0<cmp (0,1) (1,1):=O7
def Hm(xs:List Int):Bool:=ngb (Py xs) (chx xs) (0,1) (1,1)
def slS(d:List Int):Nat→Int
 | 0=>0
 | k+1=>slS d k+Xn [d.getD k 0,(k:Int)+1]
def fsS(d:List Int)(k:Nat):Int:=if k=0 then 0 else d.getD 0 0
theorem Zcu{d:List Int}{k:Nat}(h:k≠0):fsS d k=d.getD 0 0:=if_neg h
def qr(a b:Int):R2:=(Fp a b,Gt a b)
def bgS(c:List Int):Int:=fsS (c.drop 1) (c.drop 1).length
def enS(c:List Int):Int:=slS (c.drop 1) (c.drop 1).length
def bS(ov T:Int)(x y z:List Int):Nat→List R2
 | 0=>List.replicate 3 (0,0)
 | i+1=>(bS ov T x y z i).set i (qr (bgS (Zr i x y z)) (Xn [ov,T]))
def eS(ov T:Int)(x y z:List Int):Nat→List R2
 | 0=>List.replicate 3 (0,0)
 | i+1=>(eS ov T x y z i).set i (qr (enS (Zr i x y z)) (Xn [ov,T]))
theorem Zam(ov T:Int)(x y z:List Int):∀i,(bS ov T x y z i).length=3
 | 0=>rfl
 | i+1=>by show(List.set _ _ _).length=3;rw [List.length_set];exact Zam ov T x y z i
theorem Zal(ov T:Int)(x y z:List Int):∀i,(eS ov T x y z i).length=3
 | 0=>rfl
 | i+1=>by show(List.set _ _ _).length=3;rw [List.length_set];exact Zal ov T x y z i
theorem Zvo{d:List Int}(h:∀a∈d,Qx a):∀k,k≤5→(slS d k).natAbs≤k*(9223372036854775808*5)
 | 0,_=>by show(0:Int).natAbs≤_;decide
 | k+1,hk=>by
  have ih:=Zvo h k O
  obtain⟨h1,h2⟩:=Qv h k
  have h3:(Xn [d.getD k 0,(k:Int)+1]).natAbs≤9223372036854775808*5:=by
   show(d.getD k 0*(((k:Int)+1)*1)).natAbs≤_
   rw [Int.natAbs_mul]
   exact Nat.mul_le_mul O O
  show(slS d k+Xn [d.getD k 0,(k:Int)+1]).natAbs≤_
  rw [Nat.succ_mul];omega
theorem Qw{c:List Int}(h:∀a∈c,Qx a):∀a∈c.drop 1,Qx a:=fun a ha=>h a (List.mem_of_mem_drop ha)
theorem Zat{d:List Int}(h:∀a∈d,Qx a){k:Nat}(hk:k≤5):bl (slS d k).natAbs≤80:=
 (Xo 80 _).2 (Nat.lt_of_le_of_lt (Zvo h k hk) (Nat.lt_of_le_of_lt (Nat.mul_le_mul_right _ hk) O3))
theorem Yf4{d:List Int}(h:∀a∈d,Qx a)(k:Nat):bl (fsS d k).natAbs≤80:=by
 unfold fsS
 split
 ·decide
 ·exact Nat.le_trans (Lu (Qv h 0)) O3
theorem Ztj{fr to ov:Int}{x y z:List Int}(h:Sgo fr to ov x y z):bl (Xn [ov,to-fr]).natAbs≤80∧Xn [ov,to-fr]≠0∧0<Xn [ov,to-fr]:=by
 have a1:=h.t1
 have a2:=h.t2
 have a3:=h.t3
 have a4:=h.o1
 have a5:=h.o2
 have e:Xn [ov,to-fr]=ov*(to-fr):=by show ov*((to-fr)*1)=_;rw [Int.mul_one]
 have hp:0<ov*(to-fr):=Int.mul_pos O O
 rw [e]
 refine⟨(Xo 80 _).2 ?_,O,hp⟩
 rw [Int.natAbs_mul]
 exact Nat.lt_of_le_of_lt (Nat.mul_le_mul (show ov.natAbs≤4294967296 by omega) (show(to-fr).natAbs≤3600000 by omega)) O3
theorem in_pr{fr to ov:Int}{x y z:List Int}(h:Sgo fr to ov x y z):∀a∈[ov,to-fr],Qx a:=fun a ha=>by
 have a1:=h.t1
 have a2:=h.t2
 have a3:=h.t3
 have a4:=h.o1
 have a5:=h.o2
 simp only [List.mem_cons,List.not_mem_nil,or_false]at ha
 rcases ha with rfl | rfl<;>exact⟨O,O⟩
theorem Zgp{d:List Int}(h:∀a∈d,Qx a){k:Nat}(hk:k≤5):bl (Xn [d.getD k 0,(k:Int)+1]).natAbs≤65536:=by
 have h1:=Lu (Qv h k)
 have h2:bl (((k:Int)+1)*1).natAbs≤3:=(Xo 3 _).2 O
 have h3:=Yv (d.getD k 0) (((k:Int)+1)*1)
 show bl (d.getD k 0*(((k:Int)+1)*1)).natAbs≤_
 omega
theorem Zmv{d:List Int}(h:∀a∈d,Qx a){k:Nat}(hk:k<5):Bl (slS d k+Xn [d.getD k 0,(k:Int)+1])=slS d (k+1):=
 Mr (Nat.le_trans (Zat h (k:=k+1) O) O3)
def Zhb(fr to ov:Int)(x y z:List Int)(fr2 to2 ov2:Int)(x2 y2 z2:List Int):Bool:=
 decide (qr (bgS x2) (Xn [ov2,to2-fr2])=qr (enS x) (Xn [ov,to-fr])∧qr (bgS y2) (Xn [ov2,to2-fr2])=qr (enS y) (Xn [ov,to-fr])∧qr (bgS z2) (Xn [ov2,to2-fr2])=qr (enS z) (Xn [ov,to-fr]))
def plT(c:List Int)(a d:Int)(k:Nat):Int:=c.getD k 0*(a^k*d^(5-(k:Int)).toNat)
def plS(c:List Int)(a d:Int):Nat→Int
 | 0=>0
 | k+1=>plS c a d k+plT c a d k
def pl(c:List Int)(a d:Int):Int:=plS c a d c.length
def atS(a d:Int)(x y z:List Int):Nat→List Int
 | 0=>List.replicate 3 0
 | i+1=>(atS a d x y z i).set i (pl (Zr i x y z) a d)
def gS(ov a d:Int)(x y z:List Int):Nat→Int
 | 0=>ov*d^5
 | i+1=>(Int.gcd (gS ov a d x y z i) (pl (Zr i x y z) a d):Int)
abbrev plV (p q r o:Int):Value:= .agg #[.bool (decide (p<0)),.string (Xp p.natAbs),.bool (decide (q<0)),.string (Xp q.natAbs),.bool (decide (r<0)),.string (Xp r.natAbs),.bool (decide (o<0)),.string (Xp o.natAbs)]
theorem Di(a d:Int)(x y z:List Int):∀i,(atS a d x y z i).length=3
 | 0=>rfl
 | i+1=>by show(List.set _ _ _).length=3;rw [List.length_set];exact Di a d x y z i
theorem Ygd(a d:Int)(x y z:List Int){i:Nat}(h:i<3):atS a d x y z i=(atS a d x y z i).set i 0:=by
 match i,h with
 | 0,_=>rfl
 | 1,_=>rfl
 | 2,_=>rfl
theorem Zqf{l:List Int}{i:Nat}(v:Int)(h:i<l.length):(l.set i v).getD i 0=v:=by
 rw [List.getD_eq_getElem?_getD,List.getElem?_set_self h];rfl
theorem Zwb{c:List Int}(h:∀x∈c,Qx x){a d:Int}(ha:0≤a∧a≤3600000)(hd:1≤d∧d≤3600000){k:Nat}(hk:k≤5):(a^k*d^(5-(k:Int)).toNat).natAbs≤3600000^5∧(plT c a d k).natAbs≤9223372036854775808*3600000^5:=by
 have h1:(a^k*d^(5-(k:Int)).toNat).natAbs≤3600000^5:=by
  rw [Int.natAbs_mul,Int.natAbs_pow,Int.natAbs_pow]
  refine Nat.le_trans (Nat.mul_le_mul (Nat.pow_le_pow_left (show a.natAbs≤3600000 by omega) k) (Nat.pow_le_pow_left (show d.natAbs≤3600000 by omega) _)) ?_
  rw [←Nat.pow_add,show k+(5-(k:Int)).toNat=5 by omega]
  exact Nat.le_refl _
 obtain⟨h2,h3⟩:=Qv h k
 refine⟨h1,?_⟩
 unfold plT
 rw [Int.natAbs_mul]
 exact Nat.mul_le_mul O h1
theorem Zwd{c:List Int}(h:∀x∈c,Qx x){a d:Int}(ha:0≤a∧a≤3600000)(hd:1≤d∧d≤3600000):∀k,k≤6→(plS c a d k).natAbs≤k*(9223372036854775808*3600000^5)
 | 0,_=>by show(0:Int).natAbs≤_;decide
 | k+1,hk=>by
  have ih:=Zwd h ha hd k O
  have:=(Zwb h ha hd (k:=k) O).2
  show(plS c a d k+plT c a d k).natAbs≤_
  rw [Nat.succ_mul];omega
theorem Zb2{c:List Int}(h:∀x∈c,Qx x){a d:Int}(ha:0≤a∧a≤3600000)(hd:1≤d∧d≤3600000){k:Nat}(hk:k≤6):bl (plS c a d k).natAbs≤180:=
 (Xo 180 _).2 (Nat.lt_of_le_of_lt (Zwd h ha hd k hk) (Nat.lt_of_le_of_lt (Nat.mul_le_mul_right _ hk) O3))
theorem Zph{c:List Int}(h:∀x∈c,Qx x){a d:Int}(ha:0≤a∧a≤3600000)(hd:1≤d∧d≤3600000){k:Nat}(hk:k≤5):bl (a^k*d^(5-(k:Int)).toNat).natAbs≤180∧bl (plT c a d k).natAbs≤180:=by
 obtain⟨h1,h2⟩:=Zwb h ha hd hk
 exact⟨(Xo 180 _).2 (Nat.lt_of_le_of_lt h1 O3),(Xo 180 _).2 (Nat.lt_of_le_of_lt h2 O3)⟩
theorem Zgo{a:Int}(ha:0≤a∧a≤3600000){k:Nat}(hk:k≤5):bl (a^k).natAbs≤180:=by
 refine(Xo 180 _).2 ?_
 rw [Int.natAbs_pow]
 exact Nat.lt_of_le_of_lt (Nat.le_trans (Nat.pow_le_pow_left (show a.natAbs≤3600000 by omega) k) (Nat.pow_le_pow_right O3 hk)) O3
theorem Zmo{fr to ov:Int}{x y z:List Int}(h:Sgo fr to ov x y z){a d:Int}(ha:0≤a∧a≤3600000)(hd:1≤d∧d≤3600000):∀i,0<gS ov a d x y z i∧bl (gS ov a d x y z i).natAbs≤180
 | 0=>by
  have h1:=h.o1
  have h2:=h.o2
  refine⟨Int.mul_pos O (Int.pow_pos O),(Xo 180 _).2 ?_⟩
  show(ov*d^5).natAbs<_
  rw [Int.natAbs_mul,Int.natAbs_pow]
  exact Nat.lt_of_le_of_lt (Nat.mul_le_mul (show ov.natAbs≤4294967296 by omega) (Nat.pow_le_pow_left (show d.natAbs≤3600000 by omega) 5)) O3
 | i+1=>by
  obtain⟨h1,h2⟩:=Zmo h ha hd i
  have h3:0<Int.gcd (gS ov a d x y z i) (pl (Zr i x y z) a d):=Int.gcd_pos_of_ne_zero_left _ O
  have h4:=Zif (gS ov a d x y z i) (pl (Zr i x y z) a d)
  have h5:bl (pl (Zr i x y z) a d).natAbs≤180:=Zb2 (h.hc i) ha hd (h.lc i).2
  show 0<((Int.gcd _ _:Nat):Int)∧bl ((Int.gcd _ _:Nat):Int).natAbs≤180
  exact⟨O,O⟩
def Yb1(ov a d:Int)(x y z:List Int)(ov2 a2 d2:Int)(x2 y2 z2:List Int):Bool:=
 decide (pl x a d/gS ov a d x y z 3=pl x2 a2 d2/gS ov2 a2 d2 x2 y2 z2 3∧pl y a d/gS ov a d x y z 3=pl y2 a2 d2/gS ov2 a2 d2 x2 y2 z2 3∧pl z a d/gS ov a d x y z 3=pl z2 a2 d2/gS ov2 a2 d2 x2 y2 z2 3∧ov*d^5/gS ov a d x y z 3=ov2*d2^5/gS ov2 a2 d2 x2 y2 z2 3)
def Zg9(to ov:Int)(x y z:List Int)(fr2 ov2:Int)(x2 y2 z2:List Int):Bool:=decide (to=fr2) && Yb1 ov 1 1 x y z ov2 0 1 x2 y2 z2
structure Gin (g:Zz):Prop where
 f:Qx g.1.1
 t:Qx g.1.2.1
 o:Qx g.1.2.2
 x:∀a∈g.2.1.2,Qx a
 y:∀a∈g.2.2.1.2,Qx a
 z:∀a∈g.2.2.2.2,Qx a
def seB(g:Zz):Bool:=El g.1.1 g.1.2.1 g.1.2.2 g.2.1.2 g.2.2.1.2 g.2.2.2.2
def meG(g h:Zz):Bool:=Zg9 g.1.2.1 g.1.2.2 g.2.1.2 g.2.2.1.2 g.2.2.2.2 h.1.1 h.1.2.2 h.2.1.2 h.2.2.1.2 h.2.2.2.2
abbrev SgG (g:Zz):Prop:=Sgo g.1.1 g.1.2.1 g.1.2.2 g.2.1.2 g.2.2.1.2 g.2.2.2.2
theorem Gr{g:Zz}(h:Gin g)(hb:seB g=true):SgG g:=Sgo.of h.x h.y h.z hb
def Zc1(ps:List Zz)(i:Nat):Bool:=seB (ps.getD i G0) && (decide (i=0) || meG (ps.getD (i-1) G0) (ps.getD i G0))
def Me(ps:List Zz):Bool:=(List.range ps.length).all (Zc1 ps) && decide (1≤ps.length) && decide (ps.length≤256)
theorem Zag{ps:List Zz}{i:Nat}(h:Zc1 ps i=true):seB (ps.getD i G0)=true:=by
 unfold Zc1 at h;rw [Bool.and_eq_true]at h;exact h.1
theorem Ydb{ps:List Zz}{i:Nat}(h:seB (ps.getD i G0)=false):Zc1 ps i=false:=by unfold Zc1;rw [h];rfl
theorem Ztm{ps:List Zz}{i:Nat}(h:seB (ps.getD i G0)=true)(h0:i=0):Zc1 ps i=true:=by unfold Zc1;rw [h,decide_eq_true h0];rfl
theorem Zdm{ps:List Zz}{i:Nat}(h:seB (ps.getD i G0)=true)(h0:0<i):Zc1 ps i=meG (ps.getD (i-1) G0) (ps.getD i G0):=by unfold Zc1;rw [h,decide_eq_false O];rfl
theorem Zex{ps:List Zz}{i:Nat}(hi:i<ps.length)(h:Zc1 ps i=false):Me ps=false:=by
 unfold Me
 have:(List.range ps.length).all (Zc1 ps)=false:=by
  cases hb:(List.range ps.length).all (Zc1 ps)with
  | false=>rfl
  | true=>have:=List.all_eq_true.1 hb i (List.mem_range.2 hi);rw [h]at this;cases this
 rw [this];rfl
theorem Zey{ps:List Zz}(h:∀i,i<ps.length→Zc1 ps i=true):Me ps=decide (1≤ps.length∧ps.length≤256):=by
 unfold Me
 rw [List.all_eq_true.2 fun i hi=>h i (List.mem_range.1 hi)]
 simp
theorem Zly(g:Zz)(i:Nat):seB g=false∨(seB g=true∧i=0)∨(seB g=true∧0<i):=by
 cases seB g
 ·exact .inl rfl
 ·exact .inr (by rcases Nat.eq_zero_or_pos i with h | h;exact .inl ⟨rfl,h⟩;exact .inr ⟨rfl,h⟩)
theorem Dt{ps:List Zz}(h:Me ps=true):(∀i,i<ps.length→Zc1 ps i=true)∧1≤ps.length∧ps.length≤256:=by
 unfold Me at h
 simp only [Bool.and_eq_true,decide_eq_true_eq]at h
 exact⟨fun i hi=>List.all_eq_true.1 h.1.1 i (List.mem_range.2 hi),h.1.2,h.2⟩
open Go.ChangeShapes Go.WideShapes Go.ChangeAt Go.RowKit Go.Joins Go.Deep
open Go.Proofs
variable {P:Program} {W:World} {H:Type} {enc:TypeId×Value→H}
theorem Zj8{n:Int}(h:(Lit.int .i64 n).wf=true):Qx n:=by
 simp [Lit.wf,IntKind.has,IntKind.min,IntKind.max,IntKind.bits,IntKind.signed]at h
 exact⟨O,O⟩
theorem Yc7 {t:TypeId} {f0 f1:Field} {v:Value} {d:DataW H} {p:List MemPlace} (ht:P.underlying t=some (.struct #[f0,f1])) (hC:P.cellsOf t=2) (o0:f0.offset=0) (o1:f1.offset=1) (h0:P.underlying f0.type=some (.int .i64)) (h1:P.underlying f1.type=some (.int .i64))
  (hc0:P.cellsOf f0.type=1) (hc1:P.cellsOf f1.type=1) {r:Reach} {b0:Nat} (hv:Value.okWide P W r b0 t v) (h:DataW.Trod enc P W 0 (fun _=>true) true t v d p):∃a b:Int,v= .agg #[.int .i64 a,.int .i64 b]∧Qx a∧Qx b:=by
 obtain⟨cs,rfl,hsz⟩:=okWide_struct ht hv
 obtain⟨fuel,hf⟩:=h
 obtain⟨y0,y1,n,hx,hl,e0,e1⟩:=trod_struct2 ht hf
 rw [o0,hc0]at e0
 rw [o1,hc1]at e1
 obtain⟨m0,q0,w0⟩:=DataW.trod_int h0 e0
 obtain⟨m1,q1,w1⟩:=DataW.trod_int h1 e1
 rw [hC]at hsz
 obtain⟨l⟩:=cs
 have hsz:l.length=2:=by simpa using hsz
 match l,hsz with
 | [c0,c1],_=>
 simp [Value.cells]at q0 q1
 subst q0
 subst q1
 exact⟨m0,m1,rfl,Zj8 w0.2,Zj8 w1.2⟩
theorem Yad{w:World}{a:Addr}{v:Value}(h:w.cell? a=some v):a.spot=none∧a.block<w.heap.size:=by
 unfold World.cell? at h
 split at h
 ·rename_i c t f hh
  refine⟨?_,(Array.getElem?_eq_some_iff.1 hh).1⟩
  cases hs:a.spot with
  | none=>rfl
  | some x=>rw [hs]at h;simp at h
 ·cases h
theorem Zge{t e:TypeId}{c:Value}{fuel:Nat}{x:DataW H×List MemPlace}(hs:P.underlying t=some (.slice e))(he:P.underlying e=some (.int .i64))(hc:P.cellsOf e=1)(h:DataW.trod enc P W 0 (fun _=>true) true fuel t [c]=some x) :
  ∃(s:SL) (l:List Int),c=Qo s∧(Ym 1 Yl (Qo s) l).holds W∧∀a∈l,Qx a:=by
 rcases open_ints hs he hc h with⟨hcs,_⟩ | ⟨a,len,cap,zs,hcs,_,hl,hm,hz,_,hcell,hwz⟩
 ·cases hcs
  exact⟨(none,0,0),[],rfl,Zcm 1 Yl W,fun x hx=>by cases hx⟩
 ·cases hcs
  have hz2:zs.length=cap:=by simpa using hz
  have htl:(zs.take len).length=len:=by rw [List.length_take];omega
  by_cases hn:len=0
  ·subst hn
   exact⟨(some a,0,cap),[],rfl,⟨⟨some a,cap,rfl,hl,hm,.inl rfl⟩,fun b hb=>absurd rfl hb.1⟩,fun x hx=>by cases hx⟩
  ·have c0:=hcell 0 O
   obtain⟨g,off,spot⟩:=a
   rw [show(⟨g,off,spot⟩:Addr).add 0=⟨g,off,spot⟩from rfl]at c0
   obtain⟨hsp,hlt⟩:=Yad c0
   simp only at hsp hlt
   subst hsp
   refine⟨(some ⟨g,off,none⟩,len,cap),zs.take len,rfl,⟨⟨some ⟨g,off,none⟩,cap,by rw [htl],by rw [htl];exact hl,hm,.inr ⟨g,off,rfl,fun i x hi j u hj=>?_⟩⟩,fun b hb=>by cases hb.2;exact hlt⟩,fun x hx=>?_⟩
   ·have hil:i<len:=by
     rcases Nat.lt_or_ge i len with h | h
     ·exact h
     ·rw [List.getElem?_eq_none (by rw [htl];exact h)]at hi;cases hi
    have hj0:j=0:=by
     rcases j with _ | j
     ·rfl
     ·simp [Value.cells]at hj
    subst hj0
    have h2:=hcell i O
    rw [Ow]at h2
    rw [List.getElem?_take_of_lt hil]at hi
    rw [List.getD_eq_getElem?_getD,hi]at h2
    simp [Value.cells]at hj
    subst hj
    simpa using h2
   ·have h2:=hwz x (List.mem_of_mem_take hx)
    have h3:=bounds_i64 h2
    exact⟨O,O⟩
theorem Zyz {t ti ts e:TypeId} {f0 f1 f2 f3 f4 f5:Field} {cs:List Value} {fuel:Nat} {x:DataW H×List MemPlace} (ht:P.underlying t=some (.struct #[f0,f1,f2,f3,f4,f5]))
  (h0:f0.type=ti) (h1:f1.type=ti) (h2:f2.type=ti) (h3:f3.type=ts) (h4:f4.type=ts) (h5:f5.type=ts) (o0:f0.offset=0) (o1:f1.offset=1) (o2:f2.offset=2) (o3:f3.offset=3) (o4:f4.offset=4) (o5:f5.offset=5)
  (hi:P.underlying ti=some (.int .i64)) (hs:P.underlying ts=some (.slice e)) (he:P.underlying e=some (.int .i64)) (hc:P.cellsOf e=1) (hci:P.cellsOf ti=1) (hcs:P.cellsOf ts=1) (hC:P.cellsOf t=6)
  (h:DataW.trod enc P W 0 (fun _=>true) true fuel t cs=some x):∃g:Zz,cs=[.int .i64 g.1.1,.int .i64 g.1.2.1,.int .i64 g.1.2.2,Qo g.2.1.1,Qo g.2.2.1.1,Qo g.2.2.2.1]∧(qG g).holds W∧Gin g:=by
 obtain⟨xs,n,_,hx,hl,hlen,hfd⟩:=DataW.trod_struct ht h
 rw [hC]at hl
 match cs,hl with
 | [c0,c1,c2,c3,c4,c5],_=>
 match xs,hlen with
 | [y0,y1,y2,y3,y4,y5],_=>
 have e0:=hfd 0 f0 rfl
 have e1:=hfd 1 f1 rfl
 have e2:=hfd 2 f2 rfl
 have e3:=hfd 3 f3 rfl
 have e4:=hfd 4 f4 rfl
 have e5:=hfd 5 f5 rfl
 rw [h0,o0,hci]at e0
 rw [h1,o1,hci]at e1
 rw [h2,o2,hci]at e2
 rw [h3,o3,hcs]at e3
 rw [h4,o4,hcs]at e4
 rw [h5,o5,hcs]at e5
 obtain⟨m0,q0,w0⟩:=DataW.trod_int hi e0
 obtain⟨m1,q1,w1⟩:=DataW.trod_int hi e1
 obtain⟨m2,q2,w2⟩:=DataW.trod_int hi e2
 obtain⟨sx,x,rfl,hx1,hx2⟩:=Zge (enc:=enc) hs he hc (c:=c3) (x:=y3) e3
 obtain⟨sy,y,rfl,hy1,hy2⟩:=Zge (enc:=enc) hs he hc (c:=c4) (x:=y4) e4
 obtain⟨sz,z,rfl,hz1,hz2⟩:=Zge (enc:=enc) hs he hc (c:=c5) (x:=y5) e5
 simp at q0 q1 q2
 subst q0
 subst q1
 subst q2
 exact⟨((m0,m1,m2),(sx,x),(sy,y),(sz,z)),rfl,fun u hu=>by
  simp only [List.mem_cons,List.not_mem_nil,or_false]at hu
  rcases hu with rfl | rfl | rfl
  ·exact hx1
  ·exact hy1
  ·exact hz1,⟨Zj8 w0.2,Zj8 w1.2,Zj8 w2.2,hx2,hy2,hz2⟩⟩
theorem Zzg {t0 t ti ts e:TypeId} {f0 f1 f2 f3 f4 f5:Field} {v:Value} {d:DataW H} {p:List MemPlace} (hst:P.underlying t0=some (.slice t)) (ht:P.underlying t=some (.struct #[f0,f1,f2,f3,f4,f5]))
  (h0:f0.type=ti) (h1:f1.type=ti) (h2:f2.type=ti) (h3:f3.type=ts) (h4:f4.type=ts) (h5:f5.type=ts) (o0:f0.offset=0) (o1:f1.offset=1) (o2:f2.offset=2) (o3:f3.offset=3) (o4:f4.offset=4) (o5:f5.offset=5)
  (hi:P.underlying ti=some (.int .i64)) (hs:P.underlying ts=some (.slice e)) (he:P.underlying e=some (.int .i64)) (hc:P.cellsOf e=1) (hci:P.cellsOf ti=1) (hcs:P.cellsOf ts=1) (hC:P.cellsOf t=6)
  {r:Reach} {b0:Nat} (hv:Value.okWide P W r b0 t0 v) (h:DataW.Trod enc P W 0 (fun _=>true) true t0 v d p):∃ps:List Zz,(Pq 6 Mj qG v ps).holds W∧∀g∈ps,Gin g:=by
 obtain⟨a0,len,cap,rfl⟩:=okWide_slice hst hv
 obtain⟨fuel,hf⟩:=h
 rcases open_slice hst hf with⟨hq,_⟩ | ⟨a,len',cap',m,n,D,Pl,hq,_,hl,hm,hmm,hx,hel⟩
 ·simp [Value.cells]at hq
  obtain⟨rfl,rfl,rfl⟩:=hq
  exact⟨[],⟨Zcm 6 Mj W,fun z hz=>by cases hz⟩,fun g hg=>by cases hg⟩
 ·simp [Value.cells]at hq
  obtain⟨rfl,rfl,rfl⟩:=hq
  simp at hmm
  subst hmm
  haveI:Inhabited Zz:=⟨G0⟩
  obtain⟨xs,hxl,hxs⟩:=Zhg (p:=fun i (g:Zz)=>W.cells? 0 (a.add (i*6)) 6=some [.int .i64 g.1.1,.int .i64 g.1.2.1,.int .i64 g.1.2.2,Qo g.2.1.1,Qo g.2.2.1.1,Qo g.2.2.2.1]∧(qG g).holds W∧Gin g) len fun i hi'=>by
   obtain⟨cs',k2,k3⟩:=hel i O
   rw [hC]at k2
   obtain⟨g,rfl,k4,k5⟩:=Zyz ht h0 h1 h2 h3 h4 h5 o0 o1 o2 o3 o4 o5 hi hs he hc hci hcs hC k3
   exact⟨g,k2,k4,k5⟩
  have hall:∀g∈xs,(qG g).holds W∧Gin g:=fun g hg=>by
   obtain⟨i,hi',rfl⟩:=List.getElem_of_mem hg
   exact(hxs i _ (List.getElem?_eq_getElem hi')).2
  refine⟨xs,⟨⟨⟨some a,m,by rw [hxl],O,hm,?_⟩,fun b hb=>?_⟩,fun g hg=>(hall g hg).1⟩,fun g hg=>(hall g hg).2⟩
  ·rcases Nat.eq_zero_or_pos len with hz | hz
   ·exact .inl (List.eq_nil_of_length_eq_zero O)
   ·right
    obtain⟨g,off,spot⟩:=a
    obtain⟨hsp,_⟩:=Zjm hst hv
    simp only at hsp
    subst hsp
    refine⟨g,off,rfl,fun i x hi' j u hj=>?_⟩
    obtain⟨_,_,hc'⟩:=World.cells?_some (hxs i x hi').1
    have hj2:j<6:=by
     rcases Nat.lt_or_ge j 6 with h | h
     ·exact h
     ·rw [List.getElem?_eq_none (by simp [Value.cells];omega)]at hj;cases hj
    have:=hc' j hj2
    simp only [Ow]at this
    rw [this]
    simpa [Value.cells]using hj
  ·cases hb.2
   exact(Zjm hst hv).2
end Go.Sky
namespace Go.Sky
variable {P:Program} {N:Nat} {sc:Nat→Prop} {env env':Qt} {H H':Hp} {Q Q':Exit→Act→World→Prop} {M:Nat→Prop}
@[reducible] def lk2 {α:Type} : List (Nat×α)→Nat→Option α
 | [],_=>none
 | (k,v) :: r,n=>match Nat.beq k n with
  | true=>some v
  | false=>lk2 r n
theorem Ztv{α:Type} : ∀(e:List (Nat×α)) (n:Nat),lk2 e n=lk e n
 | [],_=>rfl
 | (k,v) :: r,n=>by unfold lk2 lk;cases Nat.beq k n<;>simp [Ztv r n]
@[reducible] def ev2 (e:Qt):Operand→Option Value
 | .tmp t=>lk2 e t
 | .const v=>some v
 | .global g=>some (.pointer (some ⟨g,0,none⟩))
 | .func f=>some (.func (.func f) #[] #[])
theorem ev2_eq(e:Qt)(x:Operand):ev2 e x=ev e x:=by cases x<;>simp [ev2,ev,Ztv]
@[reducible] def nth {α:Type} : List α→Nat→Option α
 | [],_=>none
 | x :: r,n=>match n with
  | 0=>some x
  | n+1=>nth r n
theorem Ztn{α:Type} : ∀(l:List α) (n:Nat),nth l n=l[n]?
 | [],n=>by simp [nth]
 | x :: r,0=>by simp [nth]
 | x :: r,n+1=>by simp [nth,Ztn r n]
@[reducible] def ltb (a b:Nat):Bool:=match Nat.ble b a with
 | true=>false
 | false=>true
theorem Og{a b:Nat}(h:ltb a b=true):Nat.blt a b=true:=by
 unfold ltb at h
 cases hb:Nat.ble b a with
 | true=>rw [hb]at h;cases h
 | false=>
  have h1:¬b≤a:=fun h2=>by rw [Nat.ble_eq_true_of_le h2]at hb;cases hb
  show Nat.ble (a+1) b=true
  exact Nat.ble_eq_true_of_le O
@[reducible] def neb (a b:Nat):Bool:=match Nat.beq a b with
 | true=>false
 | false=>true
theorem Zah{a b:Nat}(h:neb a b=true):a≠b:=fun e=>by
 subst e;unfold neb at h;rw [Nat.beq_refl]at h;cases h
class Som {α:Type} (a:Option α) (b:outParam α):Prop where h:a=some b
instance {α:Type} {b:α} : Som (some b) b:=⟨rfl⟩
class TB (a:Bool):Prop where h:a=true
instance:TB true:=⟨rfl⟩
theorem Som.e{x:Operand}{v:Value}(h:Som (ev2 env x) v):ev env x=some v:=(ev2_eq env x).symm.trans h.h
theorem Som.l{α:Type}{e:List (Nat×α)}{n:Nat}{v:α}(h:Som (lk2 e n) v):lk e n=some v:=(Ztv e n).symm.trans h.h
theorem Som.n{α:Type}{l:List α}{n:Nat}{v:α}(h:Som (nth l n) v):l.toArray[n]? = some v:=by
 have:=(Ztn l n).symm.trans h.h;simpa using this
class AndO (s q:Prop) (r:outParam Prop):Prop where h:r→s∧q
instance (priority:=low) {s q:Prop} : AndO s q (s∧q):=⟨id⟩
instance {q:Prop} : AndO True q q:=⟨fun h=>⟨trivial,h⟩⟩
class Und (P:Program) (t:TypeId) (d:outParam TypeDesc):Prop where h:P.underlying t=some d
class Siz (P:Program) (t:TypeId) (k:outParam Nat):Prop where h:∀w,(sizeOf t).run P w= .ok k w
class Agg (P:Program) (t:TypeId) (b:outParam Bool):Prop where h:∀w,(isAgg t).run P w= .ok b w
class EncT {α:Type} (P:Program) (t:TypeId) (k:Nat) (enc:α→Value):Prop where h:Enc P t k enc
class RdI (P:Program) (H:Hp) (v:Value) (i:outParam Nat) {α:outParam Type} (k:outParam Nat) (enc:outParam (α→Value)) (xs:outParam (List α)):Prop where
 h:∃p,lk H i=some p∧Rd p k enc v xs
instance {α:Type} {v:Value} {i k:Nat} {enc:α→Value} {xs:List α} : RdI P ((i,Ym k enc v xs) :: H) v i k enc xs:=⟨_,Zx _ _ _,Zo⟩
instance {α:Type} {v:Value} {i k:Nat} {enc:α→Value} {xs:List α} {e:TypeId} [h:EncT P e k enc]:RdI P ((i,Ma k e enc v xs) :: H) v i k enc xs:=⟨_,Zx _ _ _,Xa h.h⟩
instance {β:Type} {v:Value} {i k:Nat} {enc:β→Value} {q:β→Pc} {zs:List β} : RdI P ((i,Pq k enc q v zs) :: H) v i k enc zs:=⟨_,Zx _ _ _,Zi⟩
instance (priority:=low) {α:Type} {v:Value} {i j k:Nat} {p:Pc} {enc:α→Value} {xs:List α} [h:RdI P H v i k enc xs] [hn:TB (neb j i)]:RdI P ((j,p) :: H) v i k enc xs:=
 ⟨by obtain⟨q,h1,h2⟩:=h.h;exact⟨q,by rw [Zl _ _ (Zah hn.h)];exact h1,h2⟩⟩
class BxI (H:Hp) (b:Nat) (i:outParam Nat) (t:outParam TypeId) (l:outParam (List Value)):Prop where h:lk H i=some (box b t l.toArray)
instance {b i:Nat} {t:TypeId} {l:List Value} : BxI ((i,box b t l.toArray) :: H) b i t l:=⟨Zx _ _ _⟩
instance (priority:=low) {b i j:Nat} {t:TypeId} {p:Pc} {l:List Value} [h:BxI H b i t l] [hn:TB (neb j i)]:BxI ((j,p) :: H) b i t l:=⟨by rw [Zl _ _ (Zah hn.h)];exact h.h⟩
class RxI (H:Hp) (b:Nat) (i:outParam Nat) (t:outParam TypeId) (l:outParam (List Value)):Prop where h:lk H i=some (Kr b t l.toArray)
instance {b i:Nat} {t:TypeId} {l:List Value} : RxI ((i,Kr b t l.toArray) :: H) b i t l:=⟨Zx _ _ _⟩
instance (priority:=low) {b i j:Nat} {t:TypeId} {p:Pc} {l:List Value} [h:RxI H b i t l] [hn:TB (neb j i)]:RxI ((j,p) :: H) b i t l:=⟨by rw [Zl _ _ (Zah hn.h)];exact h.h⟩
class DI (P:Program) (N:Nat) (sc:Nat→Prop) (op:Go.Op) (env:Qt) (H:Hp) (v:outParam Value) (s:outParam Prop):Prop where
 h:s→∀{d:Option Tmp} {ty:TypeId} {pos:String} {af:Array Edge} {g:Option (Nat×Bool)},Ml P N sc ⟨d,op,ty,pos,af,g⟩ env H v
section
variable {x y c:Operand} {v u:Value} {t t':TypeId} {k:IntKind} {m n:Int}
instance [h:Som (ev2 env x) v]:DI P N sc (.move x) env H v True:=⟨fun _=>Zlh rfl h.e⟩
instance [h:Som (ev2 env x) v]:DI P N sc (.assign x) env H v True:=⟨fun _=>d_as rfl h.e⟩
instance {i:Nat} {vs:List Value} [h:Som (ev2 env x) (.tuple vs.toArray)] [h2:Som (nth vs i) v]:DI P N sc (.extract x i) env H v True:=⟨fun _=>Zap rfl h.e h2.n⟩
instance {ad:Addr} [h:Som (ev2 env x) (.pointer (some ad))]:DI P N sc (.nilCheck x) env H (.pointer (some ad)) True:=⟨fun _=>d_nc rfl h.e⟩
instance {p:Prop} [Decidable p] [h:Som (ev2 env x) (.bool (decide p))]:DI P N sc (.unOp .not t x) env H (.bool (decide (¬p))) True:=⟨fun _=>d_not rfl h.e⟩
instance (priority:=low) {b:Bool} [h:Som (ev2 env x) (.bool b)]:DI P N sc (.unOp .not t x) env H (.bool (!b)) True:=⟨fun _=>Yp rfl h.e⟩
instance (priority:=high) [h:Som (ev2 env x) (.bool true)]:DI P N sc (.unOp .not t x) env H (.bool false) True:=⟨fun _=>Yp rfl h.e⟩
instance (priority:=high) [h:Som (ev2 env x) (.bool false)]:DI P N sc (.unOp .not t x) env H (.bool true) True:=⟨fun _=>Yp rfl h.e⟩
instance [h:Som (ev2 env c) (.bool true)] [h1:Som (ev2 env x) v]:DI P N sc (.pick c x y) env H v True:=⟨fun _=>Yjf rfl h.e h1.e⟩
instance [h:Som (ev2 env c) (.bool false)] [h1:Som (ev2 env y) v]:DI P N sc (.pick c x y) env H v True:=⟨fun _=>Yjg rfl h.e h1.e⟩
instance [h:Som (ev2 env x) (.int k m)] [h1:Som (ev2 env y) (.int k n)]:DI P N sc (.binOp .lss t x y t') env H (.bool (decide (m<n))) True:=⟨fun _=>Yfh rfl h.e h1.e⟩
instance [h:Som (ev2 env x) (.int k m)] [h1:Som (ev2 env y) (.int k n)]:DI P N sc (.binOp .leq t x y t') env H (.bool (decide (m≤n))) True:=⟨fun _=>d_leq rfl h.e h1.e⟩
instance [h:Som (ev2 env x) (.int k m)] [h1:Som (ev2 env y) (.int k n)]:DI P N sc (.binOp .gtr t x y t') env H (.bool (decide (n<m))) True:=⟨fun _=>Zfn rfl h.e h1.e⟩
instance [h:Som (ev2 env x) (.int k m)] [h1:Som (ev2 env y) (.int k n)]:DI P N sc (.binOp .geq t x y t') env H (.bool (decide (n≤m))) True:=⟨fun _=>d_geq rfl h.e h1.e⟩
instance [h:Som (ev2 env x) (.int k m)] [h1:Som (ev2 env y) (.int k n)]:DI P N sc (.binOp .eql t x y t') env H (.bool (decide (m=n))) True:=⟨fun _=>Yfk rfl h.e h1.e⟩
instance [h:Som (ev2 env x) (.int k m)] [h1:Som (ev2 env y) (.int k n)]:DI P N sc (.binOp .neq t x y t') env H (.bool (decide (m≠n))) True:=⟨fun _=>Yff rfl h.e h1.e⟩
instance {a b:Bool} [h:Som (ev2 env x) (.bool a)] [h1:Som (ev2 env y) (.bool b)] [h2:Und P t .bool]:DI P N sc (.binOp .eql t x y t') env H (.bool (a == b)) True:=⟨fun _=>Zmu rfl h.e h1.e h2.h⟩
instance {a b:Bool} [h:Som (ev2 env x) (.bool a)] [h1:Som (ev2 env y) (.bool b)] [h2:Und P t .bool]:DI P N sc (.binOp .neq t x y t') env H (.bool (a != b)) True:=⟨fun _=>Zhd rfl h.e h1.e h2.h⟩
instance [h:Som (ev2 env x) (.int .i64 m)] [h1:Som (ev2 env y) (.int .i64 n)]:DI P N sc (.binOp .add t x y t') env H (.int .i64 (m+n)) (-9223372036854775808≤m+n∧m+n≤9223372036854775807):=⟨fun s=>Yfm rfl h.e h1.e s⟩
instance [h:Som (ev2 env x) (.int .i64 m)] [h1:Som (ev2 env y) (.int .i64 n)]:DI P N sc (.binOp .sub t x y t') env H (.int .i64 (m-n)) (-9223372036854775808≤m-n∧m-n≤9223372036854775807):=⟨fun s=>d_sub rfl h.e h1.e s⟩
instance [h:Som (ev2 env x) (.int .i64 m)] [h1:Som (ev2 env y) (.int .i64 n)]:DI P N sc (.binOp .mul t x y t') env H (.int .i64 (m*n)) (-9223372036854775808≤m*n∧m*n≤9223372036854775807):=⟨fun s=>d_mul rfl h.e h1.e s⟩
instance {i kk:Nat} {α:Type} {enc:α→Value} {xs:List α} {e:TypeId} [h:Som (ev2 env x) v] [h1:RdI P H v i kk enc xs] [h2:Und P t (.slice e)]:DI P N sc (.call { callee:= .builtin .len,args:=#[x],argTypes:=#[t] }) env H (.int .i64 xs.length) True:=
 ⟨fun _=>by obtain⟨p,h3,h4⟩:=h1.h;exact d_len rfl h.e h3 h4 h2.h⟩
instance {s:ByteArray} [h:Som (ev2 env x) (.string s)] [h2:Und P t .string]:DI P N sc (.call { callee:= .builtin .len,args:=#[x],argTypes:=#[t] }) env H (.int .i64 s.size) True:=⟨fun _=>d_lens rfl h.e h2.h⟩
end
@[reducible] def eqb (a b:Nat):Bool:=match Nat.beq a b with
 | true=>true
 | false=>false
theorem eqb_eq{a b:Nat}(h:eqb a b=true):a=b:=by
 unfold eqb at h;cases hb:Nat.beq a b with
 | true=>exact Nat.eq_of_beq_eq_true hb
 | false=>rw [hb]at h;cases h
@[reducible] def lenq {α:Type} : List α→Nat→Bool
 | [],n=>match n with
  | 0=>true
  | _+1=>false
 | _ :: r,n=>match n with
  | 0=>false
  | n+1=>lenq r n
theorem Ze9{α:Type} : ∀{l:List α} {n:Nat},lenq l n=true→l.length=n
 | [],0,_=>rfl
 | [],n+1,h=>by simp [lenq]at h
 | _ :: r,0,h=>by simp [lenq]at h
 | _ :: r,n+1,h=>by
  have:=Ze9 (l:=r) (n:=n) (by simpa [lenq]using h)
  simp [this]
@[reducible] def fit0 {α β:Type} : List α→List β→Bool
 | _,[]=>true
 | l,_ :: vs=>match l with
  | []=>false
  | _ :: r=>fit0 r vs
@[reducible] def fits {α β:Type} : List α→Nat→List β→Bool
 | [],j,vs=>match j with
  | 0=>fit0 ([]:List α) vs
  | _+1=>false
 | x :: r,j,vs=>match j with
  | 0=>fit0 (x :: r) vs
  | j+1=>fits r j vs
theorem Zoo{α β:Type} : ∀{vs:List β} {l:List α},fit0 l vs=true→vs.length≤l.length
 | [],_,_=>O5
 | _ :: vs,[],h=>by simp [fit0]at h
 | _ :: vs,_ :: r,h=>by
  have:=Zoo (vs:=vs) (l:=r) (by simpa [fit0]using h)
  simp;omega
theorem Zw7{α β:Type} : ∀{l:List α} {j:Nat} {vs:List β},fits l j vs=true→j+vs.length≤l.length
 | [],0,vs,h=>by have:=Zoo (by simpa [fits]using h);simpa using this
 | [],j+1,vs,h=>by simp [fits]at h
 | x :: r,0,vs,h=>by have:=Zoo (l:=x :: r) (by simpa [fits]using h);simpa using this
 | x :: r,j+1,vs,h=>by
  have:=Zw7 (l:=r) (j:=j) (by simpa [fits]using h)
  simp;omega
@[reducible] def seg {α:Type} : List α→Nat→Nat→List α
 | [],_,_=>[]
 | x :: r,j,k=>match j with
  | j+1=>seg r j k
  | 0=>match k with
   | 0=>[]
   | k+1=>x :: seg r 0 k
theorem Zh0{α:Type} : ∀(l:List α) (j k n:Nat) (u:α),(seg l j k)[n]? = some u→l[j+n]? = some u
 | [],_,_,_,_,h=>by simp [seg]at h
 | x :: r,j+1,k,n,u,h=>by
  have:=Zh0 r j k n u (by simpa [seg]using h)
  rw [show j+1+n=(j+n)+1 by omega];simpa using this
 | x :: r,0,0,n,u,h=>by simp [seg]at h
 | x :: r,0,k+1,0,u,h=>by simpa [seg]using h
 | x :: r,0,k+1,n+1,u,h=>by
  have:=Zh0 r 0 k n u (by simpa [seg]using h)
  rw [Nat.zero_add]at this ⊢;simpa using this
class LEv {α:Type} (l:List α) (r:outParam (List α)):Prop where h:l=r
instance {α:Type} : LEv ([]:List α) []:=⟨rfl⟩
instance {α:Type} {a:α} {l r:List α} [h:LEv l r]:LEv (a :: l) (a :: r):=⟨by rw [h.h]⟩
class AddN (a b:Nat) (c:outParam Nat):Prop where h:a+b=c
instance (priority:=low) {a b:Nat} : AddN a b (a+b):=⟨rfl⟩
instance {b:Nat} : AddN 0 b b:=⟨Nat.zero_add b⟩
instance {a:Nat} : AddN a 0 a:=⟨rfl⟩
class Df (α:Type) (d:outParam α):Prop where t:True
instance:Df Int 0:=⟨trivial⟩
instance:Df Nat 0:=⟨trivial⟩
section
variable {x y:Operand} {v u:Value} {t tb:TypeId} {b j i k f:Nat} {l vs ws:List Value}
instance [h:Som (ev2 env x) (.pointer (some ⟨b,j,none⟩))] [h1:Agg P t false] [h2:BxI H b i tb l] [h3:Som (nth l j) v]:DI P N sc (.load t x) env H v True:=⟨fun _=>Yfi rfl h.e h2.h h1.h h3.n⟩
instance [h:Som (ev2 env x) (.pointer (some ⟨b,j,none⟩))] [h1:Agg P t true] [h2:BxI H b i tb l] [h4:Siz P t k] [h3:LEv (seg l j k) vs] [h5:TB (lenq vs k)]:DI P N sc (.load t x) env H (.agg vs.toArray) True:=
 ⟨fun _=>Zr3 rfl h.e h2.h h1.h h4.h (Ze9 h5.h) (fun n u hu=>by rw [←h3.h]at hu;simpa using Zh0 l j k n u hu)⟩
instance [h:Som (ev2 env x) (.pointer (some ⟨b,j,none⟩))] [h1:Agg P t false] [h2:RxI H b i tb l] [h3:Som (nth l j) v]:DI P N sc (.load t x) env H v True:=⟨fun _=>d_lr rfl h.e h2.h h1.h h3.n⟩
instance [h:Som (ev2 env x) (.pointer (some ⟨b,j,none⟩))] [h1:Agg P t true] [h2:RxI H b i tb l] [h4:Siz P t k] [h3:LEv (seg l j k) vs] [h5:TB (lenq vs k)]:DI P N sc (.load t x) env H (.agg vs.toArray) True:=
 ⟨fun _=>d_lra rfl h.e h2.h h1.h h4.h (Ze9 h5.h) (fun n u hu=>by rw [←h3.h]at hu;simpa using Zh0 l j k n u hu)⟩
instance {fs:List Field} {c q bo:Nat} {nm tag pk:String} {ft:TypeId} {em:Bool} [h:Som (ev2 env x) (.pointer (some ⟨b,j,none⟩))] [h1:Und P t (.struct fs.toArray)] [h2:Som (nth fs f) ⟨nm,ft,q,em,tag,pk,bo⟩] [h3:Siz P ft k] [h5:TB (neb k 0)] [h4:AddN j q c] :
  DI P N sc (.fieldAddr t x f) env H (.pointer (some ⟨b,c,none⟩)) True:=⟨fun _=>by
 obtain⟨k,rfl⟩:=Nat.exists_eq_succ_of_ne_zero (Zah h5.h)
 exact d_fa rfl h.e h1.h h2.n h3.h rfl h4.h⟩
instance {α:Type} {enc:α→Value} {xs:List α} {e:TypeId} {kd:IntKind} {n:Nat} [h:Som (ev2 env x) v] [h1:Som (ev2 env y) (.int kd (n:Int))] [h2:RdI P H v i k enc xs] [h3:Und P t (.slice e)] [h4:Siz P e k] :
  DI P N sc (.indexAddr t x y) env H (.pointer (some (ead v n k))) (n<xs.length):=⟨fun s=>by obtain⟨p,h5,h6⟩:=h2.h;exact Yf rfl h.e h1.e h5 h6 h3.h h4.h rfl s⟩
instance {α:Type} {enc:α→Value} {xs:List α} {e:TypeId} {kd:IntKind} {n:Nat} [h:Som (ev2 env x) v] [h1:Som (ev2 env y) (.int kd (@OfNat.ofNat Int n (@instOfNat n)))] [hl:TB (eqb n n)] [h2:RdI P H v i k enc xs] [h3:Und P t (.slice e)] [h4:Siz P e k] :
  DI P N sc (.indexAddr t x y) env H (.pointer (some (ead v (@OfNat.ofNat Nat n (instOfNatNat n)) k))) (@OfNat.ofNat Nat n (instOfNatNat n)<xs.length):=⟨fun s=>by obtain⟨p,h5,h6⟩:=h2.h;exact Yf rfl h.e h1.e h5 h6 h3.h h4.h rfl s⟩
instance {α:Type} {enc:α→Value} {xs:List α} {n:Nat} {d0:α} [h:Som (ev2 env x) (.pointer (some (ead v n k)))] [h2:RdI P H v i k enc xs] [h3:EncT P t k enc] [h4:Df α d0] :
  DI P N sc (.load t x) env H (enc (xs.getD n d0)) (n<xs.length):=⟨fun s=>by obtain⟨p,h5,h6⟩:=h2.h;exact Pj d0 rfl h.e h5 h6 h3.h s⟩
instance {fs:List Field} {q bo:Nat} {nm tag pk:String} {ft:TypeId} {em:Bool} [h:Som (ev2 env x) (.agg l.toArray)] [h1:Und P t (.struct fs.toArray)] [h2:Som (nth fs f) ⟨nm,ft,q,em,tag,pk,bo⟩] [h3:Agg P ft false] [h4:Som (nth l q) v] :
  DI P N sc (.field t x f) env H v True:=⟨fun _=>d_fld rfl h.e h1.h h2.n h3.h h4.n⟩
end
class Adv (n:Nat) (p:Prop) (q:outParam Prop):Prop where h:q→p
theorem go(n:Nat){p q:Prop}[h:Adv n p q](k:q):p:=h.h k
@[reducible] def dsto (l:List Oper) (j:Nat):Option Nat:=match nth l j with
 | some o=>o.dst
 | none=>none
theorem Ee{l:List Oper}{j e:Nat}(h:Som (dsto l j) e):(l.toArray[j]?).bind (·.dst)=some e:=by
 have h:=h.h
 unfold dsto at h
 rw [Ztn]at h
 simp only [List.getElem?_toArray]
 cases hb:l[j]? with
 | none=>rw [hb]at h;cases h
 | some o=>rw [hb]at h;exact h
section
variable {n:Nat} {q r s:Prop} {c x y:Code} {id:Nat} {l:List Oper} {ops:Array Oper} {rest:List Oper} {d j t:Nat} {op:Go.Op} {ty:TypeId} {pos:String} {af:Array Edge} {v:Value} {e:Exit} {b:Bool}
instance {p:Prop} : Adv 0 p p:=⟨fun k=>k⟩
instance [h:Adv n (E P N sc x (Exit.then (y.wp P Q) Q) env H) q]:Adv (n+1) (E P N sc (.seq x y) Q env H) q:=⟨fun k=>e_seq (h.h k)⟩
instance [h:Adv n (L P N sc l.toArray l Q env H) q]:Adv (n+1) (E P N sc (.region id l.toArray false) Q env H) q:=⟨fun k=>e_reg (h.h k)⟩
instance [h:Adv n (X N sc .normal Q env H) q]:Adv (n+1) (E P N sc .skip Q env H) q:=⟨fun k=>e_skip (h.h k)⟩
instance [h:Adv n (E P N sc c (Exit.inBlock id Q) env H) q]:Adv (n+1) (E P N sc (.block id c) Q env H) q:=⟨fun k=>Yja (h.h k)⟩
instance [h:Adv n (X N sc (.exit id) Q env H) q]:Adv (n+1) (E P N sc (.exit id) Q env H) q:=⟨fun k=>e_exit (h.h k)⟩
instance [h:Adv n (X N sc .ret Q env H) q]:Adv (n+1) (E P N sc .ret Q env H) q:=⟨fun k=>e_ret (h.h k)⟩
instance {o:Operand} [h1:Som (ev2 env o) (.bool true)] [h:Adv n (E P N sc x Q env H) q]:Adv (n+1) (E P N sc (.cond o x y) Q env H) q:=⟨fun k=>Yi8 h1.e (h.h k)⟩
instance {o:Operand} [h1:Som (ev2 env o) (.bool false)] [h:Adv n (E P N sc y Q env H) q]:Adv (n+1) (E P N sc (.cond o x y) Q env H) q:=⟨fun k=>Yi9 h1.e (h.h k)⟩
instance [h:Adv n (E P N sc y Q env H) q]:Adv (n+1) (X N sc .normal (Exit.then (y.wp P Q) Q) env H) q:=⟨fun k=>x_then (h.h k)⟩
instance {K:Act→World→Prop} [h:Adv n (X N sc .ret Q env H) q]:Adv (n+1) (X N sc .ret (Exit.then K Q) env H) q:=⟨fun k=>x_ret (h.h k)⟩
instance {K:Act→World→Prop} [h:Adv n (X N sc (.exit id) Q env H) q]:Adv (n+1) (X N sc (.exit id) (Exit.then K Q) env H) q:=⟨fun k=>x_exit (h.h k)⟩
instance [h:Adv n (X N sc .normal Q env H) q]:Adv (n+1) (X N sc .normal (Exit.inBlock id Q) env H) q:=⟨fun k=>x_bn (h.h k)⟩
instance [h:Adv n (X N sc .ret Q env H) q]:Adv (n+1) (X N sc .ret (Exit.inBlock id Q) env H) q:=⟨fun k=>x_br (h.h k)⟩
instance [h:Adv n (X N sc .normal Q env H) q]:Adv (n+1) (X N sc (.exit id) (Exit.inBlock id Q) env H) q:=⟨fun k=>x_be (h.h k)⟩
instance (priority:=low) {id':Nat} [hn:TB (neb id' id)] [h:Adv n (X N sc (.exit id') Q env H) q]:Adv (n+1) (X N sc (.exit id') (Exit.inBlock id Q) env H) q:=⟨fun k=>x_bo (Zah hn.h) (h.h k)⟩
instance [h:Adv n (X N sc .normal Q env H) q]:Adv (n+1) (L P N sc ops [] Q env H) q:=⟨fun k=>l_nil (h.h k)⟩
instance [h1:DI P N sc op env H v s] [h2:TB (ltb d N)] [h:Adv n (L P N sc ops rest Q ((d,v) :: env) H) q] [h3:AndO s q r]:Adv (n+1) (L P N sc ops (⟨some d,op,ty,pos,af,none⟩ :: rest) Q env H) r:=
 ⟨fun k=>dt (h1.h (h3.h k).1) (h.h (h3.h k).2) (Og h2.h)⟩
instance [hj:Som (dsto l j) t] [hg:Som (lk2 env t) (.bool b)] [h4:TB (ltb t N)] [h1:DI P N sc op env H v s] [h2:TB (ltb d N)] [h:Adv n (L P N sc l.toArray rest Q ((d,v) :: env) H) q] [h3:AndO s q r]:Adv (n+1) (L P N sc l.toArray (⟨some d,op,ty,pos,af,some (j,b)⟩ :: rest) Q env H) r:=
 ⟨fun k=>Ly (h1.h (h3.h k).1) (Ee hj) hg.l (h.h (h3.h k).2) (Og h4.h) (Og h2.h)⟩
instance [hj:Som (dsto l j) t] [hg:Som (lk2 env t) (.bool false)] [h4:TB (ltb t N)] [h2:TB (ltb d N)] [h:Adv n (L P N sc l.toArray rest Q ((d,undef) :: env) H) q]:Adv (n+1) (L P N sc l.toArray (⟨some d,op,ty,pos,af,some (j,true)⟩ :: rest) Q env H) q:=
 ⟨fun k=>gsk (Ee hj) hg.l rfl (Og h4.h) (Og h2.h) (h.h k)⟩
instance [hj:Som (dsto l j) t] [hg:Som (lk2 env t) (.bool true)] [h4:TB (ltb t N)] [h2:TB (ltb d N)] [h:Adv n (L P N sc l.toArray rest Q ((d,undef) :: env) H) q]:Adv (n+1) (L P N sc l.toArray (⟨some d,op,ty,pos,af,some (j,false)⟩ :: rest) Q env H) q:=
 ⟨fun k=>gsk (Ee hj) hg.l rfl (Og h4.h) (Og h2.h) (h.h k)⟩
instance [hj:Som (dsto l j) t] [hg:Som (lk2 env t) undef] [h2:TB (ltb d N)] [h:Adv n (L P N sc l.toArray rest Q ((d,undef) :: env) H) q]:Adv (n+1) (L P N sc l.toArray (⟨some d,op,ty,pos,af,some (j,b)⟩ :: rest) Q env H) q:=
 ⟨fun k=>gsku (Ee hj) hg.l (Og h2.h) (h.h k)⟩
end
end Go.Sky
namespace Go.Sky
variable {P:Program} {N:Nat} {sc:Nat→Prop} {env env':Qt} {H H':Hp} {Q Q':Exit→Act→World→Prop} {M:Nat→Prop}
class Hw (w0:World) (sc:Nat→Prop):Prop where h:∀b,w0.heap.size≤b→sc b
class EvI (env:Qt) (xs:List Operand) (vs:outParam (List Value)):Prop where h:EvL env xs vs
instance:EvI env [] []:=⟨trivial⟩
instance {x:Operand} {r:List Operand} {v:Value} {vs:List Value} [h:Som (ev2 env x) v] [h2:EvI env r vs]:EvI env (x :: r) (v :: vs):=⟨⟨h.e,h2.h⟩⟩
class CalF (P:Program) (f:FuncId):Prop where h:∀args w,(callFunc f args).run P w= .ok (.enter f args) w
class AddI (n:Nat) (l:List Pc) (H:Hp) (H':outParam Hp):Prop where h:adds n l H=H'
instance {n:Nat} : AddI n [] H H:=⟨rfl⟩
instance {n:Nat} {p:Pc} {r:List Pc} [h:AddI (n+1) r H H']:AddI n (p :: r) H ((n,p) :: H'):=⟨by rw [←h.h]⟩
class PreL (P:Program) (H:Hp) (al:Bool) (ids:List Nat) (pre:outParam (List Pc)):Prop where h:PreOk H al pre
class RoI (p:Pc):Prop where h:p.own=false
instance {α:Type} {k:Nat} {enc:α→Value} {v:Value} {xs:List α} : RoI (Ym k enc v xs):=⟨rfl⟩
instance {β:Type} {k:Nat} {enc:β→Value} {q:β→Pc} {v:Value} {zs:List β} : RoI (Pq k enc q v zs):=⟨rfl⟩
instance {b:Nat} {t:TypeId} {cs:Array Value} : RoI (Kr b t cs):=⟨rfl⟩
class LnI (P:Program) (al:Bool) (i:Nat) (p:Pc) (q:outParam Pc):Prop where
 h:i≠0→∀{H r},lk H i=some p→PreOk H al r→PreOk H al (q :: r)
theorem Zsj{i:Nat}(h:i≠0):Nat.beq i 0=false:=by
 cases hb:Nat.beq i 0 with
 | true=>exact absurd (Nat.eq_of_beq_eq_true hb) h
 | false=>rfl
instance {al:Bool} {i:Nat} {p:Pc} [h:RoI p]:LnI P al i p p:=⟨fun h0 _ _ hi hr=>Zk i hi (Zsj h0) h.h hr⟩
instance {α:Type} {i k:Nat} {e:TypeId} {enc:α→Value} {v:Value} {xs:List α} [h:EncT P e k enc]:LnI P false i (Ma k e enc v xs) (Ym k enc v xs):=⟨fun h0 _ _ hi hr=>Ycl i hi (Zsj h0) h.h hr⟩
instance {i b:Nat} {t:TypeId} {cs:Array Value} : LnI P false i (box b t cs) (Kr b t cs):=⟨fun h0 _ _ hi hr=>Zgc i hi (Zsj h0) hr⟩
instance {al:Bool} : PreL P H al [] []:=⟨trivial⟩
instance {al:Bool} {i:Nat} {ids:List Nat} {p q:Pc} {r:List Pc} [h:Som (lk2 H i) p] [h0:TB (neb i 0)] [h1:LnI P al i p q] [h2:PreL P H al ids r]:PreL P H al (i :: ids) (q :: r):=⟨h1.h (Zah h0.h) h.l h2.h⟩
theorem T.conv{o:Oper}{G:Type}{φ:G→Prop}{e1:G→Qt}{H1 H2:G→Hp}(h:T P N sc M o env H φ e1 H1)(he:∀g,H1 g=H2 g):T P N sc M o env H φ e1 H2:=by
 rw [show H2=H1 from(funext he).symm];exact h
section
variable {f:FuncId} {xs:List Operand} {ats:Array TypeId} {d:Nat} {vs fs us:List Value} {pre:List Pc} {al:Bool} {G:Type} {φ:G→Prop} {Yc:G→Value} {its:G→List Pc} {w0:World} {M0:Nat→Prop} {ty:TypeId} {pos:String} {af:Array Edge} {g:Option (Nat×Bool)}
theorem Zh(n:Nat)(ids:List Nat)(hc:Cal P f vs.toArray pre al φ Yc its){G':G→Hp}[hx:EvI env xs vs][hf:CalF P f][hp:PreL P H al ids pre][h0:Som (lk2 H 0) (Xf w0 M0)][hN:TB (ltb d N)][hw:Hw w0 sc][ha:∀g,AddI n (its g) H (G' g)] :
  T P N sc M ⟨some d,.call { callee:= .value (.func f),args:=xs.toArray,argTypes:=ats },ty,pos,af,g⟩ env H φ (fun g=>(d,Yc g) :: env) G':=
 (Pk (n:=n) hc rfl rfl (Og hN.h) hx.h hf.h hp.h h0.l hw.h).conv fun g=>(ha g).h
class On1 (P:Program) (N:Nat) (sc:Nat→Prop) (env:Qt) (H:Hp) (v:Value):Prop where h:One N sc env H v
instance {k:IntKind} {n:Int} : On1 P N sc env H (.int k n):=⟨Zn rfl⟩
instance {b:Bool} : On1 P N sc env H (.bool b):=⟨Zn rfl⟩
instance {s:ByteArray} : On1 P N sc env H (.string s):=⟨Zn rfl⟩
instance {a:Option Addr} : On1 P N sc env H (.pointer a):=⟨Zn rfl⟩
instance {a:Option Addr} {m n:Nat} : On1 P N sc env H (.slice a m n):=⟨Zn rfl⟩
instance (priority:=low) {α:Type} {i k:Nat} {v:Value} {enc:α→Value} {ys:List α} [h:RdI P H v i k enc ys]:On1 P N sc env H v:=⟨by obtain⟨p,h1,h2⟩:=h.h;exact Pt h1 h2⟩
class OnL (P:Program) (N:Nat) (sc:Nat→Prop) (env:Qt) (H:Hp) (l:List Value):Prop where h:∀u∈l,One N sc env H u
instance:OnL P N sc env H []:=⟨fun _ h=>nomatch h⟩
instance {v:Value} {l:List Value} [h:On1 P N sc env H v] [h2:OnL P N sc env H l]:OnL P N sc env H (v :: l):=⟨fun u hu=>by
 cases hu with
 | head=>exact h.h
 | tail _ hu=>exact h2.h u hu⟩
class CeI (P:Program) (N:Nat) (sc:Nat→Prop) (env:Qt) (H:Hp) (v:Value) (l:outParam (List Value)):Prop where
 h:∀a w,Sat N sc env H a w→v.cells=l.toArray
 o:∀u∈l,One N sc env H u
instance {l:List Value} [h:OnL P N sc env H l]:CeI P N sc env H (.agg l.toArray) l:=⟨fun _ _ _=>rfl,h.h⟩
instance (priority:=low) {v:Value} [h:On1 P N sc env H v]:CeI P N sc env H v [v]:=⟨fun a w hs=>Ya (h.h a w hs),fun u hu=>by rw [List.mem_singleton.1 hu];exact h.h⟩
class ClI (v:Value) (l:outParam (List Value)):Prop where h:v.cells=l.toArray
instance {l:List Value} : ClI (.agg l.toArray) l:=⟨rfl⟩
instance {k:IntKind} {n:Int} : ClI (.int k n) [.int k n]:=⟨rfl⟩
instance {b:Bool} : ClI (.bool b) [.bool b]:=⟨rfl⟩
instance {s:ByteArray} : ClI (.string s) [.string s]:=⟨rfl⟩
instance {a:Option Addr} : ClI (.pointer a) [.pointer a]:=⟨rfl⟩
instance {a:Option Addr} {m n:Nat} : ClI (.slice a m n) [.slice a m n]:=⟨rfl⟩
class Zer (P:Program) (t:TypeId) (z:outParam Value):Prop where h:∀w,(zeroValue t).run P w= .ok z w
variable {t tb:TypeId} {l l':List Value} {v z:Value} {x y:Operand} {i j k b:Nat}
theorem Zs(n:Nat)[hz:Zer P t z][hc:ClI z l][h0:Som (lk2 H 0) (Xf w0 M0)][hN:TB (ltb d N)][hw:Hw w0 sc] :
  T P N sc M ⟨some d,.alloc t,ty,pos,af,g⟩ env H (G:=Nat) (fun _=>True) (fun b=>(d,.pointer (some ⟨b,0,none⟩)) :: env) (fun b=>(n,box b t l.toArray) :: H):=Fz rfl rfl hz.h hc.h h0.l hw.h (Og hN.h)
theorem Yg(n:Nat)[hx:Som (ev2 env x) v][hc:ClI v l][h0:Som (lk2 H 0) (Xf w0 M0)][hN:TB (ltb d N)][hw:Hw w0 sc] :
  T P N sc M ⟨some d,.box t x,ty,pos,af,g⟩ env H (G:=Nat) (fun _=>True) (fun b=>(d,.pointer (some ⟨b,0,none⟩)) :: env) (fun b=>(n,box b t l.toArray) :: H):=t_box rfl rfl (Og hN.h) hx.e hc.h h0.l hw.h
@[reducible] def lay2 {α:Type} : List α→Nat→List α→List α
 | [],_,_=>[]
 | c :: r,j,vs=>match j with
  | j+1=>c :: lay2 r j vs
  | 0=>match vs with
   | []=>c :: r
   | v :: vs=>v :: lay2 r 0 vs
theorem Zoe{α:Type} : ∀(l:List α) (j:Nat) (vs:List α),j+vs.length≤l.length→lay2 l j vs=l.take j ++ vs ++ l.drop (j+vs.length)
 | [],j,vs,h=>by
  have h1:vs=[]:=List.eq_nil_of_length_eq_zero (by simp only [List.length_nil]at h;omega)
  subst h1;simp [lay2]
 | c :: r,j+1,vs,h=>by
  rw [show j+1+vs.length=(j+vs.length)+1 by omega]
  simp only [lay2,List.take_succ_cons,List.drop_succ_cons,List.cons_append]
  rw [Zoe r j vs (by simp at h;omega)]
 | c :: r,0,[],h=>by simp [lay2]
 | c :: r,0,v :: vs,h=>by
  have h2:0+vs.length≤r.length:=by simp only [List.length_cons]at h;omega
  have:=Zoe r 0 vs h2
  simp only [lay2,this,Nat.zero_add,List.take_zero,List.nil_append,List.length_cons,List.drop_succ_cons,List.cons_append]
theorem Ya3 [hx:Som (ev2 env x) (.pointer (some ⟨b,j,none⟩))] [hy:Som (ev2 env y) v] [hB:BxI H b i tb l] [hi:TB (neb i 0)] [hv:CeI P N sc env H v vs] [hk:Siz P t k] [hl:TB (lenq vs k)] [hf:TB (fits l j vs)] [hr:LEv (lay2 l j vs) l']
  [h0:Som (lk2 H 0) (Xf w0 M0)] [hw:Hw w0 sc] (hM:M b):T P N sc M ⟨none,.store t x y,ty,pos,af,g⟩ env H (G:=Unit) (fun _=>True) (fun _=>env) (fun _=>(i,box b tb l'.toArray) :: H):=fun a w hs=>by
 have hle:=Zw7 hf.h
 refine Ziq rfl rfl hx.e hy.e hB.h (Zah hi.h) (hv.h a w hs) hk.h (Ze9 hl.h) (by simpa using hle) hv.o ?_ h0.l hw.h hM a w hs
 unfold Gy
 rw [←hr.h,Zoe l j vs hle]
variable {ops:Array Oper} {rest:List Oper} {op:Go.Op} {genv:G→Qt} {gH:G→Hp} {dd:Option Tmp}
theorem Yd(ht:T P N sc (fun _=>True) ⟨dd,op,ty,pos,af,none⟩ env H φ genv gH)(h:∀g,φ g→L P N sc ops rest Q (genv g) (gH g)):L P N sc ops (⟨dd,op,ty,pos,af,none⟩ :: rest) Q env H:=tt ht rfl h
theorem gt' {ll:List Oper} {e:Nat} {bb:Bool} (ht:T P N sc (fun _=>True) ⟨dd,op,ty,pos,af,some (j,bb)⟩ env H φ genv gH) [hj:Som (dsto ll j) e] [he:Som (lk2 env e) (.bool bb)] [hN:TB (ltb e N)]
  (h:∀g,φ g→L P N sc ll.toArray rest Q (genv g) (gH g)):L P N sc ll.toArray (⟨dd,op,ty,pos,af,some (j,bb)⟩ :: rest) Q env H:=gtt ht rfl (Ee hj) he.l (Og hN.h) h
instance {n:Nat} {q:Prop} [hx:Som (ev2 env x) (.pointer (some ⟨b,j,none⟩))] [hy:Som (ev2 env y) v] [hB:BxI H b i tb l] [hi:TB (neb i 0)] [hv:CeI P N sc env H v vs] [hk:Siz P t k] [hl:TB (lenq vs k)] [hf:TB (fits l j vs)] [hr:LEv (lay2 l j vs) l']
  [h0:Som (lk2 H 0) (Xf w0 M0)] [hw:Hw w0 sc] [h:Adv n (L P N sc ops rest Q env ((i,box b tb l'.toArray) :: H)) q]:Adv (n+1) (L P N sc ops (⟨none,.store t x y,ty,pos,af,none⟩ :: rest) Q env H) q:=
 ⟨fun q=>Yd (Ya3 trivial) fun _ _=>h.h q⟩
end
end Go.Sky
namespace Go.Sky
variable {P:Program} {N:Nat} {sc:Nat→Prop} {env env':Qt} {H H' H0:Hp} {Q Q':Exit→Act→World→Prop} {M:Nat→Prop}
@[reducible] def drp2:Nat→Hp→Hp
 | _,[]=>[]
 | k,(i,p) :: r=>match Nat.beq i k with
  | true=>drp2 k r
  | false=>(i,p) :: drp2 k r
theorem Zxh:∀(k:Nat) (H:Hp),drp2 k H=drp k H
 | _,[]=>rfl
 | k,(i,p) :: r=>by unfold drp2 drp;cases Nat.beq i k<;>simp [Zxh k r]
@[reducible] def anyb:List Nat→Nat→Bool
 | [],_=>false
 | k :: r,i=>match Nat.beq i k with
  | true=>true
  | false=>anyb r i
theorem Zpm:∀(ks:List Nat) (i:Nat),anyb ks i=ks.any (Nat.beq i)
 | [],_=>rfl
 | k :: r,i=>by unfold anyb;rw [List.any_cons,←Zpm r i];cases Nat.beq i k<;>rfl
@[reducible] def rst2 (ks:List Nat):Hp→Hp
 | []=>[]
 | (i,p) :: r=>match anyb ks i with
  | true=>(i,p) :: rst2 ks r
  | false=>rst2 ks r
theorem Zvx(ks:List Nat):∀H:Hp,rst2 ks H=rst ks H
 | []=>rfl
 | (i,p) :: r=>by unfold rst2 rst;rw [←Zpm];cases anyb ks i<;>simp [Zvx ks r]
class AgI (H0 H:Hp) (ks:List Nat):Prop where h:Agr H0 H ks
instance:AgI H0 H []:=⟨trivial⟩
instance {k:Nat} {ks:List Nat} {p:Pc} [h1:Som (lk2 H k) p] [h2:Som (lk2 H0 k) p] [h:AgI H0 H ks]:AgI H0 H (k :: ks):=⟨⟨h1.l.trans h2.l.symm,h.h⟩⟩
class StI (P:Program) (N:Nat) (sc:Nat→Prop) (M:Nat→Prop) (op:Go.Op) (env:Qt) (H:Hp) (v:outParam Value) (s:outParam Prop):Prop where
 h:s→∀{d:Option Tmp} {ty:TypeId} {pos:String} {af:Array Edge} {g:Option (Nat×Bool)},Stb P N sc M ⟨d,op,ty,pos,af,g⟩ env H v
section
variable {op:Go.Op} {v:Value} {s:Prop} {k b:Nat} {t:TypeId} {l:List Value} {ks:List Nat}
instance [h:DI P N sc op env H v s]:StI P N sc (fun _=>False) op env H v s:=⟨fun hs=>Qa (h.h hs)⟩
instance [hb:BxI H b k t l] [h:DI P N sc op env (drp2 k H) v s]:StI P N sc (fun x=>x=b) op env H v s:=⟨fun hs=>st1 k hb.h (by rw [←Zxh];exact h.h hs)⟩
instance [ha:AgI H0 H ks] [h:DI P N sc op env (rst2 ks H) v s]:StI P N sc (Off H0 ks) op env H v s:=⟨fun hs=>stf (by rw [←Zvx];exact h.h hs) ha.h⟩
end
class MI (M:Nat→Prop) (b:Nat):Prop where h:M b
class MS (N:Nat) (sc:Nat→Prop) (M:Nat→Prop) (env:Qt) (H:Hp) (b:Nat):Prop where h:∀a w,Sat N sc env H a w→M b
instance {b:Nat} : MS N sc (fun _=>True) env H b:=⟨fun _ _ _=>trivial⟩
instance {b:Nat} : MS N sc (fun x=>x=b) env H b:=⟨fun _ _ _=>rfl⟩
instance {b:Nat} [h:MI M b]:MS N sc M env H b:=⟨fun _ _ _=>h.h⟩
@[reducible] def nin (ks:List Nat) (i:Nat):Bool:=match anyb ks i with
 | true=>false
 | false=>true
instance (priority:=low) {b i:Nat} {t:TypeId} {l:List Value} {ks:List Nat} [hb:BxI H b i t l] [hn:TB (nin ks i)] [ha:AgI H0 H ks]:MS N sc (Off H0 ks) env H b:=⟨fun a w hs=>fun k hk p hp hf=>by
 rw [←ha.h.mem k hk]at hp
 have hne:i≠k:=fun e=>by
  subst e
  have h1:=hn.h
  unfold nin at h1
  rw [Zpm]at h1
  cases h2:ks.any (Nat.beq i)with
  | true=>rw [h2]at h1;cases h1
  | false=>
   have:=List.any_eq_false.1 h2 i hk
   simp at this
 exact hs.sep i k _ p hne hb.h hp rfl b rfl hf⟩
section
variable {d i j k b e n:Nat} {vs ws l l':List Value} {w0:World} {M0:Nat→Prop} {ty t tb:TypeId} {pos:String} {af:Array Edge} {g:Option (Nat×Bool)} {x y:Operand} {v z:Value} {bb:Bool}
variable {ll:List Oper} {F:Qt→Hp→Prop} {rest:List (Nat×Nat)} {op:Go.Op} {G:Type} {φ:G→Prop} {genv:G→Qt} {gH:G→Hp} {dd:Option Tmp} {q r s:Prop}
theorem t_stm [hx:Som (ev2 env x) (.pointer (some ⟨b,j,none⟩))] [hy:Som (ev2 env y) v] [hB:BxI H b i tb l] [hi:TB (neb i 0)] [hv:CeI P N sc env H v vs] [hk:Siz P t k] [hl:TB (lenq vs k)] [hf:TB (fits l j vs)] [hr:LEv (lay2 l j vs) l']
  [h0:Som (lk2 H 0) (Xf w0 M0)] [hw:Hw w0 sc] [hM:MS N sc M env H b]:T P N sc M ⟨none,.store t x y,ty,pos,af,g⟩ env H (G:=Unit) (fun _=>True) (fun _=>env) (fun _=>(i,box b tb l'.toArray) :: H):=fun a w hs=>Ya3 (hM.h a w hs) a w hs
theorem Oj(n:Nat){ks:List Nat}[hz:Zer P t z][hc:ClI z l][h0:Som (lk2 H 0) (Xf w0 M0)][hN:TB (ltb d N)][hw:Hw w0 sc][ha:AgI H0 H ks] :
  T P N sc (Off H0 ks) ⟨some d,.alloc t,ty,pos,af,g⟩ env H (G:=Nat) (fun b=>MI (Off H0 ks) b) (fun b=>(d,.pointer (some ⟨b,0,none⟩)) :: env) (fun b=>(n,box b t l.toArray) :: H):=fun a w hs K Q hK=>
 Ya4 (i:=n) rfl rfl (Og hN.h) hz.h hc.h h0.l hw.h ha.h a w hs K Q fun g a' w' hg=>hK g a' w' ⟨hg⟩
theorem Yx(ht:T P N sc M ⟨dd,op,ty,pos,af,none⟩ env H φ genv gH)[ho:Som (nth ll i) ⟨dd,op,ty,pos,af,none⟩](h:∀g,φ g→LD P N sc M ll.toArray F rest (genv g) (gH g)):LD P N sc M ll.toArray F ((i,1) :: rest) env H:=Fm ho.n ht h
theorem r3x(ht:T P N sc (fun _=>True) ⟨dd,op,ty,pos,af,none⟩ env H φ genv gH)[ho:Som (nth ll i) ⟨dd,op,ty,pos,af,none⟩](h:∀g,φ g→LD P N sc M ll.toArray F rest (genv g) (gH g)):LD P N sc M ll.toArray F ((i,3) :: rest) env H:=r3' ho.n ht h
theorem Ny{ts:List Nat}{listed:Array Bool}(ht:T P N sc M ⟨dd,op,ty,pos,af,none⟩ env H φ genv gH)[ho:Som (nth ll i) ⟨dd,op,ty,pos,af,none⟩](h:∀g,φ g→A P N sc M ll.toArray ts Q n (listed.setIfInBounds i true) (genv g) (gH g)):Zpp P N sc M ll.toArray ts Q n listed env H i:=Hd ho.n ht h
instance [ho:Som (nth ll i) ⟨some d,op,ty,pos,af,none⟩] [h1:StI P N sc M op env H v s] [h2:TB (ltb d N)] [h:Adv n (LD P N sc M ll.toArray F rest ((d,v) :: env) H) q] [h3:AndO s q r]:Adv (n+1) (LD P N sc M ll.toArray F ((i,0) :: rest) env H) r:=
 ⟨fun k=>Qe ho.n rfl (h1.h (h3.h k).1) (h.h (h3.h k).2) rfl (Og h2.h)⟩
instance [ho:Som (nth ll i) ⟨some d,op,ty,pos,af,some (j,bb)⟩] [hj:Som (dsto ll j) e] [he:Som (lk2 env e) (.bool bb)] [hN:TB (ltb e N)] [h1:StI P N sc M op env H v s] [h2:TB (ltb d N)] [h:Adv n (LD P N sc M ll.toArray F rest ((d,v) :: env) H) q] [h3:AndO s q r]:Adv (n+1) (LD P N sc M ll.toArray F ((i,0) :: rest) env H) r:=
 ⟨fun k=>Bu (h1.h (h3.h k).1) ho.n rfl (Ee hj) he.l rfl (h.h (h3.h k).2) (Og hN.h) (Og h2.h)⟩
instance [ho:Som (nth ll i) ⟨some d,op,ty,pos,af,some (j,true)⟩] [hj:Som (dsto ll j) e] [he:Som (lk2 env e) (.bool false)] [hN:TB (ltb e N)] [h2:TB (ltb d N)] [h:Adv n (LD P N sc M ll.toArray F rest ((d,undef) :: env) H) q]:Adv (n+1) (LD P N sc M ll.toArray F ((i,2) :: rest) env H) q:=
 ⟨fun k=>r2 ho.n rfl (Ee hj) he.l rfl (Og hN.h) rfl (Og h2.h) (h.h k)⟩
instance [ho:Som (nth ll i) ⟨some d,op,ty,pos,af,some (j,false)⟩] [hj:Som (dsto ll j) e] [he:Som (lk2 env e) (.bool true)] [hN:TB (ltb e N)] [h2:TB (ltb d N)] [h:Adv n (LD P N sc M ll.toArray F rest ((d,undef) :: env) H) q]:Adv (n+1) (LD P N sc M ll.toArray F ((i,2) :: rest) env H) q:=
 ⟨fun k=>r2 ho.n rfl (Ee hj) he.l rfl (Og hN.h) rfl (Og h2.h) (h.h k)⟩
instance [ho:Som (nth ll i) ⟨none,.store t x y,ty,pos,af,none⟩] [hx:Som (ev2 env x) (.pointer (some ⟨b,j,none⟩))] [hy:Som (ev2 env y) v] [hB:BxI H b k tb l] [hi:TB (neb k 0)] [hv:CeI P N sc env H v vs] [hk:Siz P t e] [hl:TB (lenq vs e)] [hf:TB (fits l j vs)] [hr:LEv (lay2 l j vs) l']
  [h0:Som (lk2 H 0) (Xf w0 M0)] [hw:Hw w0 sc] [h:Adv n (LD P N sc M ll.toArray F rest env ((k,box b tb l'.toArray) :: H)) q]:Adv (n+1) (LD P N sc M ll.toArray F ((i,3) :: rest) env H) q:=
 ⟨fun q=>r3' ho.n (Ya3 trivial) fun _ _=>h.h q⟩
instance [ho:Som (nth ll i) ⟨none,.store t x y,ty,pos,af,none⟩] [hx:Som (ev2 env x) (.pointer (some ⟨b,j,none⟩))] [hy:Som (ev2 env y) v] [hB:BxI H b k tb l] [hi:TB (neb k 0)] [hM:MS N sc M env H b] [hv:CeI P N sc env H v vs] [hk:Siz P t e] [hl:TB (lenq vs e)] [hf:TB (fits l j vs)] [hr:LEv (lay2 l j vs) l']
  [h0:Som (lk2 H 0) (Xf w0 M0)] [hw:Hw w0 sc] [h:Adv n (LD P N sc M ll.toArray F rest env ((k,box b tb l'.toArray) :: H)) q]:Adv (n+1) (LD P N sc M ll.toArray F ((i,1) :: rest) env H) q:=
 ⟨fun q=>Fm ho.n t_stm fun _ _=>h.h q⟩
instance [ho:Som (nth ll i) ⟨some d,op,ty,pos,af,none⟩] [h1:DI P N sc op env H v s] [h2:TB (ltb d N)] [h:Adv n (LD P N sc M ll.toArray F rest ((d,v) :: env) H) q] [h3:AndO s q r]:Adv (n+1) (LD P N sc M ll.toArray F ((i,1) :: rest) env H) r:=
 ⟨fun k=>Fm ho.n (Zav (h1.h (h3.h k).1) rfl (Og h2.h)) fun _ _=>h.h (h3.h k).2⟩
instance [ho:Som (nth ll i) ⟨some d,op,ty,pos,af,none⟩] [h1:DI P N sc op env H v s] [h2:TB (ltb d N)] [h:Adv n (LD P N sc M ll.toArray F rest ((d,v) :: env) H) q] [h3:AndO s q r]:Adv (n+1) (LD P N sc M ll.toArray F ((i,3) :: rest) env H) r:=
 ⟨fun k=>r3' ho.n (Zav (h1.h (h3.h k).1) rfl (Og h2.h)) fun _ _=>h.h (h3.h k).2⟩
instance [h:Adv n (F env H) q] {ops:Array Oper} : Adv (n+1) (LD P N sc M ops F [] env H) q:=⟨fun k=>r_fin (h.h k)⟩
theorem Xw {id:Nat} {l:List Oper} (M:Nat→Prop) (plan:List (Nat×Nat)) (h:LD P N sc M l.toArray (X N sc .normal Q) plan env H) (hm:P.follows .mixedOrders=true:=by kernel_rfl)
  (hp:(Region.noSelect l.toArray && Nat.beq plan.length l.length && Fr l.toArray (Zbh plan) plan (Array.replicate l.length false) && (Region.ready .any l.toArray (Kh plan (Array.replicate l.length false))).isEmpty)=true:=by kernel_rfl) :
  E P N sc (.region id l.toArray true) Q env H:=e_dreg M plan hm hp h
end
end Go.Sky
namespace Go.Sky
open Go.RowKit (Below)
variable {P:Program} {N:Nat} {sc:Nat→Prop} {env env':Qt} {H H':Hp} {Q Q':Exit→Act→World→Prop} {M:Nat→Prop}
class EnI (vs:List Value) (env:outParam Qt):Prop where h:Po 0 vs=env
class PnI (vs:List Pc) (H:outParam Hp):Prop where h:Xx 1 vs=H
section
variable {a b c d e f g i j:Value} {p q r s t u v w x y:Pc}
instance:EnI [] []:=⟨rfl⟩
instance:EnI [a] [(0,a)]:=⟨rfl⟩
instance:EnI [a,b] [(0,a),(1,b)]:=⟨rfl⟩
instance:EnI [a,b,c] [(0,a),(1,b),(2,c)]:=⟨rfl⟩
instance:EnI [a,b,c,d] [(0,a),(1,b),(2,c),(3,d)]:=⟨rfl⟩
instance:EnI [a,b,c,d,e] [(0,a),(1,b),(2,c),(3,d),(4,e)]:=⟨rfl⟩
instance:EnI [a,b,c,d,e,f] [(0,a),(1,b),(2,c),(3,d),(4,e),(5,f)]:=⟨rfl⟩
instance:EnI [a,b,c,d,e,f,g] [(0,a),(1,b),(2,c),(3,d),(4,e),(5,f),(6,g)]:=⟨rfl⟩
instance:PnI [] []:=⟨rfl⟩
instance:PnI [p] [(1,p)]:=⟨rfl⟩
instance:PnI [p,q] [(1,p),(2,q)]:=⟨rfl⟩
instance:PnI [p,q,r] [(1,p),(2,q),(3,r)]:=⟨rfl⟩
instance:PnI [p,q,r,s] [(1,p),(2,q),(3,r),(4,s)]:=⟨rfl⟩
instance:PnI [p,q,r,s,t] [(1,p),(2,q),(3,r),(4,s),(5,t)]:=⟨rfl⟩
instance:PnI [p,q,r,s,t,u] [(1,p),(2,q),(3,r),(4,s),(5,t),(6,u)]:=⟨rfl⟩
instance:PnI [p,q,r,s,t,u,v] [(1,p),(2,q),(3,r),(4,s),(5,t),(6,u),(7,v)]:=⟨rfl⟩
instance:PnI [p,q,r,s,t,u,v,w] [(1,p),(2,q),(3,r),(4,s),(5,t),(6,u),(7,v),(8,w)]:=⟨rfl⟩
instance:PnI [p,q,r,s,t,u,v,w,x] [(1,p),(2,q),(3,r),(4,s),(5,t),(6,u),(7,v),(8,w),(9,x)]:=⟨rfl⟩
instance:PnI [p,q,r,s,t,u,v,w,x,y] [(1,p),(2,q),(3,r),(4,s),(5,t),(6,u),(7,v),(8,w),(9,x),(10,y)]:=⟨rfl⟩
end
class RoL (l:List Pc):Prop where h:AllRo l
instance:RoL []:=⟨trivial⟩
instance {p:Pc} {r:List Pc} [h:RoI p] [h2:RoL r]:RoL (p :: r):=⟨⟨h.h,h2.h⟩⟩
theorem Zd {f:FuncId} {fn:Func} {c:Code} {vs:List Value} {pre:List Pc} {al:Bool} {G:Type} {φ:G→Prop} {Yc:G→Value} {its:G→List Pc} {N:Nat} (hf:P.funcs[f]? = some fn) (hN:fn.ntmps=N)
  [he:EnI vs env] [hp:PnI pre H] [hro:RoL pre] (h:∀w0 (sc:Nat→Prop),Hw w0 sc→(∀b,sc b→w0.heap.size≤b∨∃q∈pre,q.fp b)→E P N sc c (Zb6 P fn w0 pre al φ Yc its) env ((0,Xf w0 (fun _=>False)) :: H))
  (hb:fn.body=some c:=by rfl) (hle:Nat.ble vs.length N=true:=by rfl):Cal P f vs.toArray pre al φ Yc its:=
 cal_in hf hb hN hle hro.h fun w0 sc hw hsc=>by rw [he.h,hp.h];exact h w0 sc ⟨hw⟩ hsc
class RvI (P:Program) (N:Nat) (sc:Nat→Prop) (env:Qt) (H:Hp) (r:ResultVar) (v:outParam Value):Prop where h:RV P N sc env H r v
instance {t:Nat} {v:Value} [h:Som (lk2 env t) v]:RvI P N sc env H (.tmp t) v:=⟨h.l⟩
instance {c b i k:Nat} {t tb:TypeId} {l:List Value} [h:Som (lk2 env c) (.pointer (some ⟨b,0,none⟩))] [h1:Agg P t true] [h2:BxI H b i tb l] [h3:Siz P t k] [h4:TB (lenq l k)]:RvI P N sc env H (.cell c t) (.agg l.toArray):=⟨Kb h.l h2.h h1.h h3.h (Ze9 h4.h)⟩
instance {c b i:Nat} {t tb:TypeId} {v:Value} [h:Som (lk2 env c) (.pointer (some ⟨b,0,none⟩))] [h1:Agg P t false] [h2:BxI H b i tb [v]]:RvI P N sc env H (.cell c t) v:=⟨Zbe h.l h2.h h1.h⟩
section
variable {fn:Func} {pre:List Pc} {al:Bool} {G:Type} {φ:G→Prop} {Yc:G→Value} {its:G→List Pc} {w0:World} {r1 r2 r3:ResultVar} {v1 v2 v3:Value}
theorem Xj(hsc:∀b,sc b→w0.heap.size≤b∨∃q∈pre,q.fp b)(g:G)(hf:fn.results=#[r1])[h1:RvI P N sc env H r1 v1][h0:Som (lk2 H 0) (Xf w0 (fun _=>False))](hv:Yc g=v1)(hg:φ g)(hgive:Give H al (its g)) :
  X N sc .ret (Zb6 P fn w0 pre al φ Yc its) env H:=Zli (.inl rfl) hsc g v1 (fun a w hs=>Zep hs hf h1.h) hv hg h0.l hgive
theorem Nz(hsc:∀b,sc b→w0.heap.size≤b∨∃q∈pre,q.fp b)(g:G)(hf:fn.results=#[r1,r2])[h1:RvI P N sc env H r1 v1][h2:RvI P N sc env H r2 v2][h0:Som (lk2 H 0) (Xf w0 (fun _=>False))](hv:Yc g= .tuple #[v1,v2])(hg:φ g)(hgive:Give H al (its g)) :
  X N sc .ret (Zb6 P fn w0 pre al φ Yc its) env H:=Zli (.inl rfl) hsc g (.tuple #[v1,v2]) (fun a w hs=>Zte hs hf h1.h h2.h) hv hg h0.l hgive
theorem xe3(hsc:∀b,sc b→w0.heap.size≤b∨∃q∈pre,q.fp b)(g:G)(hf:fn.results=#[r1,r2,r3])[h1:RvI P N sc env H r1 v1][h2:RvI P N sc env H r2 v2][h3:RvI P N sc env H r3 v3][h0:Som (lk2 H 0) (Xf w0 (fun _=>False))](hv:Yc g= .tuple #[v1,v2,v3])(hg:φ g)(hgive:Give H al (its g)) :
  X N sc .ret (Zb6 P fn w0 pre al φ Yc its) env H:=Zli (.inl rfl) hsc g (.tuple #[v1,v2,v3]) (fun a w hs=>res3 hs hf h1.h h2.h h3.h) hv hg h0.l hgive
end
class EncE {α:Type} (k:Nat) (enc:α→Value):Prop where h:∃(P:Program) (t:TypeId),Enc P t k enc
theorem Mm{p p':Pc}{r:List Pc}(i:Nat)[hi:Som (lk2 H i) p'][h0:TB (neb i 0)][ho:RoI p'](h:Give H true r)(e:p'=p:=by rfl):Give H true (p :: r):=e▸Iz i hi.l (Zsj (Zah h0.h)) ho.h h
section
variable {α:Type} {k i:Nat} {e:TypeId} {enc:α→Value} {v v':Value} {xs ys:List α} {al:Bool} {r:List Pc}
theorem gow(i:Nat)[hi:Som (lk2 H i) (Ma k e enc v xs)][h0:TB (neb i 0)][he:EncE k enc](h:Give H al r)(heq:xs=ys:=by rfl):Give H al (Ym k enc v ys :: r):=by
 obtain⟨_,_,h1⟩:=he.h
 exact Zz2 i hi.l (Zsj (Zah h0.h)) h1 heq h
end
section
variable {n:Nat} {x b:Bool} {d e j:Nat} {op:Go.Op} {ty:TypeId} {pos:String} {af:Array Edge} {rest:List Oper} {ops:Array Oper} {ll:List Oper}
theorem kf [h1:DI P N sc op env H (.bool x) True][h2:TB (ltb d N)](e:x=false)(h:L P N sc ops rest Q ((d,.bool false) :: env) H):L P N sc ops (⟨some d,op,ty,pos,af,none⟩ :: rest) Q env H:=dt (Zj (h1.h trivial) (congrArg _ e)) h (Og h2.h)
theorem kt [h1:DI P N sc op env H (.bool x) True][h2:TB (ltb d N)](e:x=true)(h:L P N sc ops rest Q ((d,.bool true) :: env) H):L P N sc ops (⟨some d,op,ty,pos,af,none⟩ :: rest) Q env H:=dt (Zj (h1.h trivial) (congrArg _ e)) h (Og h2.h)
theorem kfg [h1:DI P N sc op env H (.bool x) True][hj:Som (dsto ll j) e][hg:Som (lk2 env e) (.bool b)][h4:TB (ltb e N)][h2:TB (ltb d N)](e:x=false)(h:L P N sc ll.toArray rest Q ((d,.bool false) :: env) H):L P N sc ll.toArray (⟨some d,op,ty,pos,af,some (j,b)⟩ :: rest) Q env H:=Ly (Zj (h1.h trivial) (congrArg _ e)) (Ee hj) hg.l h (Og h4.h) (Og h2.h)
theorem ktg [h1:DI P N sc op env H (.bool x) True][hj:Som (dsto ll j) e][hg:Som (lk2 env e) (.bool b)][h4:TB (ltb e N)][h2:TB (ltb d N)](e:x=true)(h:L P N sc ll.toArray rest Q ((d,.bool true) :: env) H):L P N sc ll.toArray (⟨some d,op,ty,pos,af,some (j,b)⟩ :: rest) Q env H:=Ly (Zj (h1.h trivial) (congrArg _ e)) (Ee hj) hg.l h (Og h4.h) (Og h2.h)
end
section
variable {f:FuncId} {xs:List Operand} {ats:Array TypeId} {d i j e n:Nat} {vs:List Value} {pre:List Pc} {al b:Bool} {G:Type} {φ:G→Prop} {Yc:G→Value} {its:G→List Pc} {w0:World} {M0:Nat→Prop} {ty:TypeId} {pos:String} {af:Array Edge} {G':G→Hp} {ops:Array Oper} {rest ll:List Oper}
theorem cl (n:Nat) (ids:List Nat) (hc:Cal P f vs.toArray pre al φ Yc its) [hx:EvI env xs vs] [hf:CalF P f] [hp:PreL P H al ids pre] [h0:Som (lk2 H 0) (Xf w0 M0)] [hN:TB (ltb d N)] [hw:Hw w0 sc] [ha:∀g,AddI n (its g) H (G' g)]
  (h:∀g,φ g→L P N sc ops rest Q ((d,Yc g) :: env) (G' g)):L P N sc ops (⟨some d,.call { callee:= .value (.func f),args:=xs.toArray,argTypes:=ats },ty,pos,af,none⟩ :: rest) Q env H:=Yd (Zh n ids hc) h
theorem Fl (n:Nat) (ids:List Nat) (hc:Cal P f vs.toArray pre al φ Yc its) [hx:EvI env xs vs] [hf:CalF P f] [hp:PreL P H al ids pre] [h0:Som (lk2 H 0) (Xf w0 M0)] [hN:TB (ltb d N)] [hw:Hw w0 sc] [ha:∀g,AddI n (its g) H (G' g)] [hj:Som (dsto ll j) e] [he:Som (lk2 env e) (.bool b)] [hN2:TB (ltb e N)]
  (h:∀g,φ g→L P N sc ll.toArray rest Q ((d,Yc g) :: env) (G' g)):L P N sc ll.toArray (⟨some d,.call { callee:= .value (.func f),args:=xs.toArray,argTypes:=ats },ty,pos,af,some (j,b)⟩ :: rest) Q env H:=gt' (Zh n ids hc) h
end
class SeI (l:List Nat) (env:Qt) (cs:outParam Qt):Prop where h:Sub cs env
instance:SeI [] env []:=⟨trivial⟩
instance {t:Nat} {l:List Nat} {v:Value} {cs:Qt} [h:Som (lk2 env t) v] [h2:SeI l env cs]:SeI (t :: l) env ((t,v) :: cs):=⟨⟨h.l,h2.h⟩⟩
class SeH (l:List Nat) (H:Hp) (ch:outParam Hp):Prop where h:HSub ch H
instance:SeH [] H []:=⟨trivial⟩
instance {t:Nat} {l:List Nat} {v:Pc} {cs:Hp} [h:Som (lk2 H t) v] [h2:SeH l H cs]:SeH (t :: l) H ((t,v) :: cs):=⟨⟨h.l,h2.h⟩⟩
class ApI {α:Type _} (a b:List α) (c:outParam (List α)):Prop where h:a ++ b=c
instance {α:Type _} {b:List α} : ApI [] b b:=⟨rfl⟩
instance {α:Type _} {x:α} {a b c:List α} [h:ApI a b c]:ApI (x :: a) b (x :: c):=⟨by rw [←h.h];rfl⟩
class SbI (cs env:Qt):Prop where h:Sub cs env
instance:SbI [] env:=⟨trivial⟩
instance {t:Nat} {v:Value} {cs:Qt} [h:Som (lk2 env t) v] [h2:SbI cs env]:SbI ((t,v) :: cs) env:=⟨⟨h.l,h2.h⟩⟩
class HbI (ch H:Hp):Prop where h:HSub ch H
instance:HbI [] H:=⟨trivial⟩
instance {t:Nat} {v:Pc} {cs:Hp} [h:Som (lk2 H t) v] [h2:HbI cs H]:HbI ((t,v) :: cs) H:=⟨⟨h.l,h2.h⟩⟩
theorem Sub.app:∀{a b e:Qt},Sub a e→Sub b e→Sub (a ++ b) e
 | [],_,_,_,h=>h
 | (_,_) :: _,_,_,h1,h=>⟨h1.1,Sub.app h1.2 h⟩
theorem HSub.app:∀{a b e:Hp},HSub a e→HSub b e→HSub (a ++ b) e
 | [],_,_,_,h=>h
 | (_,_) :: _,_,_,h1,h=>⟨h1.1,HSub.app h1.2 h⟩
section
variable {c x y:Code} {G:Type} {cs:Qt} {ch:Hp} {e1:G→Qt} {H1:G→Hp} {ov:G→Qt} {oh:G→Hp} {inv:G→Prop} {μ:G→Nat} {g:G}
theorem lp (l lh:List Nat) (ov:G→Qt) (oh:G→Hp) (inv:G→Prop) (μ:G→Nat) (g₀:G) (h₀:inv g₀) (hs:Sub (ov g₀) env) (hh:HSub (oh g₀) H) [h1:SeI l env cs] [h2:SeH lh H ch] [h3:∀g,ApI (ov g) cs (e1 g)] [h4:∀g,ApI (oh g) ch (H1 g)]
  (round:∀g,inv g→E P N sc c (Exit.then (Ykh N sc cs ch ov oh inv μ g) Q) (e1 g) (H1 g)):E P N sc (.loop c) Q env H:=
 e_lp cs ch ov oh inv μ g₀ h₀ (hs.app h1.h) (hh.app h2.h) fun g hg=>by rw [(h3 g).h,(h4 g).h];exact round g hg
theorem Xb(g':G)(h1:inv g')(h2:μ g'<μ g)(hs:Sub (ov g') env)(hh:HSub (oh g') H)[k1:SbI cs env][k2:HbI ch H]:X N sc .normal (Exit.then (Ykh N sc cs ch ov oh inv μ g) Q) env H:=x_rnd g' h1 h2 (hs.app k1.h) (hh.app k2.h)
theorem jn (l lh:List Nat) (ov:G→Qt) (oh:G→Hp) (inv:G→Prop) [h1:SeI l env cs] [h2:SeH lh H ch] [h3:∀g,ApI (ov g) cs (e1 g)] [h4:∀g,ApI (oh g) ch (H1 g)]
  (hx:E P N sc x (Exit.then (JnK N sc cs ch ov oh inv) Q) env H) (hy:∀g,inv g→E P N sc y Q (e1 g) (H1 g)):E P N sc (.seq x y) Q env H:=
 e_jn cs ch ov oh inv h1.h h2.h hx fun g hg=>by rw [(h3 g).h,(h4 g).h];exact hy g hg
theorem Qu(g':G)(h1:inv g')(hs:Sub (ov g') env)(hh:HSub (oh g') H)[k1:SbI cs env][k2:HbI ch H]:X N sc .normal (Exit.then (JnK N sc cs ch ov oh inv) Q) env H:=x_jn g' h1 (hs.app k1.h) (hh.app k2.h)
end
end Go.Sky
namespace Go.Sky
open Go.Proofs
set_option linter.all false
set_option synthInstance.maxHeartbeats 0
@[reducible,instance] def iUnd3:=Und.mk Tryz.underlying3
@[reducible,instance] def iUnd4:=Und.mk Tryz.underlying4
@[reducible,instance] def iUnd5:=Und.mk Tryz.underlying5
@[reducible,instance] def iUnd9:=Und.mk Tryz.underlying9
@[reducible,instance] def iUnd22:=Und.mk Tryz.underlying22
@[reducible,instance] def iUnd38:=Und.mk Tryz.underlying38
@[reducible,instance] def iUnd39:=Und.mk Tryz.underlying39
@[reducible,instance] def iUnd46:=Und.mk Tryz.underlying46
@[reducible,instance] def iUnd77:=Und.mk Tryz.underlying77
@[reducible,instance] def iUnd87:=Und.mk Tryz.underlying87
@[reducible,instance] def iUnd93:=Und.mk Tryz.underlying93
@[reducible,instance] def iUnd111:=Und.mk Tryz.underlying111
@[reducible,instance] def iUnd129:=Und.mk Tryz.underlying129
@[reducible,instance] def iUnd142:=Und.mk Tryz.underlying142
@[reducible,instance] def iUnd155:=Und.mk Tryz.underlying155
@[reducible,instance] def iUnd168:=Und.mk Tryz.underlying168
@[reducible,instance] def iUnd171:=Und.mk Tryz.underlying171
@[reducible,instance] def iUnd219:=Und.mk Tryz.underlying219
@[reducible,instance] def iUnd221:=Und.mk Tryz.underlying221
@[reducible,instance] def iUnd230:=Und.mk Tryz.underlying230
@[reducible,instance] def iUnd232:=Und.mk Tryz.underlying232
@[reducible,instance] def iUnd236:=Und.mk Tryz.underlying236
@[reducible,instance] def iUnd238:=Und.mk Tryz.underlying238
@[reducible,instance] def iUnd242:=Und.mk Tryz.underlying242
@[reducible,instance] def iUnd262:=Und.mk Tryz.underlying262
@[reducible,instance] def iUnd275:=Und.mk Tryz.underlying275
@[reducible,instance] def iSiz3:=Siz.mk Tryz.sizeOf3
@[reducible,instance] def iSiz4:=Siz.mk Tryz.sizeOf4
@[reducible,instance] def iSiz5:=Siz.mk Tryz.sizeOf5
@[reducible,instance] def iSiz9:=Siz.mk Tryz.sizeOf9
@[reducible,instance] def iSiz22:=Siz.mk Tryz.sizeOf22
@[reducible,instance] def iSiz31:=Siz.mk Tryz.sizeOf31
@[reducible,instance] def iSiz39:=Siz.mk Tryz.sizeOf39
@[reducible,instance] def iSiz46:=Siz.mk Tryz.sizeOf46
@[reducible,instance] def iSiz77:=Siz.mk Tryz.sizeOf77
@[reducible,instance] def iSiz87:=Siz.mk Tryz.sizeOf87
@[reducible,instance] def iSiz93:=Siz.mk Tryz.sizeOf93
@[reducible,instance] def iSiz111:=Siz.mk Tryz.sizeOf111
@[reducible,instance] def iSiz129:=Siz.mk Tryz.sizeOf129
@[reducible,instance] def iSiz168:=Siz.mk Tryz.sizeOf168
@[reducible,instance] def iSiz171:=Siz.mk Tryz.sizeOf171
@[reducible,instance] def iSiz219:=Siz.mk Tryz.sizeOf219
@[reducible,instance] def iSiz230:=Siz.mk Tryz.sizeOf230
@[reducible,instance] def iSiz232:=Siz.mk Tryz.sizeOf232
@[reducible,instance] def iSiz238:=Siz.mk Tryz.sizeOf238
@[reducible,instance] def iAgg4:=Agg.mk Tryz.isAgg4
@[reducible,instance] def iAgg9:=Agg.mk Tryz.isAgg9
@[reducible,instance] def iAgg22:=Agg.mk Tryz.isAgg22
@[reducible,instance] def iAgg31:=Agg.mk Tryz.isAgg31
@[reducible,instance] def iAgg77:=Agg.mk Tryz.isAgg77
@[reducible,instance] def iAgg87:=Agg.mk Tryz.isAgg87
@[reducible,instance] def iAgg93:=Agg.mk Tryz.isAgg93
@[reducible,instance] def iAgg129:=Agg.mk Tryz.isAgg129
@[reducible,instance] def iAgg168:=Agg.mk Tryz.isAgg168
@[reducible,instance] def iAgg171:=Agg.mk Tryz.isAgg171
@[reducible,instance] def iAgg230:=Agg.mk Tryz.isAgg230
@[reducible,instance] def iAgg232:=Agg.mk Tryz.isAgg232
@[reducible,instance] def iAgg238:=Agg.mk Tryz.isAgg238
@[reducible,instance] def iZer77:=Zer.mk Tryz.zeroValue77
@[reducible,instance] def iZer87:=Zer.mk Tryz.zeroValue87
@[reducible,instance] def iZer93:=Zer.mk Tryz.zeroValue93
@[reducible,instance] def iZer111:=Zer.mk Tryz.zeroValue111
@[reducible,instance] def iZer129:=Zer.mk Tryz.zeroValue129
@[reducible,instance] def iZer171:=Zer.mk Tryz.zeroValue171
@[reducible,instance] def iZer221:=Zer.mk Tryz.zeroValue221
@[reducible,instance] def iZer232:=Zer.mk Tryz.zeroValue232
@[reducible,instance] def iZer236:=Zer.mk Tryz.zeroValue236
@[reducible,instance] def iZer238:=Zer.mk Tryz.zeroValue238
@[reducible,instance] def iCalF38:=CalF.mk Tryz.call38
@[reducible,instance] def iCalF39:=CalF.mk Tryz.call39
@[reducible,instance] def iCalF42:=CalF.mk Tryz.call42
@[reducible,instance] def iCalF43:=CalF.mk Tryz.call43
@[reducible,instance] def iCalF44:=CalF.mk Tryz.call44
@[reducible,instance] def iCalF45:=CalF.mk Tryz.call45
@[reducible,instance] def iCalF50:=CalF.mk Tryz.call50
@[reducible,instance] def iCalF71:=CalF.mk Tryz.call71
@[reducible,instance] def iCalF76:=CalF.mk Tryz.call76
@[reducible,instance] def iCalF77:=CalF.mk Tryz.call77
@[reducible,instance] def iCalF78:=CalF.mk Tryz.call78
@[reducible,instance] def iCalF79:=CalF.mk Tryz.call79
@[reducible,instance] def iCalF80:=CalF.mk Tryz.call80
@[reducible,instance] def iCalF82:=CalF.mk Tryz.call82
@[reducible,instance] def iCalF83:=CalF.mk Tryz.call83
@[reducible,instance] def iCalF87:=CalF.mk Tryz.call87
@[reducible,instance] def iCalF88:=CalF.mk Tryz.call88
@[reducible,instance] def iCalF89:=CalF.mk Tryz.call89
@[reducible,instance] def iCalF91:=CalF.mk Tryz.call91
@[reducible,instance] def iCalF92:=CalF.mk Tryz.call92
@[reducible,instance] def iCalF93:=CalF.mk Tryz.call93
@[reducible,instance] def iCalF94:=CalF.mk Tryz.call94
@[reducible,instance] def iCalF112:=CalF.mk Tryz.call112
@[reducible,instance] def iCalF113:=CalF.mk Tryz.call113
@[reducible,instance] def iCalF118:=CalF.mk Tryz.call118
@[reducible,instance] def iCalF120:=CalF.mk Tryz.call120
@[reducible,instance] def iCalF122:=CalF.mk Tryz.call122
@[reducible,instance] def iCalF123:=CalF.mk Tryz.call123
@[reducible,instance] def iCalF124:=CalF.mk Tryz.call124
@[reducible,instance] def iCalF125:=CalF.mk Tryz.call125
@[reducible,instance] def iCalF126:=CalF.mk Tryz.call126
@[reducible,instance] def iCalF127:=CalF.mk Tryz.call127
@[reducible,instance] def iCalF128:=CalF.mk Tryz.call128
@[reducible,instance] def iCalF129:=CalF.mk Tryz.call129
@[reducible,instance] def iCalF130:=CalF.mk Tryz.call130
@[reducible,instance] def iCalF131:=CalF.mk Tryz.call131
@[reducible,instance] def iCalF134:=CalF.mk Tryz.call134
@[reducible,instance] def iCalF135:=CalF.mk Tryz.call135
@[reducible,instance] def iCalF136:=CalF.mk Tryz.call136
@[reducible,instance] def iCalF137:=CalF.mk Tryz.call137
@[reducible,instance] def iCalF141:=CalF.mk Tryz.call141
@[reducible,instance] def iCalF142:=CalF.mk Tryz.call142
@[reducible,instance] def iCalF143:=CalF.mk Tryz.call143
@[reducible,instance] def iCalF144:=CalF.mk Tryz.call144
@[reducible,instance] def iCalF151:=CalF.mk Tryz.call151
@[reducible,instance] def iCalF152:=CalF.mk Tryz.call152
@[reducible,instance] def iCalF153:=CalF.mk Tryz.call153
@[reducible,instance] def iCalF154:=CalF.mk Tryz.call154
@[reducible,instance] def iCalF155:=CalF.mk Tryz.call155
@[reducible,instance] def iCalF156:=CalF.mk Tryz.call156
@[reducible,instance] def iCalF157:=CalF.mk Tryz.call157
@[reducible,instance] def iCalF158:=CalF.mk Tryz.call158
@[reducible,instance] def iCalF159:=CalF.mk Tryz.call159
@[reducible,instance] def iCalF160:=CalF.mk Tryz.call160
@[reducible,instance] def iCalF161:=CalF.mk Tryz.call161
@[reducible,instance] def iCalF162:=CalF.mk Tryz.call162
@[reducible,instance] def iCalF163:=CalF.mk Tryz.call163
@[reducible,instance] def iCalF164:=CalF.mk Tryz.call164
@[reducible,instance] def iCalF165:=CalF.mk Tryz.call165
@[reducible,instance] def iCalF166:=CalF.mk Tryz.call166
@[reducible,instance] def iCalF167:=CalF.mk Tryz.call167
@[reducible,instance] def iCalF168:=CalF.mk Tryz.call168
@[reducible,instance] def iCalF169:=CalF.mk Tryz.call169
@[reducible,instance] def iCalF170:=CalF.mk Tryz.call170
@[reducible,instance] def iCalF171:=CalF.mk Tryz.call171
@[reducible,instance] def iCalF172:=CalF.mk Tryz.call172
@[reducible,instance] def iCalF175:=CalF.mk Tryz.call175
@[reducible,instance] def iCalF176:=CalF.mk Tryz.call176
@[reducible,instance] def iCalF177:=CalF.mk Tryz.call177
@[reducible,instance] def iCalF178:=CalF.mk Tryz.call178
@[reducible,instance] def iCalF179:=CalF.mk Tryz.call179
@[reducible,instance] def iCalF180:=CalF.mk Tryz.call180
@[reducible,instance] def iCalF181:=CalF.mk Tryz.call181
@[reducible,instance] def iCalF182:=CalF.mk Tryz.call182
@[reducible,instance] def iCalF183:=CalF.mk Tryz.call183
@[reducible,instance] def iCalF184:=CalF.mk Tryz.call184
@[reducible,instance] def iCalF187:=CalF.mk Tryz.call187
@[reducible,instance] def iCalF188:=CalF.mk Tryz.call188
@[reducible,instance] def iCalF189:=CalF.mk Tryz.call189
@[reducible,instance] def iCalF190:=CalF.mk Tryz.call190
@[reducible,instance] def iCalF191:=CalF.mk Tryz.call191
@[reducible,instance] def iCalF192:=CalF.mk Tryz.call192
@[reducible,instance] def iCalF193:=CalF.mk Tryz.call193
@[reducible,instance] def iCalF194:=CalF.mk Tryz.call194
@[reducible,instance] def iCalF195:=CalF.mk Tryz.call195
@[reducible,instance] def iCalF196:=CalF.mk Tryz.call196
@[reducible,instance] def iCalF197:=CalF.mk Tryz.call197
@[reducible,instance] def iCalF198:=CalF.mk Tryz.call198
@[reducible,instance] def iCalF199:=CalF.mk Tryz.call199
@[reducible,instance] def iCalF200:=CalF.mk Tryz.call200
@[reducible,instance] def iCalF201:=CalF.mk Tryz.call201
@[reducible,instance] def iCalF202:=CalF.mk Tryz.call202
@[reducible,instance] def iCalF203:=CalF.mk Tryz.call203
@[reducible,instance] def iCalF204:=CalF.mk Tryz.call204
@[reducible,instance] def iCalF205:=CalF.mk Tryz.call205
@[reducible,instance] def iCalF206:=CalF.mk Tryz.call206
@[reducible,instance] def iCalF207:=CalF.mk Tryz.call207
@[reducible,instance] def iCalF208:=CalF.mk Tryz.call208
@[reducible,instance] def iCalF209:=CalF.mk Tryz.call209
@[reducible,instance] def iCalF210:=CalF.mk Tryz.call210
@[reducible,instance] def iCalF211:=CalF.mk Tryz.call211
@[reducible,instance] def iCalF212:=CalF.mk Tryz.call212
@[reducible,instance] def iCalF213:=CalF.mk Tryz.call213
@[reducible,instance] def iCalF214:=CalF.mk Tryz.call214
@[reducible,instance] def iCalF215:=CalF.mk Tryz.call215
@[reducible,instance] def iCalF218:=CalF.mk Tryz.call218
@[reducible,instance] def iCalF219:=CalF.mk Tryz.call219
@[reducible,instance] def iCalF220:=CalF.mk Tryz.call220
@[reducible,instance] def iCalF221:=CalF.mk Tryz.call221
@[reducible,instance] def iCalF222:=CalF.mk Tryz.call222
@[reducible,instance] def iCalF223:=CalF.mk Tryz.call223
@[reducible,instance] def iCalF224:=CalF.mk Tryz.call224
@[reducible,instance] def iCalF225:=CalF.mk Tryz.call225
@[reducible,instance] def iCalF226:=CalF.mk Tryz.call226
@[reducible,instance] def iCalF227:=CalF.mk Tryz.call227
@[reducible,instance] def iCalF228:=CalF.mk Tryz.call228
@[reducible,instance] def iCalF229:=CalF.mk Tryz.call229
@[reducible,instance] def iCalF230:=CalF.mk Tryz.call230
@[reducible,instance] def iCalF231:=CalF.mk Tryz.call231
@[reducible,instance] def iCalF232:=CalF.mk Tryz.call232
@[reducible,instance] def iCalF233:=CalF.mk Tryz.call233
@[reducible,instance] def iCalF234:=CalF.mk Tryz.call234
@[reducible,instance] def iCalF235:=CalF.mk Tryz.call235
@[reducible,instance] def iCalF236:=CalF.mk Tryz.call236
@[reducible,instance] def iCalF237:=CalF.mk Tryz.call237
@[reducible,instance] def iCalF238:=CalF.mk Tryz.call238
@[reducible,instance] def iCalF239:=CalF.mk Tryz.call239
@[reducible,instance] def iCalF240:=CalF.mk Tryz.call240
@[reducible,instance] def iCalF241:=CalF.mk Tryz.call241
@[reducible,instance] def iCalF242:=CalF.mk Tryz.call242
@[reducible,instance] def iCalF243:=CalF.mk Tryz.call243
@[reducible,instance] def iCalF244:=CalF.mk Tryz.call244
@[reducible,instance] def iCalF245:=CalF.mk Tryz.call245
@[reducible,instance] def iCalF246:=CalF.mk Tryz.call246
@[reducible,instance] def iCalF247:=CalF.mk Tryz.call247
@[reducible,instance] def iCalF248:=CalF.mk Tryz.call248
@[reducible,instance] def iCalF249:=CalF.mk Tryz.call249
instance:EncT Tryz.prog 111 1 Nt:=⟨pU⟩
instance:EncE 1 Nt:=⟨_,_,pU⟩
instance:EncT Tryz.prog 5 1 Zhq:=⟨pB⟩
instance:EncE 1 Zhq:=⟨_,_,pB⟩
instance:EncT Tryz.prog 3 1 Ha:=⟨pN⟩
instance:EncE 1 Ha:=⟨_,_,pN⟩
instance:EncT Tryz.prog 3 1 Yl:=⟨pZ⟩
instance:EncE 1 Yl:=⟨_,_,pZ⟩
instance:EncT Tryz.prog 93 2 Zuh:=⟨pW⟩
instance:EncE 2 Zuh:=⟨_,_,pW⟩
instance:EncT Tryz.prog 93 2 wv:=⟨pV⟩
instance:EncE 2 wv:=⟨_,_,pV⟩
instance:EncT Tryz.prog 77 2 Zc2:=⟨pI⟩
instance:EncE 2 Zc2:=⟨_,_,pI⟩
instance {α:Type} : EncT Tryz.prog 39 1 (Kk (α:=α)):=⟨pS⟩
instance {α:Type} : EncE 1 (Kk (α:=α)):=⟨_,_,pS⟩
instance:EncT Tryz.prog 238 8 iq:=⟨pY⟩
instance:EncE 8 iq:=⟨_,_,pY⟩
instance:EncT Tryz.prog 129 4 rq:=⟨pQ⟩
instance:EncE 4 rq:=⟨_,_,pQ⟩
instance:EncT Tryz.prog 129 4 encQ:=⟨pR⟩
instance:EncE 4 encQ:=⟨_,_,pR⟩
@[reducible,instance] def iUnd24:=Und.mk Tryz.underlying24
@[reducible,instance] def iUnd26:=Und.mk Tryz.underlying26
@[reducible,instance] def iUnd29:=Und.mk Tryz.underlying29
@[reducible,instance] def iUnd45:=Und.mk Tryz.underlying45
@[reducible,instance] def iUnd64:=Und.mk Tryz.underlying64
@[reducible,instance] def iUnd80:=Und.mk Tryz.underlying80
@[reducible,instance] def iUnd90:=Und.mk Tryz.underlying90
@[reducible,instance] def iUnd101:=Und.mk Tryz.underlying101
@[reducible,instance] def iUnd106:=Und.mk Tryz.underlying106
@[reducible,instance] def iUnd124:=Und.mk Tryz.underlying124
@[reducible,instance] def iUnd130:=Und.mk Tryz.underlying130
@[reducible,instance] def iUnd173:=Und.mk Tryz.underlying173
@[reducible,instance] def iUnd174:=Und.mk Tryz.underlying174
@[reducible,instance] def iUnd205:=Und.mk Tryz.underlying205
@[reducible,instance] def iUnd227:=Und.mk Tryz.underlying227
@[reducible,instance] def iUnd250:=Und.mk Tryz.underlying250
@[reducible,instance] def iSiz24:=Siz.mk Tryz.sizeOf24
@[reducible,instance] def iSiz26:=Siz.mk Tryz.sizeOf26
@[reducible,instance] def iSiz29:=Siz.mk Tryz.sizeOf29
@[reducible,instance] def iSiz45:=Siz.mk Tryz.sizeOf45
@[reducible,instance] def iSiz52:=Siz.mk Tryz.sizeOf52
@[reducible,instance] def iSiz90:=Siz.mk Tryz.sizeOf90
@[reducible,instance] def iSiz101:=Siz.mk Tryz.sizeOf101
@[reducible,instance] def iSiz124:=Siz.mk Tryz.sizeOf124
@[reducible,instance] def iSiz130:=Siz.mk Tryz.sizeOf130
@[reducible,instance] def iSiz151:=Siz.mk Tryz.sizeOf151
@[reducible,instance] def iSiz173:=Siz.mk Tryz.sizeOf173
@[reducible,instance] def iSiz174:=Siz.mk Tryz.sizeOf174
@[reducible,instance] def iSiz205:=Siz.mk Tryz.sizeOf205
@[reducible,instance] def iSiz249:=Siz.mk Tryz.sizeOf249
@[reducible,instance] def iAgg3:=Agg.mk Tryz.isAgg3
@[reducible,instance] def iAgg24:=Agg.mk Tryz.isAgg24
@[reducible,instance] def iAgg26:=Agg.mk Tryz.isAgg26
@[reducible,instance] def iAgg29:=Agg.mk Tryz.isAgg29
@[reducible,instance] def iAgg39:=Agg.mk Tryz.isAgg39
@[reducible,instance] def iAgg45:=Agg.mk Tryz.isAgg45
@[reducible,instance] def iAgg52:=Agg.mk Tryz.isAgg52
@[reducible,instance] def iAgg90:=Agg.mk Tryz.isAgg90
@[reducible,instance] def iAgg101:=Agg.mk Tryz.isAgg101
@[reducible,instance] def iAgg124:=Agg.mk Tryz.isAgg124
@[reducible,instance] def iAgg130:=Agg.mk Tryz.isAgg130
@[reducible,instance] def iAgg151:=Agg.mk Tryz.isAgg151
@[reducible,instance] def iAgg174:=Agg.mk Tryz.isAgg174
@[reducible,instance] def iAgg205:=Agg.mk Tryz.isAgg205
@[reducible,instance] def iAgg249:=Agg.mk Tryz.isAgg249
@[reducible,instance] def iZer4:=Zer.mk Tryz.zeroValue4
@[reducible,instance] def iZer24:=Zer.mk Tryz.zeroValue24
@[reducible,instance] def iZer26:=Zer.mk Tryz.zeroValue26
@[reducible,instance] def iZer29:=Zer.mk Tryz.zeroValue29
@[reducible,instance] def iZer31:=Zer.mk Tryz.zeroValue31
@[reducible,instance] def iZer52:=Zer.mk Tryz.zeroValue52
@[reducible,instance] def iZer90:=Zer.mk Tryz.zeroValue90
@[reducible,instance] def iZer101:=Zer.mk Tryz.zeroValue101
@[reducible,instance] def iZer124:=Zer.mk Tryz.zeroValue124
@[reducible,instance] def iZer130:=Zer.mk Tryz.zeroValue130
@[reducible,instance] def iZer151:=Zer.mk Tryz.zeroValue151
@[reducible,instance] def iZer174:=Zer.mk Tryz.zeroValue174
@[reducible,instance] def iZer205:=Zer.mk Tryz.zeroValue205
@[reducible,instance] def iZer227:=Zer.mk Tryz.zeroValue227
@[reducible,instance] def iCalF9:=CalF.mk Tryz.call9
@[reducible,instance] def iCalF10:=CalF.mk Tryz.call10
@[reducible,instance] def iCalF11:=CalF.mk Tryz.call11
@[reducible,instance] def iCalF12:=CalF.mk Tryz.call12
@[reducible,instance] def iCalF13:=CalF.mk Tryz.call13
@[reducible,instance] def iCalF14:=CalF.mk Tryz.call14
@[reducible,instance] def iCalF15:=CalF.mk Tryz.call15
@[reducible,instance] def iCalF16:=CalF.mk Tryz.call16
@[reducible,instance] def iCalF17:=CalF.mk Tryz.call17
@[reducible,instance] def iCalF18:=CalF.mk Tryz.call18
@[reducible,instance] def iCalF19:=CalF.mk Tryz.call19
@[reducible,instance] def iCalF20:=CalF.mk Tryz.call20
@[reducible,instance] def iCalF21:=CalF.mk Tryz.call21
@[reducible,instance] def iCalF22:=CalF.mk Tryz.call22
@[reducible,instance] def iCalF23:=CalF.mk Tryz.call23
@[reducible,instance] def iCalF24:=CalF.mk Tryz.call24
@[reducible,instance] def iCalF25:=CalF.mk Tryz.call25
@[reducible,instance] def iCalF26:=CalF.mk Tryz.call26
@[reducible,instance] def iCalF27:=CalF.mk Tryz.call27
@[reducible,instance] def iCalF28:=CalF.mk Tryz.call28
@[reducible,instance] def iCalF31:=CalF.mk Tryz.call31
@[reducible,instance] def iCalF32:=CalF.mk Tryz.call32
@[reducible,instance] def iCalF33:=CalF.mk Tryz.call33
@[reducible,instance] def iCalF34:=CalF.mk Tryz.call34
@[reducible,instance] def iCalF35:=CalF.mk Tryz.call35
@[reducible,instance] def iCalF36:=CalF.mk Tryz.call36
@[reducible,instance] def iCalF37:=CalF.mk Tryz.call37
@[reducible,instance] def iCalF40:=CalF.mk Tryz.call40
@[reducible,instance] def iCalF41:=CalF.mk Tryz.call41
@[reducible,instance] def iCalF46:=CalF.mk Tryz.call46
@[reducible,instance] def iCalF47:=CalF.mk Tryz.call47
@[reducible,instance] def iCalF48:=CalF.mk Tryz.call48
@[reducible,instance] def iCalF49:=CalF.mk Tryz.call49
@[reducible,instance] def iCalF51:=CalF.mk Tryz.call51
@[reducible,instance] def iCalF52:=CalF.mk Tryz.call52
@[reducible,instance] def iCalF53:=CalF.mk Tryz.call53
@[reducible,instance] def iCalF54:=CalF.mk Tryz.call54
@[reducible,instance] def iCalF55:=CalF.mk Tryz.call55
@[reducible,instance] def iCalF56:=CalF.mk Tryz.call56
@[reducible,instance] def iCalF57:=CalF.mk Tryz.call57
@[reducible,instance] def iCalF58:=CalF.mk Tryz.call58
@[reducible,instance] def iCalF59:=CalF.mk Tryz.call59
@[reducible,instance] def iCalF67:=CalF.mk Tryz.call67
@[reducible,instance] def iCalF68:=CalF.mk Tryz.call68
@[reducible,instance] def iCalF69:=CalF.mk Tryz.call69
@[reducible,instance] def iCalF70:=CalF.mk Tryz.call70
@[reducible,instance] def iCalF72:=CalF.mk Tryz.call72
@[reducible,instance] def iCalF73:=CalF.mk Tryz.call73
@[reducible,instance] def iCalF74:=CalF.mk Tryz.call74
@[reducible,instance] def iCalF75:=CalF.mk Tryz.call75
@[reducible,instance] def iCalF81:=CalF.mk Tryz.call81
@[reducible,instance] def iCalF84:=CalF.mk Tryz.call84
@[reducible,instance] def iCalF85:=CalF.mk Tryz.call85
@[reducible,instance] def iCalF86:=CalF.mk Tryz.call86
@[reducible,instance] def iCalF90:=CalF.mk Tryz.call90
@[reducible,instance] def iCalF95:=CalF.mk Tryz.call95
@[reducible,instance] def iCalF96:=CalF.mk Tryz.call96
@[reducible,instance] def iCalF97:=CalF.mk Tryz.call97
@[reducible,instance] def iCalF98:=CalF.mk Tryz.call98
@[reducible,instance] def iCalF99:=CalF.mk Tryz.call99
@[reducible,instance] def iCalF100:=CalF.mk Tryz.call100
@[reducible,instance] def iCalF101:=CalF.mk Tryz.call101
@[reducible,instance] def iCalF102:=CalF.mk Tryz.call102
@[reducible,instance] def iCalF111:=CalF.mk Tryz.call111
@[reducible,instance] def iCalF114:=CalF.mk Tryz.call114
@[reducible,instance] def iCalF115:=CalF.mk Tryz.call115
@[reducible,instance] def iCalF116:=CalF.mk Tryz.call116
@[reducible,instance] def iCalF117:=CalF.mk Tryz.call117
@[reducible,instance] def iCalF119:=CalF.mk Tryz.call119
@[reducible,instance] def iCalF121:=CalF.mk Tryz.call121
@[reducible,instance] def iCalF132:=CalF.mk Tryz.call132
@[reducible,instance] def iCalF133:=CalF.mk Tryz.call133
@[reducible,instance] def iCalF138:=CalF.mk Tryz.call138
@[reducible,instance] def iCalF139:=CalF.mk Tryz.call139
@[reducible,instance] def iCalF140:=CalF.mk Tryz.call140
@[reducible,instance] def iCalF147:=CalF.mk Tryz.call147
@[reducible,instance] def iCalF148:=CalF.mk Tryz.call148
@[reducible,instance] def iCalF149:=CalF.mk Tryz.call149
@[reducible,instance] def iCalF150:=CalF.mk Tryz.call150
@[reducible,instance] def iCalF173:=CalF.mk Tryz.call173
@[reducible,instance] def iCalF174:=CalF.mk Tryz.call174
@[reducible,instance] def iCalF185:=CalF.mk Tryz.call185
@[reducible,instance] def iCalF186:=CalF.mk Tryz.call186
end Go.Sky

