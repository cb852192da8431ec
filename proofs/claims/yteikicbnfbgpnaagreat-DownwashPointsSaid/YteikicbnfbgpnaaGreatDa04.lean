/- Rules, arithmetic and contracts: part 5. No conditions but those that each theorem names. -/
import Derived.Test.YteikicbnfbgpnaaGreatDa03
import Derived.Scope
set_option linter.all false
namespace Go.Sky
def Psim(a b:List Int):Prop:=∃m n:Int,0<m∧0<n∧∀i,m*cf a i=n*cf b i
theorem Psim.refl(a:List Int):Psim a a:=⟨1,1,O3,O3,fun _=>rfl⟩
theorem Psim.symm{a b:List Int} : Psim a b→Psim b a:=fun⟨m,n,hm,hn,h⟩=>⟨n,m,hn,hm,fun i=>(h i).symm⟩
theorem Psim.trans{a b c:List Int} : Psim a b→Psim b c→Psim a c:=fun⟨m,n,hm,hn,h⟩ ⟨u,v,hu,hv,k⟩=>
 ⟨m*u,n*v,Int.mul_pos hm hu,Int.mul_pos hn hv,fun i=>by have h1:=h i;have h2:=k i;grind⟩
theorem Psim.sim{a b:List Int} : Psim a b→Sim a b:=fun⟨m,n,hm,hn,h⟩=>⟨m,n,O,O,h⟩
theorem Zb3{p:List Int}(h:Tr p):Psim (Zx p) p:=by
 by_cases h0:p=[]
 ·subst h0;exact Psim.refl _
 ·exact⟨Yy p,1,by have:=Ng p;have:=Ci h h0;omega,O3,fun i=>by rw [Int.one_mul,Int.mul_comm];exact Iy p i⟩
theorem Zg6{a b:List Int}(ha:Tr a)(hb:Tr b)(h:Psim a b):Zx a=Zx b:=by
 by_cases h0:a=[]
 ·rw [h.sim.nil hb h0,h0]
 ·have h0':b≠[]:=fun e=>h0 (h.sim.symm.nil ha e)
  obtain⟨m,n,hm,hn,e⟩:=(Zb3 ha).trans (h.trans (Zb3 hb).symm)
  have hx:=Yr ha
  have hy:=Yr hb
  have hs:Sim (Zx a) (Zx b):=⟨m,n,O,O,e⟩
  have hx0:Zx a≠[]:=fun e=>h0 (List.eq_nil_of_length_eq_zero (by rw [←Zo,e];rfl))
  rcases Znb hx hy hx0 (Kk ha h0) (Kk hb h0') hs with h1 | h1
  ·exact h1
  ·exfalso
   have h2:=hx.mem hx0
   have h3:=e ((Zx a).length-1)
   have h4:=h1 ((Zx a).length-1)
   rw [h4]at h3 h2
   generalize cf (Zx b) ((Zx a).length-1)=z at h3 h2
   rw [Int.mul_neg]at h3
   have h5:(m+n)*z=0:=by rw [Int.add_mul];omega
   rcases Int.mul_eq_zero.1 h5 with h6 | h6<;>omega
def Bj(y:List Int):Int:=if cf y (y.length-1)<0 then-cf y (y.length-1)else cf y (y.length-1)
def rb(x y:List Int):Int:=if cf y (y.length-1)<0 then-cf x (x.length-1)else cf x (x.length-1)
def An(x y:List Int):List Int:=Bz (Yp x (Bj y)) (shm y (rb x y) (x.length-y.length) y.length)
def Cc:Nat→List Int→List Int→List Int
 | 0,x,_=>x
 | f+1,x,y=>if x.length<y.length then x else Cc f (An x y) y
theorem Zlc{x y:List Int}(hx:Tr x)(hy:0<y.length)(hl:y.length≤x.length):(An x y).length<x.length:=by
 have h:=Be (p:=An x y) (n:=x.length-1) fun i hi=>by
  unfold An
  rw [Bq,Xq,Yb2]
  by_cases he:i=x.length-1
  ·subst he
   rw [if_pos O,show x.length-1-(x.length-y.length)=y.length-1 by omega]
   unfold Bj rb
   split
   ·grind
   ·grind
  ·rw [Ya (p:=x) O,if_neg O];omega
 rw [show tzl (An x y)=An x y from Bd (Zr9 _ _)]at h
 omega
theorem Zyn(x:List Int){y:List Int}(t:Nat):Bj y*cf x t=(ps (mono (x.length-y.length) (rb x y))*ps y).c t+cf (An x y) t:=by
 unfold An
 rw [Zhg,Bq,Xq,Yb2,Pr]
 by_cases h1:x.length-y.length≤t
 ·rw [if_pos h1]
  by_cases h2:t<x.length-y.length+y.length
  ·rw [if_pos ⟨h1,h2⟩,Int.mul_comm (cf x t)];omega
  ·rw [if_neg O,Ya (p:=y) O,Int.mul_comm (cf x t)];omega
 ·rw [if_neg h1,if_neg O,Int.mul_comm (cf x t)];omega
theorem Zc5{y:List Int}(hy:Tr y)(h0:y≠[]):0<Bj y:=by
 have:=hy.mem h0
 unfold Bj;split<;>omega
theorem Zc1{y:List Int}(hy:Tr y)(h0:y≠[]):∀(f:Nat) (x:List Int),Tr x→x.length<y.length+f→Tr (Cc f x y)∧(Cc f x y).length<y.length∧∃(k:Nat) (s:List Int),∀t,Bj y^k*cf x t=(ps s*ps y).c t+cf (Cc f x y) t
 | 0,x,hx,hl=>⟨hx,hl,0,[],fun t=>by rw [Mm (fun t=>Ya (Nat.zero_le _)),Int.pow_zero];unfold Cc;omega⟩
 | f+1,x,hx,hl=>by
  unfold Cc
  by_cases h:x.length<y.length
  ·rw [if_pos h]
   exact⟨hx,h,0,[],fun t=>by rw [Mm (fun t=>Ya (Nat.zero_le _)),Int.pow_zero];omega⟩
  ·rw [if_neg h]
   have h1:=Zlc hx (List.length_pos_iff.2 h0) O
   obtain⟨h2,h3,k,s,hs⟩:=Zc1 hy h0 f (An x y) (Zr9 _ _) O
   refine⟨h2,h3,k+1,Bz (Yp s 1) (Yp (mono (x.length-y.length) (rb x y)) (-(Bj y^k))),fun t=>?_⟩
   have h4:=hs t
   have h5:=Zyn x (y:=y) t
   rw [Zhf,Int.pow_succ]
   generalize Bj y^k=K at *
   generalize Bj y=a at *
   generalize (ps (mono (x.length-y.length) (rb x y))*ps y).c t=M at *
   generalize (ps s*ps y).c t=S at *
   generalize cf (An x y) t=X at *
   generalize cf (Cc f (An x y) y) t=Z at *
   have:K*a*cf x t=K*(a*cf x t):=O4
   rw [this,h5];grind
theorem Znv(l:Int)(h:l≠0):∀n:Nat,(l<0∧n%2=1→l^n<0)∧(¬(l<0∧n%2=1)→0<l^n)
 | 0=>⟨fun h=>O,fun _=>by rw [Int.pow_zero];decide⟩
 | n+1=>by
  have ih:=Znv l h n
  rw [Int.pow_succ]
  by_cases h1:l<0
  ·by_cases h2:n%2=1
   ·have h3:=ih.1 ⟨h1,h2⟩
    exact⟨fun h=>O,fun _=>Int.mul_pos_of_neg_of_neg h3 h1⟩
   ·have h3:=ih.2 O
    exact⟨fun _=>Int.mul_neg_of_pos_of_neg h3 h1,fun h=>O⟩
  ·have h3:=ih.2 O
   exact⟨fun h=>O,fun _=>Int.mul_pos h3 O⟩
def Zb5(p:List Int):List Int:=Yp p (-1)
theorem Gy(p:List Int)(i:Nat):cf (Zb5 p) i=- cf p i:=by unfold Zb5;rw [Xq];omega
theorem Zqj{p:List Int}(h:Tr p):Zx (Zb5 p)=Zb5 (Zx p):=by
 have hc:Yy (Zb5 p)=Yy p:=by
  have d1:Yy (Zb5 p)∣Yy p:=Gq fun i=>by
   have h:=Ny (Zb5 p) i
   rw [Gy]at h;exact Int.dvd_neg.1 h
  have d2:Yy p∣Yy (Zb5 p):=Gq fun i=>by rw [Gy];exact Int.dvd_neg.2 (Ny p i)
  exact Int.dvd_antisymm (Ng _) (Ng _) d1 d2
 refine(Yr (Pw _ _)).ext (Pw _ _) fun i=>?_
 show cf (Zx (Zb5 p)) i=cf (Zb5 (Zx p)) i
 rw [Gy,Cu,Gy,hc,Cu]
 exact Int.neg_ediv_of_dvd (Ny p i)
theorem Zea{x y:List Int}{f:Nat}(hx:Tr x)(hy:Tr y)(h0:y≠[])(hl:y.length≤x.length)(hf:x.length<y.length+f):Zx (Zb5 (Cc f x y))=Pq x y:=by
 obtain⟨tr,lr,k,s,hs⟩:=Zc1 hy h0 f x hx hf
 have ly:=List.length_pos_iff.2 h0
 obtain⟨s2,hs2⟩:=Zee (p:=x) ly hl _ (Nat.le_refl _)
 have hp:∀t,cf (Xy x y (x.length-y.length+1)) t=cf (Xm x y) t:=fun t=>by
  unfold Xm;rw [if_neg O,Lm]
 have lp:=Qp x h0
 have htp:=Lp (q:=y) hx
 have hlead:=hy.mem h0
 have hK:0<Bj y^k:=Int.pow_pos (Zc5 hy h0)
 have hsg:=Znv (cf y (y.length-1)) hlead (x.length-y.length+1)
 generalize hL:cf y (y.length-1)^(x.length-y.length+1)=L at hs2 hsg
 have hL0:L≠0:=by rw [←hL];exact Mn hlead _
 generalize Bj y^k=K at hs hK
 have key:∀t,(ps (Bz (Yp s2 K) (Yp s L))*ps y).c t=cf (Bz (Yp (Cc f x y) L) (Yp (Xm x y) K)) t:=fun t=>by
  rw [Zhf,Bq,Xq,Xq,←hp t]
  have h1:=hs t
  have h2:=hs2 t
  generalize cf (Xy x y (x.length-y.length+1)) t=A at *
  grind
 have z:=Yer hy h0 key fun t ht=>by
  rw [Bq,Xq,Xq,Ya (p:=Cc f x y) O,Ya (p:=Xm x y) O];omega
 have e:∀t,L*cf (Cc f x y) t=K*cf (Xm x y) t:=fun t=>by
  have h1:=key t
  rw [Mm z,Bq,Xq,Xq]at h1
  grind
 unfold Pq
 by_cases hc:cf y (y.length-1)<0∧(x.length-y.length+1)%2=1
 ·rw [if_pos hc]
  have hn:=hsg.1 hc
  exact Zg6 (Pw _ _) htp ⟨-L,K,O,hK,fun t=>by rw [Gy,←e];grind⟩
 ·rw [if_neg hc]
  have hn:=hsg.2 hc
  rw [show Yp (Zx (Xm x y)) (-1)=Zb5 (Zx (Xm x y))from rfl,←Zqj htp]
  exact Zg6 (Pw _ _) (Pw _ _) ⟨L,K,hn,hK,fun t=>by
   rw [Gy,Gy,Int.mul_neg,e,Int.mul_neg]⟩
theorem Ah{x y:List Int}(hx:Tr x):Tr (Pq x y):=by
 unfold Pq;split
 ·exact Yr (Lp hx)
 ·exact Pw _ _
theorem Bm{x y:List Int}(hx:Tr x):(Pq x y).length=(Xm x y).length:=by
 unfold Pq
 have h:Tr (Zx (Xm x y)):=Yr (Lp hx)
 split
 ·exact Zo _
 ·rw [←Zo (Xm x y)]
  exact((Zp6 (Zx (Xm x y)) (by decide:(-1:Int)≠0)).len h (Pw _ _)).symm
theorem Zp2{n:Nat}{p:List Int}(h:Sz n p):Sz n (Yt p):=fun i=>by
 unfold Yt;rw [Eu];split
 ·rw [Int.natAbs_neg];exact Fc h i
 ·exact Fc h i
theorem Zhb{p:List Int}(h:Tr p)(h0:p≠[]):Yt p≠[]:=fun e=>h0 (List.eq_nil_of_length_eq_zero (by rw [←Qo h,e];rfl))
theorem Ep{g:List Int}(h:Tr g)(h0:g≠[]):0<cf (Kn g) ((Kn g).length-1):=by
 have h1:=h.mem h0
 rw [Bn h,Eu]
 have:g.length≠0:=fun e=>h0 (List.eq_nil_of_length_eq_zero e)
 split<;>omega
theorem Za3{p:List Int}(h:Tr p)(h0:p≠[]):Yy (Yt p)=1:=by unfold Yt;rw [Ze7];exact Kk h h0
theorem Zqn{p:List Int}(h:Tr p)(h1:Yy p=1)(h2:0<cf p (p.length-1)):Yt p=p:=by
 unfold Yt;rw [Zc7 h1];unfold Kn;rw [if_neg O]
theorem Po{xs:List Int}{F:Nat}(hx:Tr xs)(h0:xs≠[])(hok:eok F (gA (Yt xs) (Yh (Yt xs))) (gB (Yt xs) (Yh (Yt xs)))) :
  pdv (Yt xs) (Ok F (Yt xs) (Yh (Yt xs)))∧Tr (sqf F xs)∧sqf F xs≠[]∧Yt xs=Xw (sqf F xs) (Ok F (Yt xs) (Yh (Yt xs)))∧Ok F (Yt xs) (Yh (Yt xs))≠[]∧Yt (sqf F xs)=sqf F xs:=by
 have hs:Tr (Yt xs):=Oi (Yr hx)
 have hd:Tr (Yh (Yt xs)):=Ot hs
 have hs0:=Zhb hx h0
 have hdv:=(Za2 hs hd hok).1
 have htg:=Zcs (F:=F) hs hd
 have hg0:Ok F (Yt xs) (Yh (Yt xs))≠[]:=fun e=>hs0 ((e▸hdv).zero hs)
 have hc:=Zg9 hs hd hg0
 obtain⟨k,s,hk,h⟩:=hdv
 obtain⟨q,hq⟩:=gauss hc _ k s rfl hk h
 have hqe:Yt xs=Xw (tzl q) (Ok F (Yt xs) (Yh (Yt xs))):=hs.ext (Xr _ _) fun i=>by
  rw [Ka,hq,Zyz]
 obtain⟨p1,p2⟩:=Zs2 (Xv q) htg hg0
 have hsq:sqf F xs=tzl q:=by
  unfold sqf
  have p2':=p2
  rw [←hqe]at p2'
  exact p2'
 rw [←hqe]at p1
 have hq0:tzl q≠[]:=fun e=>hs0 (by rw [hqe,e,Gm])
 refine⟨p1,by rw [hsq];exact Xv q,by rw [hsq];exact hq0,by rw [hsq];exact hqe,hg0,?_⟩
 rw [hsq]
 refine Zqn (Xv q) ?_ ?_
 ·have h1:=Za3 hx h0
  have h2:Yy (tzl q)∣Yy (Yt xs):=Gq fun i=>by
   rw [hqe,Ka,PS.mul_c]
   have key:∀m,Yy (tzl q)∣Zs (fun k=>(ps (tzl q)).c k*(ps (Ok F (Yt xs) (Yh (Yt xs)))).c (i-k)) m:=fun m=>by
    induction m with
    | zero=>exact Int.dvd_zero _
    | succ m ih=>rw [Zy];exact Int.dvd_add ih (Int.dvd_trans (Ny (tzl q) m) (Int.dvd_mul_right _ _))
   exact key _
  rw [h1]at h2
  have h3:=Ng (tzl q)
  have h4:=Int.le_of_dvd O3 h2
  have h5:Yy (tzl q)≠0:=Ci (Xv q) hq0
  omega
 ·have l1:=List.length_pos_iff.2 hq0
  have l2:=List.length_pos_iff.2 hg0
  have h1:0<cf (Yt xs) ((Yt xs).length-1):=Ep (Yr hx) (fun e=>h0 (List.eq_nil_of_length_eq_zero (by rw [←Zo,e];rfl)))
  have h2:0<cf (Ok F (Yt xs) (Yh (Yt xs))) ((Ok F (Yt xs) (Yh (Yt xs))).length-1):=Ep (Zov F (Zgi hs hd) (Zgh hs hd)) (fun e=>hg0 (by unfold Ok;rw [e];rfl))
  have h3:=Ol (Xv q) htg hq0 hg0
  rw [←hqe]at h3
  have h4:cf (Yt xs) ((Yt xs).length-1)=cf (tzl q) ((tzl q).length-1)*cf (Ok F (Yt xs) (Yh (Yt xs))) ((Ok F (Yt xs) (Yh (Yt xs))).length-1):=by
   rw [h3,hqe,Ka,←hqe,show(tzl q).length+(Ok F (Yt xs) (Yh (Yt xs))).length-1-1=((tzl q).length-1)+((Ok F (Yt xs) (Yh (Yt xs))).length-1) by omega]
   exact Et (fun i hi=>Ya O) (fun i hi=>Ya O)
  rw [h4]at h1
  rcases Int.lt_or_le 0 (cf (tzl q) ((tzl q).length-1))with h5 | h5
  ·exact h5
  ·exfalso
   have:=Int.mul_nonpos_of_nonpos_of_nonneg h5 (Int.le_of_lt h2)
   omega
theorem Oa(p:List Int):(Yh p).length=p.length-1:=Yd _ _
theorem Zrc{p:List Int}{n:Nat}(hp:Sz n p)(hl:p.length≤25)(i:Nat):bl (cf p (i+1)*((i:Int)+1)).natAbs≤n+5:=by
 rcases Nat.lt_or_ge (i+1) p.length with h | h
 ·have h1:=Xb (cf p (i+1)) ((i:Int)+1)
  have h2:=hp (i+1)
  have h3:bl ((i:Int)+1).natAbs≤5:=(Xs 5 _).2 O
  omega
 ·rw [Ya h];simp [Mz]
theorem Zdv(p:List Int)(i:Nat):cf (Yh p) i=cf p (i+1)*((i:Int)+1):=by
 unfold Yh
 rw [Me]
 split
 ·rfl
 ·rw [Ya O,Int.zero_mul]
theorem Dz{p:List Int}{n:Nat}(hp:Sz n p)(hl:p.length≤25):Sz (n+5) (Yh p):=fun i=>by rw [Zdv];exact Zrc hp hl i
theorem Zcn{p:List Int}(h:Vp p)(hz:∀i,i<p.length→bl (cf p (i+1)*((i:Int)+1)).natAbs≤65536):Vp (Yh p):=by
 refine⟨fun i=>?_,Ot h.tr,by rw [Oa];have:=h.len;omega⟩
 rw [Zdv]
 by_cases hi:i<p.length
 ·exact hz i hi
 ·rw [Ya O];simp [Mz]
theorem sf_t{xs:List Int}(h:xs.length=0):Value.bool (decide (Cb xs))= .bool true:=congrArg Value.bool (decide_eq_true (.inl h))
theorem sf_i{xs:List Int}{n:Int}(h:xs.length≠0)(hn:n=(((xs.length+2)*(xs.length+2)*(Xz xs+16):Nat):Int)):Value.bool (decide (Cb xs))= .bool (decide (n≤65536)):=congrArg Value.bool (decide_eq_decide.2 (by
 subst hn
 show(xs.length=0∨(xs.length+2)*(xs.length+2)*(Xz xs+16)≤65536)↔_
 constructor
 ·intro h1;rcases h1 with h1 | h1
  ·exact absurd h1 h
  ·exact Int.ofNat_le.2 h1
 ·intro h1;exact .inr (Int.ofNat_le.1 h1)))
theorem Zvh{x y:List Int}(h:(Xm x y).length=0):Pq x y=[]:=by
 have h1:Xm x y=[]:=List.eq_nil_of_length_eq_zero h
 unfold Pq;rw [h1];split<;>rfl
theorem Ydq{x y:List Int}(hl:y.length≤x.length)(h1:(cf y (y.length-1)).sign<0)(h2:((x.length:Int)-(y.length:Int)+1)%2=1):Pq x y=Zx (Xm x y):=by
 unfold Pq;rw [if_pos ⟨(Od _).1 h1,O⟩]
theorem Zse{x y:List Int}(h1:¬(cf y (y.length-1)).sign<0):Pq x y=Yp (Zx (Xm x y)) (-1):=by
 unfold Pq;rw [if_neg (fun h=>h1 ((Od _).2 h.1))]
theorem Zsd{x y:List Int}(hl:y.length≤x.length)(h2:¬((x.length:Int)-(y.length:Int)+1)%2=1):Pq x y=Yp (Zx (Xm x y)) (-1):=by
 unfold Pq;rw [if_neg (fun h=>h2 O)]
theorem Zpy{xs:List Int}{F:Nat}(hv:Vp xs)(h0:xs≠[])(h:Ydp F xs):Vp (sqf F xs):=by
 obtain⟨_,_,_,h4,h5⟩:=h
 have hn:=Zxe hv
 unfold sqf Ly
 split
 ·exact⟨Sz.nil _,Tr.nil,O6⟩
 ·rename_i h6
  rcases h5 with h5 | h5
  ·exact absurd h5 h6
  ·have h7:=(Zbc h4).2 h5.1
   refine⟨?_,Xv _,?_⟩
   ·rw [←Zdr];exact(Zsb h7 h5.2.1 _).tzl
   ·have h8:=Ke (Zep (Yt xs) (Ok F (Yt xs) (Yh (Yt xs))) ((Yt xs).length-(Ok F (Yt xs) (Yh (Yt xs))).length+1))
    rw [Zdr,Az]at h8
    have:=hn.len
    have:=(Zbc h4).1
    omega
theorem Zhn{xs:List Int}{F:Nat}(hv:Vp xs)(h:Ydp F xs):(sqf F xs).length≤xs.length:=by
 obtain⟨_,_,_,h4,h5⟩:=h
 have hl:=Qo hv.tr
 unfold sqf Ly
 split
 ·exact Nat.zero_le _
 ·rename_i h6
  rcases h5 with h5 | h5
  ·exact absurd h5 h6
  ·have h8:=Ke (Zep (Yt xs) (Ok F (Yt xs) (Yh (Yt xs))) ((Yt xs).length-(Ok F (Yt xs) (Yh (Yt xs))).length+1))
   rw [Zdr,Az]at h8
   have:=(Zbc h4).1
   have:=h5.1
   omega
theorem Zup{L:List Int}{i:Nat}{n l s:Int}(hi:i<L.length)(h:(n,l)=(L.take i).foldl Oq (0,0))(hs:L.getD i 0=s)(h0:s=0):(n,l)=(L.take (i+1)).foldl Oq (0,0):=by
 rw [Qx 0 L i hi,Zcd,←h,hs];unfold Oq;rw [if_pos h0]
theorem Zuo{L:List Int}{i:Nat}{n l s:Int}(hi:i<L.length)(h:(n,l)=(L.take i).foldl Oq (0,0))(hs:L.getD i 0=s)(h0:s≠0)(h1:s=-l):(n+1,s)=(L.take (i+1)).foldl Oq (0,0):=by
 rw [Qx 0 L i hi,Zcd,←h,hs];unfold Oq;rw [if_neg h0];dsimp only;rw [if_pos h1]
theorem Zun{L:List Int}{i:Nat}{n l s:Int}(hi:i<L.length)(h:(n,l)=(L.take i).foldl Oq (0,0))(hs:L.getD i 0=s)(h0:s≠0)(h1:¬s=-l):(n,s)=(L.take (i+1)).foldl Oq (0,0):=by
 rw [Qx 0 L i hi,Zcd,←h,hs];unfold Oq;rw [if_neg h0];dsimp only;rw [if_neg h1]
theorem Ygd{L:List Int}{i:Nat}{n l:Int}(hi:L.length≤i)(h:(n,l)=(L.take i).foldl Oq (0,0)):n=chg L:=by
 rw [List.take_of_length_le hi]at h
 unfold chg;rw [←h]
theorem Zyc(z:Int):-1≤z.sign∧z.sign≤1:=by
 rcases Int.lt_trichotomy z 0 with h | h | h
 ·rw [Int.sign_eq_neg_one_of_neg h];omega
 ·subst h;simp
 ·rw [Int.sign_eq_one_of_pos h];omega
theorem Zzx{α:Type}(d:α)(f:α→Int)(ls:List α){i:Nat}(h:i<ls.length):(ls.map f).getD i 0=f (ls.getD i d):=by
 simp [List.getD_eq_getElem?_getD,h]
def sgx(ls:List (SL×List Int))(f:List Int→Int):List Int:=ls.map fun z=>f z.2
theorem Znd(ls:List (SL×List Int))(f:List Int→Int){i:Nat}(h:i<ls.length):(sgx ls f).getD i 0=f (ls.getD i ((none,0,0),[])).2:=Zzx _ _ _ h
theorem Zho(ls:List (SL×List Int))(f:List Int→Int):(sgx ls f).length=ls.length:=List.length_map ..
def fr(p:List Int):Int:=(cf p (p.length-1)).sign
def fl(p:List Int):Int:=if p.length%2=0 then-(cf p (p.length-1)).sign else(cf p (p.length-1)).sign
def fat(x y:Int)(p:List Int):Int:=(pev p x y).sign
theorem fat_r(x y:Int)(p:List Int):-1≤fat x y p∧fat x y p≤1:=Zyc _
theorem Zi2:∀(f:Nat) {x y:List Int},Vp x→Vp y→cok f x y→∀p∈Na f x y,Vp p
 | 0,x,y,hx,_,_,p,hp=>by rw [List.mem_singleton.1 hp];exact hx
 | f+1,x,y,hx,hy,h,p,hp=>by
  unfold Na at hp
  split at hp
  ·rw [List.mem_singleton.1 hp];exact hx
  ·rcases h with h | h
   ·contradiction
   ·rcases List.mem_cons.1 hp with rfl | hp
    ·exact hx
    ·exact Zi2 f hy (Zmv hx h.1) h.2.2 p hp
theorem vp_chn{xs:List Int}{F:Nat}(hv:Vp xs)(h0:xs≠[])(hC:Db F xs):∀p∈Ac F xs,Vp p:=by
 obtain⟨h1,h2,h3⟩:=hC
 have hq:=Zpy hv h0 h1
 exact Zi2 F hq (Lo (Zcn hq (fun i hi=>h2 i (by have:=Zhn hv h1;omega)))) h3
def cnt(F:Nat)(xs:List Int)(x y:Int):Int:=chg ((Ac F xs).map (fat x y))
def sright(F:Nat)(xs:List Int):Int:=chg ((Ac F xs).map fr)
def sleft(F:Nat)(xs:List Int):Int:=chg ((Ac F xs).map fl)
theorem Zsg{ls:List (SL×List Int)}{C:List (List Int)}(h:ls.map Prod.snd=C)(f:List Int→Int):sgx ls f=C.map f:=by
 rw [←h,List.map_map];rfl
theorem Nh{ls:List (SL×List Int)}{C:List (List Int)}{p:List Int→Prop}(h:ls.map Prod.snd=C)(hp:∀q∈C,p q):∀z∈ls,p z.2:=fun z hz=>hp _ (h▸List.mem_map_of_mem hz)
theorem Zes(L:List Int):0≤chg L∧chg L≤L.length:=by
 unfold chg
 suffices h:∀(l:List Int) (s:Int×Int),s.1≤(l.foldl Oq s).1∧(l.foldl Oq s).1≤s.1+l.length by
  have:=h L (0,0);simpa using this
 intro l
 induction l with
 | nil=>intro s;simp
 | cons x l ih=>
  intro s
  have h1:=ih (Oq s x)
  have h2:=chg1_n s x
  simp only [List.foldl_cons,List.length_cons]
  omega
theorem Zbs:∀(f:Nat) (x y:List Int),(Na f x y).length≤f+1
 | 0,x,y=>Nat.le_refl _
 | f+1,x,y=>by
  unfold Na;split
  ·simp
  ·have:=Zbs f y (Pq x y);simp;omega
def sm(xs:List Int)(i:Nat):Nat:=(xs.take i).foldl (fun m c=>max m c.natAbs) 0
theorem Zb9{x y:Int}(h:¬Lb x y):Fj x y=x/Ns x y∧Gj x y=y/Ns x y∧Zyt x y=0:=⟨if_neg h,if_neg h,if_neg h⟩
theorem nr_bl{x y:Int}(h:¬Lb x y):bl (Fj x y).natAbs≤65536∧bl (Gj x y).natAbs≤65536:=by
 obtain⟨h1,h2,_⟩:=Zb9 h
 rw [h1,h2]
 unfold Lb at h
 omega
theorem Zqo{x y:Int}(h:¬Lb x y)(hy:0<y):0<Gj x y:=by
 rw [(Zb9 h).2.1];exact Zwa hy
abbrev R2:=Int×Int
def Qk(a b:R2):R2:=(Fj (Fj (a.1*b.2+b.1*a.2) (a.2*b.2)*1) (Gj (a.1*b.2+b.1*a.2) (a.2*b.2)*2),Gj (Fj (a.1*b.2+b.1*a.2) (a.2*b.2)*1) (Gj (a.1*b.2+b.1*a.2) (a.2*b.2)*2))
def Zbr(a b:R2):Prop:=¬Lb (a.1*b.2+b.1*a.2) (a.2*b.2)∧¬Lb (Fj (a.1*b.2+b.1*a.2) (a.2*b.2)*1) (Gj (a.1*b.2+b.1*a.2) (a.2*b.2)*2)
instance (a b:R2):Decidable (Zbr a b):=by unfold Zbr;infer_instance
theorem Zv7{a b:R2}(h:Zbr a b):Zyt (Fj (a.1*b.2+b.1*a.2) (a.2*b.2)*1) (Gj (a.1*b.2+b.1*a.2) (a.2*b.2)*2)=0:=(Zb9 h.2).2.2
def isp(cv:R2→Int)(hv:Int):Nat→R2→R2→Int→Int→Nat→List (R2×R2)
 | 0,_,_,_,_,_=>[]
 | f+1,a,b,fr,to,d=>if fr=to then []else if fr-to=1∧hv≤(d:Int)then [(a,b)]else isp cv hv f a (Qk a b) fr (cv (Qk a b)) (d+1) ++ isp cv hv f (Qk a b) b (cv (Qk a b)) to (d+1)
def Ztn(cv:R2→Int)(ok:R2→Prop)(hv:Int):Nat→R2→R2→Int→Int→Nat→Prop
 | 0,_,_,_,_,_=>False
 | f+1,a,b,fr,to,d=>fr=to∨(fr-to=1∧hv≤(d:Int))∨(d<1000∧Zbr a b∧ok (Qk a b)∧Ztn cv ok hv f a (Qk a b) fr (cv (Qk a b)) (d+1)∧Ztn cv ok hv f (Qk a b) b (cv (Qk a b)) to (d+1))
instance ispDec (cv:R2→Int) (ok:R2→Prop) [DecidablePred ok] (hv:Int):∀f a b fr to d,Decidable (Ztn cv ok hv f a b fr to d)
 | 0,_,_,_,_,_=>inferInstanceAs (Decidable False)
 | f+1,a,b,fr,to,d=>@instDecidableOr _ _ _ (@instDecidableOr _ _ _ (@instDecidableAnd _ _ _ (@instDecidableAnd _ _ _ (@instDecidableAnd _ _ _ (@instDecidableAnd _ _ (ispDec cv ok hv f a (Qk a b) fr (cv (Qk a b)) (d+1)) (ispDec cv ok hv f (Qk a b) b (cv (Qk a b)) to (d+1)))))))
def okQ(z:R2):Prop:=bl z.1.natAbs≤65536∧bl z.2.natAbs≤65536∧0<z.2
def evok(ls:List (SL×List Int))(m:R2):Prop:=∀z∈ls,¬Mo z.2 m.1 m.2
def cvx(ls:List (SL×List Int))(m:R2):Int:=chg (sgx ls (fat m.1 m.2))
def cvc(F:Nat)(xs:List Int)(m:R2):Int:=cnt F xs m.1 m.2
def evc(F:Nat)(xs:List Int)(m:R2):Prop:=∀p∈Ac F xs,¬Mo p m.1 m.2
def slow(a:R2):R2:=(Fj a.1 a.2,Gj a.1 a.2)
def sisol(F:Nat)(xs:List Int)(f:Nat)(a b:R2)(hq:Int):List (R2×R2):=isp (cvc F xs) hq f (slow a) (slow b) (cvc F xs a) (cvc F xs b) 0
def isOK(F:Nat)(xs:List Int)(f:Nat)(a b:R2)(hq:Int):Prop:=Db F xs∧evc F xs a∧evc F xs b∧¬Lb a.1 a.2∧¬Lb b.1 b.2∧Ztn (cvc F xs) (evc F xs) hq f (slow a) (slow b) (cvc F xs a) (cvc F xs b) 0∧(sisol F xs f a b hq).length≤1000000
open Go.RowKit (Below)
variable {P:Program} {N:Nat} {sc:Nat→Prop} {env env':Qj} {H H':Hp} {Q Q':Exit→Act→World→Prop} {M:Nat→Prop}
def CalM(P:Program)(f:FuncId)(args:Array Value)(pre:List Pc){G:Type}(φ:G→Prop)(Zv:G→Value)(it its:G→Pc):Prop:=
 ∀w,(∀p∈pre,p.holds w)→Calls P f args w fun e w'=>∃g,e= .returned (Zv g)∧φ g∧Below w.heap.size w w'∧(it g).holds w'∧(∀b,(it g).fp b→w.heap.size≤b)∧
  (its g).holds w'∧(its g).own=false∧(∀b,(its g).fp b→w.heap.size≤b∨∃q∈pre,q.fp b)∧∀b,(it g).fp b→(its g).fp b→False
def FPostM(P:Program)(fn:Func)(w0:World)(pre:List Pc){G:Type}(φ:G→Prop)(Zv:G→Value)(it its:G→Pc):Exit→Act→World→Prop:=
 bodyPost P fn fun e w'=>∃g,e= .returned (Zv g)∧φ g∧Below w0.heap.size w0 w'∧(it g).holds w'∧(∀b,(it g).fp b→w0.heap.size≤b)∧
  (its g).holds w'∧(its g).own=false∧(∀b,(its g).fp b→w0.heap.size≤b∨∃q∈pre,q.fp b)∧∀b,(it g).fp b→(its g).fp b→False
theorem Zgx{β:Type}{q:β→Pc}{zs ys:List β}(i j n:Nat)(hi:lk H i=some (Gc q zs))(hj:lk H j=some (Gc q ys))(hi0:Nat.beq i 0=false)(hj0:Nat.beq j 0=false) :
  ∀a w,Sat N sc env H a w→Sat N sc env ((n,Gc q (zs ++ ys)) :: H) a w:=
 Zqa i j n hi hj hi0 hj0 rfl rfl (fun w h1 h2 y hy=>by
  rcases List.mem_append.1 hy with h | h
  ·exact h1 y h
  ·exact h2 y h) (fun b hb=>by
  obtain⟨y,hy,hb⟩:=hb
  rcases List.mem_append.1 hy with h | h
  ·exact .inl ⟨y,h,hb⟩
  ·exact .inr ⟨y,h,hb⟩) rfl
abbrev qD (z:SL×Nat):Pc:=d9p (Qq z.1) z.2
abbrev JE:=(R2×R2)×(SL×SL×SL×SL)
abbrev encJ (y:JE):Value:= .agg #[.bool (decide (y.1.1.1<0)),Qq y.2.1,.bool (decide (y.1.1.2<0)),Qq y.2.2.1,.bool (decide (y.1.2.1<0)),Qq y.2.2.2.1,.bool (decide (y.1.2.2<0)),Qq y.2.2.2.2]
abbrev qJ (y:JE):Pc:=Gc qD [(y.2.1,y.1.1.1.natAbs),(y.2.2.1,y.1.1.2.natAbs),(y.2.2.2.1,y.1.2.1.natAbs),(y.2.2.2.2,y.1.2.2.natAbs)]
abbrev J0:JE:=(((0,0),(0,0)),((none,0,0),(none,0,0),(none,0,0),(none,0,0)))
end Go.Sky
namespace Go.Sky
variable {P:Program} {N:Nat} {sc:Nat→Prop} {env env':Qj} {H H':Hp} {Q Q':Exit→Act→World→Prop}
theorem Znh(w:World)(g:Nat)(cs:Array Value)(t:TypeId)(fr:Nat×Nat)(hg:w.heap[g]? = some (.cells cs t fr)):w.setRow g cs=w:=by
 obtain⟨hlt,hv⟩:=Array.getElem?_eq_some_iff.1 hg
 have h:(w.setRow g cs).heap=w.heap:=by
  apply Array.ext_getElem?
  intro i
  by_cases h:g=i
  ·subst h;rw [setRow_heap w g cs cs t fr hg,hg]
  ·unfold World.setRow
   dsimp only
   rw [Array.getElem?_modify,if_neg h]
 have e:w.setRow g cs={ w with heap:=(w.setRow g cs).heap }:=rfl
 rw [e,h]
theorem Zi8 {M:Nat→Prop} {o:Oper} {x y:Operand} {t tb:TypeId} {i b j k:Nat} {cs:Array Value} {v:Value} {vs:List Value} (ho:o.op= .store t x y) (hd:o.dst=none)
  (hx:ev env x=some (.pointer (some ⟨b,j,none⟩))) (hy:ev env y=some v) (hH:lk H i=some (Ir b tb cs)) (hv:v.cells=vs.toArray) (hk:∀w,(sizeOf t).run P w= .ok k w) (hlen:vs.length=k)
  (hfit:Nat.ble (j+vs.length) cs.size=true) (h1:∀u∈vs,u.oneCell'=true) (hset:Ha cs j vs=cs) :
  T P N sc M o env H (G:=Unit) (fun _=>True) (fun _=>env) (fun _=>H):=fun a w hs K Q hK=>by
 have hb:w.heap[b]? = some (.cells cs tb (0,0)):=hs.hold i _ hH
 have hst:=run_storeCells_at P b j tb vs 0 cs w hb (by simpa using Nat.le_of_ble_eq_true hfit) h1
 simp only [Nat.add_zero]at hst
 have hr:(execOp a.eval o).run P w= .ok .skip (w.setRow b (Ha cs j vs)):=by
  simp [execOp,ho,hs.ev hx,hs.ev hy,Instr.storeAt,Instr.sureAddr,storeVar,hv,hk,hlen,hst,Ha]
 rw [hset,Znh w b cs tb _ hb]at hr
 unfold Oper.wp
 rw [hr]
 show K (a.put o.dst _) _
 rw [hd]
 exact hK () _ _ trivial (hs.put_none undef) (Chg.refl _ _)
theorem t_stp1 {M:Nat→Prop} {o:Oper} {x y:Operand} {t tb:TypeId} {i b j:Nat} {cs:Array Value} {v:Value} {w0:World} {M0:Nat→Prop} (ho:o.op= .store t x y) (hd:o.dst=none)
  (hx:ev env x=some (.pointer (some ⟨b,j,none⟩))) (hy:ev env y=some v) (hH:lk H i=some (box b tb cs)) (hi0:i≠0) (hk:∀w,(sizeOf t).run P w= .ok 1 w) (hfit:Nat.ble (j+1) cs.size=true) (h1:One N sc env H v)
  (h0:lk H 0=some (Xe w0 M0)) (hw:∀b,w0.heap.size≤b→sc b) (hM:M b) :
  T P N sc M o env H (G:=Unit) (fun _=>True) (fun _=>env) (fun _=>(i,box b tb (Ha cs j [v])) :: H):=fun a w hs=>
 t_stp (cs':=#[]) (vs:=[v]) ho hd hx hy hH hi0 (Zm (h1 a w hs)) hk rfl hfit ⟨h1,trivial⟩ h0 hw hM a w hs
theorem Zy1{v:Value}{zs:List (SL×List Int)}{al:Bool}{r:List Pc}{z:SL×List Int}(i:Nat)(hi:lk H i=some (Ps 1 Kr (fun y:SL×List Int=>Yk 2 wv (Qq y.1) y.2) v zs))(hi0:Nat.beq i 0=false)(hz:z∈zs)(h:PreOk H al r):PreOk H al (Yk 2 wv (Qq z.1) z.2 :: r):=Znt (q:=fun y:SL×List Int=>Yk 2 wv (Qq y.1) y.2) (z:=z) i hi hi0 hz h
end Go.Sky
namespace Go.Sky
variable {P:Program} {N:Nat} {sc:Nat→Prop} {env env':Qj} {H H':Hp} {Q Q':Exit→Act→World→Prop}
def Ey(l:List Int):Array Value:=(l.map (Value.int .i64)).toArray
theorem Zu8(l:List Int):(Ey l).size=l.length:=by simp [Ey]
theorem Zxc{l:List Int}{j:Nat}(h:j<l.length):(Ey l)[j]? = some (.int .i64 (l.getD j 0)):=by
 simp [Ey,List.getElem?_eq_getElem h,List.getD_eq_getElem?_getD]
theorem Zxb{l:List Int}{j:Nat}{v:Int}(h:j<l.length):Ha (Ey l) j [.int .i64 v]=Ey (l.set j v):=by
 unfold Ha Ey
 congr 1
 rw [List.set_eq_take_append_cons_drop,if_pos h,List.map_append,List.map_cons,List.map_take,List.map_drop]
 simp
theorem Ic {o:Oper} {x y:Operand} {t e:TypeId} {b off i k len:Nat} {kd:IntKind} {m:Int} (ho:o.op= .indexAddr t x y) (hx:ev env x=some (.pointer (some ⟨b,off,none⟩))) (hy:ev env y=some (.int kd m))
  (ht:P.underlying t=some (.array len e)) (hk:∀w,(sizeOf e).run P w= .ok k w) (him:m=(i:Int):=by omega) (hlt:i<len:=by omega):Oy P N sc o env H (.pointer (some ⟨b,off+i*k,none⟩)):=fun a w hs=>by
 subst him
 simp [execOp,ho,hs.ev hx,hs.ev hy,Instr.indexAt,Instr.sureAddr,asIntOf,run_underlying ht,hk,hlt,Pe]
theorem Zws{o:Oper}{x:Operand}{t tb:TypeId}{i b j:Nat}{l:List Int}(ho:o.op= .load t x)(hx:ev env x=some (.pointer (some ⟨b,j,none⟩)))(hH:lk H i=some (box b tb (Ey l)))(ht:∀w,(isAgg t).run P w= .ok false w)(hj:j<l.length:=by omega) :
  Oy P N sc o env H (.int .i64 (l.getD j 0)):=Zwt ho hx hH ht (Zxc hj)
theorem d_lwa{o:Oper}{x:Operand}{t tb:TypeId}{i b k:Nat}{l:List Int}(ho:o.op= .load t x)(hx:ev env x=some (.pointer (some ⟨b,0,none⟩)))(hH:lk H i=some (box b tb (Ey l)))(ht:∀w,(isAgg t).run P w= .ok true w)(hk:∀w,(sizeOf t).run P w= .ok k w)(hl:l.length=k) :
  Oy P N sc o env H (.agg (Ey l)):=
 Zua (vs:=l.map (Value.int .i64)) ho hx hH ht hk (by simpa using hl) (fun n u hu=>by rw [Nat.zero_add];simpa [Ey]using hu)
theorem Zp1 {M:Nat→Prop} {o:Oper} {x y:Operand} {t tb:TypeId} {i b j:Nat} {l:List Int} {v:Int} {w0:World} {M0:Nat→Prop} (ho:o.op= .store t x y) (hd:o.dst=none)
  (hx:ev env x=some (.pointer (some ⟨b,j,none⟩))) (hy:ev env y=some (.int .i64 v)) (hH:lk H i=some (box b tb (Ey l))) (hk:∀w,(sizeOf t).run P w= .ok 1 w) 
  (h0:lk H 0=some (Xe w0 M0)) (hw:∀b,w0.heap.size≤b→sc b) (hM:M b) (hi0:i≠0:=by decide) (hj:j<l.length:=by omega) :
  T P N sc M o env H (G:=Unit) (fun _=>True) (fun _=>env) (fun _=>(i,box b tb (Ey (l.set j v))) :: H):=by
 rw [←Zxb hj]
 exact Zgl (vs:=[.int .i64 v]) ho hd hx hy hH hi0 rfl hk rfl (by rw [Zu8];exact hj) (fun u hu=>Zz (by rw [List.mem_singleton.1 hu];rfl)) rfl h0 hw hM
theorem Zxk {M:Nat→Prop} {o:Oper} {x y:Operand} {t tb:TypeId} {i b k:Nat} {cs:Array Value} {l:List Int} {w0:World} {M0:Nat→Prop} (ho:o.op= .store t x y) (hd:o.dst=none)
  (hx:ev env x=some (.pointer (some ⟨b,0,none⟩))) (hy:ev env y=some (.agg (Ey l))) (hH:lk H i=some (box b tb cs)) (hk:∀w,(sizeOf t).run P w= .ok k w) (hl:l.length=k) (hc:cs.size=k)
  (h0:lk H 0=some (Xe w0 M0)) (hw:∀b,w0.heap.size≤b→sc b) (hM:M b) (hi0:i≠0:=by decide) :
  T P N sc M o env H (G:=Unit) (fun _=>True) (fun _=>env) (fun _=>(i,box b tb (Ey l)) :: H):=
 Zgl (vs:=l.map (Value.int .i64)) ho hd hx hy hH hi0 rfl hk (by simpa using hl) O8 (fun u hu=>Zz (by obtain⟨z,_,rfl⟩:=List.mem_map.1 hu;rfl)) (by
  unfold Ha Ey
  rw [List.take_zero,List.nil_append,Nat.zero_add,List.drop_eq_nil_of_le O8,List.append_nil]) h0 hw hM
def Pa:Nat→Nat→Nat
 | _,0=>1
 | 0,_+1=>0
 | n+1,k+1=>Pa n k+Pa n (k+1)
theorem Zrl:∀n k,Pa n k≤2^n
 | 0,0=>O3
 | _+1,0=>Nat.two_pow_pos _
 | 0,_+1=>Nat.zero_le _
 | n+1,k+1=>by
  have h1:=Zrl n k
  have h2:=Zrl n (k+1)
  show Pa n k+Pa n (k+1)≤2^(n+1)
  rw [Nat.pow_succ];omega
theorem Zib:∀n k,n<k→Pa n k=0
 | _,0,h=>absurd h (Nat.not_lt_zero _)
 | 0,_+1,_=>rfl
 | n+1,k+1,h=>by
  show Pa n k+Pa n (k+1)=0
  rw [Zib n k O,Zib n (k+1) O]
structure Tab (l:List Int) (n k:Nat):Prop where
 len:l.length=625
 eq:∀r c,r<25→c<25→l.getD (r*25+c) 0=if r<n∨(r=n∧c<k)then(Pa r c:Int)else 0
theorem Zel{l:List Int}{i j:Nat}{v:Int}(hi:i<l.length:=by omega):(l.set i v).getD j 0=if j=i then v else l.getD j 0:=by
 rw [List.getD_eq_getElem?_getD,List.getD_eq_getElem?_getD,List.getElem?_set]
 by_cases h:i=j
 ·subst h;rw [if_pos rfl,if_pos hi,if_pos rfl];rfl
 ·rw [if_neg h,if_neg (fun e=>h e.symm)]
theorem Tab.start:Tab (List.replicate 625 0) 0 0:=⟨List.length_replicate,fun r c hr hc=>by
 rw [if_neg O,List.getD_eq_getElem?_getD]
 rw [List.getElem?_replicate]
 split<;>rfl⟩
theorem Tab.step{l:List Int}{n k:Nat}{v:Int}(h:Tab l n k)(hn:n<25)(hk:k<25)(hv:v=(Pa n k:Int)){j:Nat}(hj:j=n*25+k):Tab (l.set j v) n (k+1):=by
 subst hj
 have hl:=h.len
 refine⟨by rw [List.length_set];exact hl,fun r c hr hc=>?_⟩
 rw [Zel,h.eq r c hr hc]
 by_cases e:r*25+c=n*25+k
 ·have e1:r=n:=O
  have e2:c=k:=O
  subst e1;subst e2
  rw [if_pos rfl,if_pos O];exact hv
 ·rw [if_neg e]
  have:¬(r=n∧c=k):=fun⟨e1,e2⟩=>e (by rw [e1,e2])
  by_cases g:r<n∨(r=n∧c<k)
  ·rw [if_pos g,if_pos O]
  ·rw [if_neg g,if_neg O]
theorem Tab.row{l:List Int}{n k:Nat}(h:Tab l n k)(hk:n<k):Tab l (n+1) 0:=⟨h.len,fun r c hr hc=>by
 rw [h.eq r c hr hc]
 by_cases g:r<n∨(r=n∧c<k)
 ·rw [if_pos g,if_pos O]
 ·rw [if_neg g]
  by_cases g2:r<n+1∨(r=n+1∧c<0)
  ·rw [if_pos g2,Zib r c O];rfl
  ·rw [if_neg g2]⟩
theorem Tab.get{l:List Int}{n k r c:Nat}(h:Tab l n k)(hr:r<25)(hc:c<25)(hlt:r<n∨(r=n∧c<k)){j:Nat}(hj:j=r*25+c):l.getD j 0=(Pa r c:Int):=by
 rw [hj,h.eq r c hr hc,if_pos hlt]
theorem Zum{n k:Nat}(hn:1≤n:=by omega)(hk:1≤k:=by omega):Pa n k=Pa (n-1) (k-1)+Pa (n-1) k:=by
 obtain⟨m,rfl⟩:∃m,n=m+1:=⟨n-1,O⟩
 obtain⟨j,rfl⟩:∃j,k=j+1:=⟨k-1,O⟩
 rfl
end Go.Sky
namespace Go.Sky
structure Tb (l:List Int) (n k:Nat):Prop where
 len:l.length=36
 eq:∀r c,r<6→c<6→l.getD (r*6+c) 0=if r<n∨(r=n∧c<k)then(Pa r c:Int)else 0
theorem Tb.start:Tb (List.replicate 36 0) 0 0:=⟨List.length_replicate,fun r c hr hc=>by
 rw [if_neg O,List.getD_eq_getElem?_getD]
 rw [List.getElem?_replicate]
 split<;>rfl⟩
theorem Tb.step{l:List Int}{n k:Nat}{v:Int}(h:Tb l n k)(hn:n<6)(hk:k<6)(hv:v=(Pa n k:Int)){j:Nat}(hj:j=n*6+k):Tb (l.set j v) n (k+1):=by
 subst hj
 have hl:=h.len
 refine⟨by rw [List.length_set];exact hl,fun r c hr hc=>?_⟩
 rw [Zel,h.eq r c hr hc]
 by_cases e:r*6+c=n*6+k
 ·have e1:r=n:=O
  have e2:c=k:=O
  subst e1;subst e2
  rw [if_pos rfl,if_pos O];exact hv
 ·rw [if_neg e]
  have:¬(r=n∧c=k):=fun⟨e1,e2⟩=>e (by rw [e1,e2])
  by_cases g:r<n∨(r=n∧c<k)
  ·rw [if_pos g,if_pos O]
  ·rw [if_neg g,if_neg O]
theorem Tb.row{l:List Int}{n k:Nat}(h:Tb l n k)(hk:n<k):Tb l (n+1) 0:=⟨h.len,fun r c hr hc=>by
 rw [h.eq r c hr hc]
 by_cases g:r<n∨(r=n∧c<k)
 ·rw [if_pos g,if_pos O]
 ·rw [if_neg g]
  by_cases g2:r<n+1∨(r=n+1∧c<0)
  ·rw [if_pos g2,Zib r c O];rfl
  ·rw [if_neg g2]⟩
theorem Tb.get{l:List Int}{n k r c:Nat}(h:Tb l n k)(hr:r<6)(hc:c<6)(hlt:r<n∨(r=n∧c<k)){j:Nat}(hj:j=r*6+c):l.getD j 0=(Pa r c:Int):=by
 rw [hj,h.eq r c hr hc,if_pos hlt]
theorem Zrm{n k:Nat}(h:n≤5:=by omega):Pa n k≤32:=Nat.le_trans (Zrl n k) (Nat.le_trans (Nat.pow_le_pow_right O3 h) O3)
theorem Zbf {P:Program} {t e:TypeId} {n:Nat} {it ie:TypeInfo} {z:Value} (parts:List (Nat×Value)) {cells:Array Value} (hi:P.info? t=some it) (hu:P.underlying t=some (.array n e)) (hz:it.zero=some z) (he:P.info? e=some ie)
  (hf:Instr.fill (fun i=>some (i*ie.size,ie.size)) z.cells parts=some cells):P.built t parts=some cells:=by
 unfold Program.built
 simp only [hi,hu,hz,he,hf]
variable {P:Program} {N:Nat} {sc:Nat→Prop} {env env':Qj} {H H':Hp} {Q Q':Exit→Act→World→Prop}
def Zt{α:Type _}(i:Nat)(a b c:α):α:=match i with
 | 0=>a
 | 1=>b
 | _=>c
theorem Ei{α:Type _}{p:α→Prop}{i:Nat}{a b c:α}(h0:p a)(h1:p b)(h2:p c):p (Zt i a b c):=by
 unfold Zt;split<;>assumption
theorem Zo9 {o:Oper} {x y:Operand} {t e:TypeId} {i:Nat} {kd:IntKind} {m:Int} {v0 v1 v2:Value} (ho:o.op= .index t x y) (hx:ev env x=some (.agg #[v0,v1,v2])) (hy:ev env y=some (.int kd m))
  (ht:P.underlying t=some (.array 3 e)) (hk:∀w,(sizeOf e).run P w= .ok 1 w) (ha:∀w,(isAgg e).run P w= .ok false w) (him:m=(i:Int)) (hlt:i<3:=by omega):Oy P N sc o env H (Zt i v0 v1 v2):=fun a w hs=>by
 subst him
 have h3:i=0∨i=1∨i=2:=O
 rcases h3 with rfl | rfl | rfl<;>simp [execOp,ho,hs.ev hx,hs.ev hy,Instr.index,asIntOf,run_underlying ht,hk,ha,asAgg,part,Zt]
theorem Zb0 {α:Type} {k:Nat} {enc:α→Value} {v0 v1 v2:Value} {x0 x1 x2:List α} (i p0 p1 p2 n:Nat) (h0:lk H p0=some (Yk k enc v0 x0)) (h1:lk H p1=some (Yk k enc v1 x1)) (h2:lk H p2=some (Yk k enc v2 x2))
  (n0:Nat.beq p0 0=false) (n1:Nat.beq p1 0=false) (n2:Nat.beq p2 0=false):∀a w,Sat N sc env H a w→Sat N sc env ((n,Yk k enc (Zt i v0 v1 v2) (Zt i x0 x1 x2)) :: H) a w:=by
 match i with
 | 0=>exact Zbm p0 n h0 n0 rfl (fun w h=>h) (fun b h=>h) rfl
 | 1=>exact Zbm p1 n h1 n1 rfl (fun w h=>h) (fun b h=>h) rfl
 | i+2=>exact Zbm p2 n h2 n2 rfl (fun w h=>h) (fun b h=>h) rfl
theorem Zo8{α:Type}{o:Oper}{x:Operand}{t tb:TypeId}{i b j k:Nat}{enc:α→Value}{l:List α}(d0:α)(ho:o.op= .load t x)(hx:ev env x=some (.pointer (some ⟨b,0+j*k,none⟩)))(hH:lk H i=some (box b tb (cellsOf enc l).toArray))(he:Enc P t k enc)(hj:j<l.length) :
  Oy P N sc o env H (enc (l.getD j d0)):=fun a w hs=>by
 have hi:l[j]? = some (l.getD j d0):=by simp [List.getD,List.getElem?_eq_getElem hj]
 have h:=he.load (l.getD j d0) w ⟨b,0+j*k,none⟩ (fun q u hq=>by
  have h1:=Ko he.cells l j _ hi q u hq
  rw [Pe,hs.boxc hH]
  simpa using h1)
 have hev:=hs.ev hx
 generalize enc (l.getD j d0)=r at h ⊢
 generalize (⟨b,0+j*k,none⟩:Addr)=ad at h hev
 simp [execOp,ho,hev,Instr.loadAt,Instr.sureAddr,h]
theorem t_sbe {α:Type} {M:Nat→Prop} {o:Oper} {x y:Operand} {t tb:TypeId} {i b j k:Nat} {enc:α→Value} {l:List α} (z:α) {w0:World} {M0:Nat→Prop} (ho:o.op= .store t x y) (hd:o.dst=none)
  (hx:ev env x=some (.pointer (some ⟨b,0+j*k,none⟩))) (hy:ev env y=some (enc z)) (hH:lk H i=some (box b tb (cellsOf enc l).toArray)) (he:Enc P t k enc) (hj:j<l.length)
  (h0:lk H 0=some (Xe w0 M0)) (hw:∀b,w0.heap.size≤b→sc b) (hM:M b) (hi0:i≠0:=by decide) :
  T P N sc M o env H (G:=Unit) (fun _=>True) (fun _=>env) (fun _=>(i,box b tb (cellsOf enc (l.set j z)).toArray) :: H):=by
 have hl:=Yq he.cells l
 have hz:(enc z).cells.toList.length=k:=by simp [he.cells]
 have hle:(j+1)*k≤l.length*k:=Nat.mul_le_mul_right _ hj
 rw [Nat.succ_mul]at hle
 refine Zgl (vs:=(enc z).cells.toList) ho hd hx hy hH hi0 rfl he.size hz (by rw [hz,List.size_toArray,hl];omega) (fun u hu=>Zz (he.one z u hu)) ?_ h0 hw hM
 unfold Ha
 rw [Nat.zero_add,hz,Zao he.cells l j z hj]
end Go.Sky
namespace Go.Sky
variable {P:Program} {N:Nat} {sc:Nat→Prop} {env env':Qj} {H H':Hp} {Q Q':Exit→Act→World→Prop}
theorem d_lea{α:Type}{o:Oper}{x:Operand}{t tb te:TypeId}{i b k q:Nat}{enc:α→Value}{l:List α}(ho:o.op= .load t x)(hx:ev env x=some (.pointer (some ⟨b,0,none⟩)))(hH:lk H i=some (box b tb (cellsOf enc l).toArray))(he:Enc P te q enc)(ht:∀w,(isAgg t).run P w= .ok true w)(hk:∀w,(sizeOf t).run P w= .ok k w)(hl:l.length*q=k) :
  Oy P N sc o env H (.agg (cellsOf enc l).toArray):=
 Zua (vs:=cellsOf enc l) ho hx hH ht hk (by rw [Yq he.cells l];exact hl) (fun n u hu=>by rw [Nat.zero_add];simpa using hu)
theorem t_sea {α:Type} {M:Nat→Prop} {o:Oper} {x y:Operand} {t tb te:TypeId} {i b k q:Nat} {cs:Array Value} {enc:α→Value} {l:List α} {w0:World} {M0:Nat→Prop} (ho:o.op= .store t x y) (hd:o.dst=none)
  (hx:ev env x=some (.pointer (some ⟨b,0,none⟩))) (hy:ev env y=some (.agg (cellsOf enc l).toArray)) (hH:lk H i=some (box b tb cs)) (hi0:i≠0) (he:Enc P te q enc) (hk:∀w,(sizeOf t).run P w= .ok k w) (hl:l.length*q=k) (hc:cs.size=k)
  (h0:lk H 0=some (Xe w0 M0)) (hw:∀b,w0.heap.size≤b→sc b) (hM:M b) :
  T P N sc M o env H (G:=Unit) (fun _=>True) (fun _=>env) (fun _=>(i,box b tb (cellsOf enc l).toArray) :: H):=by
 have h9:(cellsOf enc l).length=k:=by rw [Yq he.cells l];exact hl
 refine Zgl (vs:=cellsOf enc l) ho hd hx hy hH hi0 rfl hk h9 (by rw [h9,Nat.zero_add,hc];exact Nat.le_refl _) (fun u hu=>?_) (by
  unfold Ha
  rw [List.take_zero,List.nil_append,Nat.zero_add,List.drop_eq_nil_of_le O8,List.append_nil]) h0 hw hM
 unfold cellsOf at hu
 obtain⟨z,_,hz⟩:=List.mem_flatMap.1 hu
 exact Zz (he.one z u hz)
end Go.Sky
namespace Go.Sky
variable {P:Program} {N:Nat} {sc:Nat→Prop} {env env':Qj} {H H':Hp} {Q Q':Exit→Act→World→Prop}
abbrev Zn:=(Int×Int×Int)×(SL×List Int)×(SL×List Int)×(SL×List Int)
abbrev Mp (g:Zn):Value:= .agg #[.int .i64 g.1.1,.int .i64 g.1.2.1,.int .i64 g.1.2.2,Qq g.2.1.1,Qq g.2.2.1.1,Qq g.2.2.2.1]
abbrev qC (z:SL×List Int):Pc:=Yk 1 Yu (Qq z.1) z.2
abbrev qG (g:Zn):Pc:=Gc qC [g.2.1,g.2.2.1,g.2.2.2]
abbrev G0:Zn:=((0,0,0),((none,0,0),[]),((none,0,0),[]),((none,0,0),[]))
theorem Nv{v:Value}{ps:List Zn}{g:Zn}{z:SL×List Int}(j n:Nat)(hj:lk H j=some (Ps 6 Mp qG v ps))(hj0:Nat.beq j 0=false)(hg:g∈ps)(hz:z∈[g.2.1,g.2.2.1,g.2.2.2]):∀a w,Sat N sc env H a w→Sat N sc env ((n,Yk 1 Yu (Qq z.1) z.2) :: H) a w:=
 Zbm j n hj hj0 rfl (fun w h=>h.2 g hg z hz) (fun b hb=> .inr ⟨g,hg,z,hz,hb⟩) rfl
end Go.Sky
namespace Go.Sky
theorem Fg{x:Int}(h:Nc x):bl x.natAbs≤64:=(Xs 64 _).2 (by obtain⟨h1,h2⟩:=h;omega)
theorem in_bl{x:Int}(h:bl x.natAbs≤63):Nc x:=by
 have:=(Xs 63 x.natAbs).1 h
 exact⟨O,O⟩
theorem bl_pw{n:Int}{i:Nat}(h:bl n.natAbs≤100)(hi:i≤10):bl (n^i).natAbs≤1000:=by
 rcases Nat.eq_zero_or_pos i with h0 | h0
 ·subst h0;rw [Int.pow_zero];decide
 ·exact Nat.le_trans (Fy n h i h0) (by have:=Nat.mul_le_mul_right 100 hi;omega)
def Dh:List Int→Int
 | []=>1
 | x :: r=>x*Dh r
theorem zc6_eq:(Value.agg (List.replicate 36 (Value.int .i64 0)).toArray).cells=Ey (List.replicate 36 0):=rfl
theorem Zmn:(Value.agg (List.replicate 36 (Value.int .i64 0)).toArray).cells.size=36:=rfl
def w60(n j k:Nat):Int:=60/(Pa n k:Int)*(Pa j k:Int)
def ctl(c:List Int)(j m:Nat):Int:=Zs (fun k=>c.getD k 0*w60 (c.length-1) j k) m
theorem Ybu(c:List Int)(j m:Nat):ctl c j (m+1)=ctl c j m+c.getD m 0*w60 (c.length-1) j m:=rfl
theorem Zl8:∀{n k:Nat},k≤n→0<Pa n k
 | n,0,_=>by cases n<;>exact Nat.one_pos
 | n+1,k+1,h=>by
  have:=Zl8 (n:=n) (k:=k) O
  show 0<Pa n k+Pa n (k+1);omega
theorem Zxd{n j k:Nat}(hj:j≤5):0≤w60 n j k∧w60 n j k≤1920:=by
 have h1:=Zrm (k:=k) hj
 unfold w60
 have h2:(0:Int)≤60/(Pa n k:Int):=Int.ediv_nonneg O3 O
 have h3:(60:Int)/(Pa n k:Int)≤60:=Int.ediv_le_self _ O3
 refine⟨Int.mul_nonneg h2 O,?_⟩
 have:=Int.mul_le_mul h3 (show(Pa j k:Int)≤32 by omega) O O3
 omega
theorem Zrs{n j k:Nat}(hj:j≤5):bl (w60 n j k).natAbs≤11:=by
 have:=Zxd (n:=n) (k:=k) hj
 exact(Xs 11 _).2 O
theorem Ik{c:List Int}(h:∀x∈c,Nc x)(k:Nat):Nc (c.getD k 0):=by
 by_cases hk:k<c.length
 ·exact h _ (Zu hk)
 ·rw [List.getD_eq_getElem?_getD,List.getElem?_eq_none O];exact⟨O3,O3⟩
theorem Ycf{c:List Int}(h:∀x∈c,Nc x){j m:Nat}(hj:j≤5)(hm:m≤31):bl (ctl c j m).natAbs≤80:=
 Zf9 (K:=75) (fun k _=>by
  have h1:=Fg (Ik h k)
  have h2:=Zrs (n:=c.length-1) (k:=k) hj
  have:=Xb (c.getD k 0) (w60 (c.length-1) j k)
  omega) hm
def Zih(c:List Int)(over:Int):Bool:=(List.range c.length).all fun j=>decide ((ctl c j (j+1)).natAbs≤62914560*over)
theorem Ycb{c:List Int}{over:Int}(h:∀j,j<c.length→((ctl c j (j+1)).natAbs:Int)≤62914560*over):Zih c over=true:=by
 unfold Zih
 rw [List.all_eq_true]
 intro j hj
 exact decide_eq_true (h j (List.mem_range.1 hj))
theorem bndB_f{c:List Int}{over:Int}{j:Nat}(hj:j<c.length)(h:¬((ctl c j (j+1)).natAbs:Int)≤62914560*over):Zih c over=false:=by
 cases hb:Zih c over with
 | false=>rfl
 | true=>
  unfold Zih at hb
  rw [List.all_eq_true]at hb
  exact absurd (of_decide_eq_true (hb j (List.mem_range.2 hj))) h
theorem wc_abs(s:Int):(#[.bool false,.string (Xn s.natAbs)]:Array Value)=wc (s.natAbs:Int):=by
 have:decide (((s.natAbs:Nat):Int)<0)=false:=decide_eq_false O
 rw [show wc (s.natAbs:Int)=#[.bool (decide (((s.natAbs:Nat):Int)<0)),.string (Xn ((s.natAbs:Nat):Int).natAbs)]from rfl,this,Int.natAbs_natCast]
theorem sgp(z:Int):0<z.sign↔0<z:=by simpa using Bg z
def axB(c:List Int)(over:Int):Bool:=decide (1≤c.length) && decide (c.length≤6) && !(decide (1<c.length) && decide (c.getD (c.length-1) 0=0)) && Zih c over
def Mc(g:Int):List Int→Int
 | []=>g
 | x :: r=>Mc (Int.gcd g x) r
theorem Hm:∀(a b:List Int) (g:Int),Mc g (a ++ b)=Mc (Mc g a) b
 | [],_,_=>rfl
 | x :: a,b,g=>Hm a b _
theorem Zem{l:List Int}{i:Nat}(g:Int)(h:i<l.length):Mc g (l.take (i+1))=(Int.gcd (Mc g (l.take i)) (l.getD i 0):Int):=by
 rw [Qx 0 _ _ h,Hm];rfl
theorem Zdx:∀{l:List Int} {g:Int} {m:Nat},(∀x∈l,bl x.natAbs≤m)→bl g.natAbs≤m→bl (Mc g l).natAbs≤m
 | [],_,_,_,h=>h
 | x :: l,g,m,h,hg=>Zdx (l:=l) (fun y hy=>h y (List.mem_cons_of_mem _ hy)) (Nat.le_trans (Zmf g x) (by have:=h x (List.mem_cons_self ..);omega))
abbrev Cs:=List Int×List Int×List Int
def Zvb(fr to ov:Int):Bool:=decide (0≤fr) && decide (fr<to) && decide (to≤3600000) && decide (1≤ov) && decide (ov≤4294967296)
def Fi(fr to ov:Int)(x y z:List Int):Bool:=Zvb fr to ov && axB x ov && axB y ov && axB z ov && decide (Mc ov (x ++ y ++ z)=1)
def Lf(i:Nat)(x y z:List Int):List Int:=match i with
 | 0=>[]
 | 1=>x
 | 2=>x ++ y
 | _=>x ++ y ++ z
theorem Zae{i:Nat}(x y z:List Int)(h:i<3):Lf (i+1) x y z=Lf i x y z ++ Zt i x y z:=by
 match i,h with
 | 0,_=>rfl
 | 1,_=>rfl
 | 2,_=>rfl
theorem Zgv{fr to ov:Int}{x y z:List Int}{i:Nat}(h:axB (Zt i x y z) ov=false):Fi fr to ov x y z=false:=by
 unfold Fi
 revert h
 unfold Zt
 split<;>intro h<;>simp [h]
theorem Zgj{fr to ov:Int}{x y z:List Int}(h:¬(0≤fr∧fr<to∧to≤3600000∧1≤ov∧ov≤4294967296)):Fi fr to ov x y z=false:=by
 cases hb:Fi fr to ov x y z with
 | false=>rfl
 | true=>
  unfold Fi Zvb at hb
  simp only [Bool.and_eq_true,decide_eq_true_eq]at hb
  exact absurd O h
theorem Zpq{c:List Int}{ov:Int}(h:1≤c.length→c.length≤6→¬(1<c.length∧c.getD (c.length-1) 0=0)→Zih c ov=true→False):axB c ov=false:=by
 cases hb:axB c ov with
 | false=>rfl
 | true=>
  unfold axB at hb
  simp only [Bool.and_eq_true,Bool.not_eq_true',Bool.and_eq_false_iff,decide_eq_true_eq,decide_eq_false_iff_not]at hb
  exact(h hb.1.1.1 hb.1.1.2 (fun h9=>by rcases hb.1.2 with h8 | h8;exact h8 h9.1;exact h8 h9.2) hb.2).elim
theorem Ycp{c:List Int}{ov:Int}(h1:1≤c.length)(h2:c.length≤6)(h3:¬(1<c.length∧c.getD (c.length-1) 0=0))(h4:Zih c ov=true):axB c ov=true:=by
 unfold axB
 simp only [Bool.and_eq_true,Bool.not_eq_true',Bool.and_eq_false_iff,decide_eq_true_eq,decide_eq_false_iff_not]
 refine⟨⟨⟨h1,h2⟩,?_⟩,h4⟩
 by_cases h5:1<c.length
 ·exact .inr fun h6=>h3 ⟨h5,h6⟩
 ·exact .inl h5
theorem segB_e{fr to ov:Int}{x y z:List Int}(h1:0≤fr∧fr<to∧to≤3600000∧1≤ov∧ov≤4294967296)(h2:∀k,k<3→axB (Zt k x y z) ov=true):Fi fr to ov x y z=decide (Mc ov (Lf 3 x y z)=1):=by
 have a0:axB x ov=true:=h2 0 O3
 have a1:axB y ov=true:=h2 1 O3
 have a2:axB z ov=true:=h2 2 O3
 unfold Fi Zvb
 rw [decide_eq_true h1.1,decide_eq_true h1.2.1,decide_eq_true h1.2.2.1,decide_eq_true h1.2.2.2.1,decide_eq_true h1.2.2.2.2,a0,a1,a2]
 rfl
theorem Dm{x y z:List Int}(hx:∀a∈x,Nc a)(hy:∀a∈y,Nc a)(hz:∀a∈z,Nc a)(i:Nat):∀a∈Zt i x y z,Nc a:=Ei (p:=fun l=>∀a∈l,Nc a) hx hy hz
theorem bl_fc{x y z:List Int}(hx:∀a∈x,Nc a)(hy:∀a∈y,Nc a)(hz:∀a∈z,Nc a){ov:Int}(ho:bl ov.natAbs≤64)(i k:Nat):bl (Mc (Mc ov (Lf i x y z)) ((Zt i x y z).take k)).natAbs≤64:=by
 refine Zdx (fun a ha=>Fg (Dm hx hy hz i a (List.mem_of_mem_take ha))) (Zdx (fun a ha=>Fg ?_) ho)
 unfold Lf at ha
 split at ha
 ·cases ha
 ·exact hx a ha
 ·rcases List.mem_append.1 ha with h | h
  ·exact hx a h
  ·exact hy a h
 ·rcases List.mem_append.1 ha with h | h
  ·rcases List.mem_append.1 h with h | h
   ·exact hx a h
   ·exact hy a h
  ·exact hz a h
abbrev RWL:=List (Bool×ByteArray)
def smallR(r:RWL):Bool:=decide (r.length≤8) && r.all fun c=>decide (c.2.size≤6)
noncomputable def dec (r:RWL):List Int:=if h:okP r=true then(okP_ex h).choose else []
noncomputable def bdE (r:RWL):Int:=if okP r=true then Zrn (dec r)else 2
noncomputable def bdZ (r:RWL):Int:=if bdE r=0 then sbound (dec r)else 0
def firstE(r:RWL)(x y x2 y2:Int):Int:=if okP r=true then(if r.length=0∨0<x*y2-x2*y then 3 else 0)else 2
def chke:Nat→Nat→Nat→Nat→Nat→Bool
 | 0,la,_,A,_=>Nat.ble (A+la*64) 65500
 | f+1,la,lb,A,B=>Nat.ble (A+la*64) 65500 && (Nat.beq lb 0 || (List.range lb).all fun l=>chke f lb l B (bif Nat.ble l 1 then 2 else A+(la-lb+1)*B))
inductive SV:List Int→List Int→Prop
 | one (a:Int):SV [a] [a]
 | step (a:Int) (r t:List Int):SV r t→SV (a :: r) (a :: t)
 | skip (a u w:Int) (r t:List Int):(a=1∨a=-1)→(-1≤u∧u≤1)→(-1≤w∧w≤1)→SV (-a :: r) (-a :: t)→SV (a :: u :: -a :: r) (a :: w :: -a :: t)
theorem Zj4{s:Int×Int}{a u:Int}(ha:a=1∨a=-1)(hu:-1≤u∧u≤1):Oq (Oq (Oq s a) u) (-a)=Oq (Oq s a) (-a):=by
 obtain⟨n,l⟩:=s
 have h3:u=-1∨u=0∨u=1:=O
 rcases ha with rfl | rfl<;>rcases h3 with rfl | rfl | rfl<;>simp [Oq]
theorem SV.fold{a b:List Int}(h:SV a b):∀s,a.foldl Oq s=b.foldl Oq s:=by
 induction h with
 | one a=>intro s;rfl
 | step a r t _ ih=>intro s;exact ih (Oq s a)
 | skip a u w r t ha hu hw _ ih=>
  intro s
  show(r.foldl Oq (Oq (Oq (Oq s a) u) (-a)))=(t.foldl Oq (Oq (Oq (Oq s a) w) (-a)))
  rw [Zj4 ha hu,Zj4 ha hw]
  exact ih (Oq s a)
theorem SV.chg{a b:List Int}(h:SV a b):chg a=chg b:=congrArg Prod.fst (h.fold (0,0))
def Ga(x:Rat):Int:=if x<0 then -1 else if x=0 then 0 else 1
theorem Zyl(x:Rat):-1≤Ga x∧Ga x≤1:=by unfold Ga;split;decide;split<;>decide
theorem Dc{x:Rat}(h:0<x):Ga x=1:=by unfold Ga;rw [if_neg O4,if_neg O4]
theorem Dd{x:Rat}(h:x<0):Ga x=-1:=by unfold Ga;rw [if_pos h]
def Big(η x:Rat)(f:Rat→Rat):Prop:=η<f x∨f x < -η
def Tri(η x:Rat):(Rat→Rat)→List (Rat→Rat)→Prop
 | _,[]=>True
 | _,[g]=>Big η x g
 | f,g :: k :: r=>(Big η x g∧Tri η x g (k :: r))∨(Big η x k∧f x*k x<0∧Tri η x k r)
def Near(η x y:Rat)(f:Rat→Rat):Prop:=f x-f y≤η∧f y-f x≤η
theorem Zmi{η x y:Rat}{f:Rat→Rat}(h0:0≤η)(h:Big η x f)(hn:Near η x y f):Ga (f x)=Ga (f y)∧(Ga (f x)=1∨Ga (f x)=-1):=by
 obtain⟨h1,h2⟩:=hn
 rcases h with h | h
 ·rw [Dc O4,Dc O4];exact⟨rfl,.inl rfl⟩
 ·rw [Dd O4,Dd O4];exact⟨rfl,.inr rfl⟩
theorem opp_sg{a b:Rat}(h:a*b<0):Ga b=- Ga a:=by
 rcases(show a<0∨a=0∨0<a by grind)with h1 | h1 | h1
 ·rw [Dd h1,Dc (by
   rcases(show b≤0∨0<b by grind)with h2 | h2
   ·have:=Rat.mul_nonneg (a:=-a) (b:=-b) O4 O4;grind
   ·exact h2)];rfl
 ·subst h1;grind
 ·rw [Dc h1,Dd (by
   rcases(show 0≤b∨b<0 by grind)with h2 | h2
   ·have:=Rat.mul_nonneg (a:=a) (b:=b) O4 h2;grind
   ·exact h2)]
theorem Zke{η x y:Rat}(h0:0≤η):∀(n:Nat) (f:Rat→Rat) (fs:List (Rat→Rat)),fs.length≤n→Big η x f→(∀g∈f :: fs,Near η x y g)→Tri η x f fs→
  SV ((f :: fs).map fun g=>Ga (g x)) ((f :: fs).map fun g=>Ga (g y))
 | _,f,[],_,hb,hn,_=>by
  have:=(Zmi h0 hb (hn f (List.mem_cons_self ..))).1
  simp only [List.map_cons,List.map_nil,this]
  exact SV.one _
 | 0,f,g :: r,hl,_,_,_=>absurd hl O6
 | n+1,f,[g],hl,hb,hn,ht=>by
  have h1:=(Zmi h0 hb (hn f (List.mem_cons_self ..))).1
  have h2:=Zke h0 n g [] O6 ht (fun k hk=>hn k (List.mem_cons_of_mem _ hk)) trivial
  rw [List.map_cons,List.map_cons,h1]
  exact SV.step _ _ _ h2
 | n+1,f,g :: k :: r,hl,hb,hn,ht=>by
  have h1:=Zmi h0 hb (hn f (List.mem_cons_self ..))
  rcases ht with⟨hg,ht⟩ | ⟨hk,ho,ht⟩
  ·have h2:=Zke h0 n g (k :: r) (by simp at hl ⊢;omega) hg (fun k hk=>hn k (List.mem_cons_of_mem _ hk)) ht
   rw [List.map_cons (l:=g :: k :: r),List.map_cons (l:=g :: k :: r),h1.1]
   exact SV.step _ _ _ h2
  ·have h2:=Zke h0 n k r (by simp at hl ⊢;omega) hk (fun j hj=>hn j (List.mem_cons_of_mem _ (List.mem_cons_of_mem _ hj))) ht
   have h3:=(Zmi h0 hk (hn k O6)).1
   have h4:=opp_sg ho
   rw [List.map_cons (l:=r),List.map_cons (l:=r)]at h2
   simp only [List.map_cons]
   rw [←h3]at h2 ⊢
   rw [h4]at h2 ⊢
   rw [←h1.1]
   exact SV.skip _ _ _ _ _ h1.2 (Zyl _) (Zyl _) h2
structure Lnk (η x:Rat) (f g k:Rat→Rat):Prop where
 big:¬Big η x g→Big η x k
 opp:¬Big η x g→f x*k x<0
def Lnks(η x:Rat):(Rat→Rat)→List (Rat→Rat)→Prop
 | _,[]=>True
 | _,[g]=>Big η x g
 | f,g :: k :: r=>Lnk η x f g k∧Lnks η x g (k :: r)
theorem Zhk{η x:Rat} : ∀(n:Nat) (f:Rat→Rat) (fs:List (Rat→Rat)),fs.length≤n→Lnks η x f fs→Tri η x f fs
 | _,f,[],_,_=>trivial
 | 0,f,g :: r,hl,_=>absurd hl O6
 | n+1,f,[g],_,h=>h
 | n+1,f,[g,k],hl,h=>by
  by_cases hg:Big η x g
  ·exact .inl ⟨hg,h.2⟩
  ·exact .inr ⟨h.1.big hg,h.1.opp hg,trivial⟩
 | n+1,f,g :: k :: j :: r,hl,h=>by
  by_cases hg:Big η x g
  ·exact .inl ⟨hg,Zhk n g (k :: j :: r) (by simp at hl ⊢;omega) h.2⟩
  ·exact .inr ⟨h.1.big hg,h.1.opp hg,Zhk n k (j :: r) (by simp at hl ⊢;omega) h.2.2⟩
def Rl3(s t:Rat)(f g k:Rat→Rat):Prop:=∃m n Q:Rat,0<m∧0<n∧0<Q∧∀x,s≤x→x≤t→∃q,-Q≤q∧q≤Q∧m*f x=q*g x-n*k x
def Rl2(s t:Rat)(f g:Rat→Rat):Prop:=∃m Q:Rat,0<m∧0<Q∧∀x,s≤x→x≤t→∃q,-Q≤q∧q≤Q∧m*f x=q*g x
def Rls(s t:Rat):(Rat→Rat)→List (Rat→Rat)→Prop
 | _,[]=>True
 | f,[g]=>Rl2 s t f g
 | f,g :: k :: r=>Rl3 s t f g k∧Rls s t g (k :: r)
theorem Bu{q Q g e:Rat}(h1:-Q≤q)(h2:q≤Q)(h3:-e≤g)(h4:g≤e)(hQ:0≤Q):q*g≤Q*e∧-(Q*e)≤q*g:=by
 have a:=Rat.mul_nonneg (a:=Q-q) (b:=e+g) O4 O4
 have b:=Rat.mul_nonneg (a:=Q+q) (b:=e-g) O4 O4
 have c:=Rat.mul_nonneg (a:=Q-q) (b:=e-g) O4 O4
 have d:=Rat.mul_nonneg (a:=Q+q) (b:=e+g) O4 O4
 constructor<;>grind
theorem Za6{η x:Rat}{g:Rat→Rat}(h:¬Big η x g):-η≤g x∧g x≤η:=by
 unfold Big at h;constructor<;>grind
theorem Zrw{η ε x:Rat}{g:Rat→Rat}(h:η≤ε)(hb:Big ε x g):Big η x g:=by
 unfold Big at *;grind
theorem Kq{ε a b:Rat}(h:0<ε)(ha:0<a)(hb:0<b):∃e:Rat,0<e∧e≤ε∧e*a≤b:=by
 have h1:0<b*a⁻¹:=Rat.mul_pos hb (Rat.inv_pos.2 ha)
 have h2:b*a⁻¹*a=b:=O4
 rcases(show ε≤b*a⁻¹∨b*a⁻¹≤ε by grind)with h3 | h3
 ·exact⟨ε,h,O4,by have:=Rat.mul_le_mul_of_nonneg_right h3 (show 0≤a by grind);grind⟩
 ·exact⟨b*a⁻¹,h1,h3,O4⟩
theorem pair3{s t ε:Rat}{f g k:Rat→Rat}(h:Rl3 s t f g k)(he:0<ε)(hp:∀x,s≤x→x≤t→Big ε x f∨Big ε x g) :
  ∃e,0<e∧(∀x,s≤x→x≤t→Big e x g∨Big e x k)∧∀η,0<η→η≤e→∀x,s≤x→x≤t→Lnk η x f g k:=by
 obtain⟨m,n,Q,hm,hn,hQ,hr⟩:=h
 obtain⟨e,e1,e2,e3⟩:=Kq he (show 0<Q+n by grind) (Rat.mul_pos hm he)
 have key:∀η,0<η→η≤e→∀x,s≤x→x≤t→¬Big η x g→Big η x k∧f x*k x<0:=fun η h1 h2 x hs ht hg=>by
  obtain⟨q,q1,q2,q3⟩:=hr x hs ht
  obtain⟨g1,g2⟩:=Za6 hg
  obtain⟨p1,p2⟩:=Bu q1 q2 g1 g2 O4
  have hf:Big ε x f:=(hp x hs ht).resolve_right fun h=>hg (Zrw O4 h)
  have c1:η*(Q+n)≤m*ε:=by
   have:=Rat.mul_le_mul_of_nonneg_right h2 (show 0≤Q+n by grind);grind
  have c2:0<η*n:=Rat.mul_pos h1 hn
  rcases hf with hf | hf
  ·have d1:m*ε<m*f x:=by have:=Rat.mul_pos hm (show 0<f x-ε by grind);grind
   have d2:n*k x < - (n*η):=O4
   have d3:k x < -η:=by
    rcases(show k x < -η∨-η≤k x by grind)with h9 | h9
    ·exact h9
    ·have:=Rat.mul_nonneg (a:=n) (b:=k x+η) O4 O4;grind
   refine⟨.inr d3,?_⟩
   have:=Rat.mul_pos (a:=f x) (b:=- k x) O4 O4;grind
  ·have d1:m*f x < - (m*ε):=by have:=Rat.mul_pos hm (show 0 < -ε-f x by grind);grind
   have d2:n*η<n*k x:=O4
   have d3:η<k x:=by
    rcases(show η<k x∨k x≤η by grind)with h9 | h9
    ·exact h9
    ·have:=Rat.mul_nonneg (a:=n) (b:=η-k x) O4 O4;grind
   refine⟨.inl d3,?_⟩
   have:=Rat.mul_pos (a:=- f x) (b:=k x) O4 O4;grind
 refine⟨e,e1,fun x hs ht=>?_,fun η h1 h2 x hs ht=>⟨fun hg=>(key η h1 h2 x hs ht hg).1,fun hg=>(key η h1 h2 x hs ht hg).2⟩⟩
 by_cases hg:Big e x g
 ·exact .inl hg
 ·exact .inr (key e e1 O4 x hs ht hg).1
theorem pair2{s t ε:Rat}{f g:Rat→Rat}(h:Rl2 s t f g)(he:0<ε)(hp:∀x,s≤x→x≤t→Big ε x f∨Big ε x g) :
  ∃e,0<e∧∀η,0<η→η≤e→∀x,s≤x→x≤t→Big η x g:=by
 obtain⟨m,Q,hm,hQ,hr⟩:=h
 obtain⟨e,e1,e2,e3⟩:=Kq he hQ (Rat.mul_pos hm he)
 refine⟨e,e1,fun η h1 h2 x hs ht=>?_⟩
 by_cases hg:Big η x g
 ·exact hg
 ·exfalso
  obtain⟨q,q1,q2,q3⟩:=hr x hs ht
  obtain⟨g1,g2⟩:=Za6 hg
  obtain⟨p1,p2⟩:=Bu q1 q2 g1 g2 O4
  have hf:Big ε x f:=(hp x hs ht).resolve_right fun h=>hg (Zrw O4 h)
  have c1:η*Q≤m*ε:=by
   have:=Rat.mul_le_mul_of_nonneg_right h2 (show 0≤Q by grind);grind
  rcases hf with hf | hf
  ·have:=Rat.mul_pos hm (show 0<f x-ε by grind);grind
  ·have:=Rat.mul_pos hm (show 0 < -ε-f x by grind);grind
theorem Zob{s t:Rat} : ∀(n:Nat) (f:Rat→Rat) (fs:List (Rat→Rat)) (ε:Rat),fs.length≤n→Rls s t f fs→0<ε→(∀g r,fs=g :: r→∀x,s≤x→x≤t→Big ε x f∨Big ε x g)→
  ∃e,0<e∧∀η,0<η→η≤e→∀x,s≤x→x≤t→Lnks η x f fs
 | _,f,[],ε,_,_,he,_=>⟨ε,he,fun _ _ _ _ _ _=>trivial⟩
 | 0,f,g :: r,ε,hl,_,_,_=>absurd hl O6
 | n+1,f,[g],ε,_,h,he,hp=>pair2 h he (hp g [] rfl)
 | n+1,f,g :: k :: r,ε,hl,h,he,hp=>by
  obtain⟨e,e1,e2,e3⟩:=pair3 h.1 he (hp g (k :: r) rfl)
  obtain⟨e',e1',e2'⟩:=Zob n g (k :: r) e (by simp at hl ⊢;omega) h.2 e1 (fun k' r' heq=>by
   injection heq with h1 h2;subst h1;exact e2)
  rcases(show e≤e'∨e'≤e by grind)with h9 | h9
  ·exact⟨e,e1,fun η h1 h2 x hs ht=>⟨e3 η h1 h2 x hs ht,e2' η h1 O4 x hs ht⟩⟩
  ·exact⟨e',e1',fun η h1 h2 x hs ht=>⟨e3 η h1 O4 x hs ht,e2' η h1 h2 x hs ht⟩⟩
def Lip(s t L:Rat)(f:Rat→Rat):Prop:=∀x y,s≤x→x≤y→y≤t→f x-f y≤L*(y-x)∧f y-f x≤L*(y-x)
def Aa(fs:List (Rat→Rat))(x:Rat):Int:=chg (fs.map fun g=>Ga (g x))
theorem Ydl{s t L δ:Rat}{f:Rat→Rat}{fs:List (Rat→Rat)}(hL:0<L)(hl:∀g∈f :: fs,Lip s t L g)(hd:0<δ)(hb:∀x,s≤x→x≤t→Big δ x f)(hr:Rls s t f fs) :
  ∃h,0<h∧∀x y,s≤x→x≤y→y≤t→y-x≤h→Aa (f :: fs) x=Aa (f :: fs) y:=by
 obtain⟨e,e1,e2⟩:=Zob fs.length f fs δ (Nat.le_refl _) hr hd (fun g r _ x hs ht=> .inl (hb x hs ht))
 obtain⟨η,n1,n2,n3⟩:=Kq hd (show(0:Rat)<1 by decide) e1
 obtain⟨h,h1,h2,h3⟩:=Kq n1 hL n1
 refine⟨h,h1,fun x y hx hxy hy hh=>SV.chg ?_⟩
 refine Zke O4 fs.length f fs (Nat.le_refl _) (Zrw O4 (hb x hx O4)) (fun g hg=>?_) (Zhk _ _ _ (Nat.le_refl _) (e2 η n1 O4 x hx O4))
 obtain⟨a,b⟩:=hl g hg x y hx hxy hy
 have:=Rat.mul_le_mul_of_nonneg_right hh (show 0≤L by grind)
 exact⟨O4,O4⟩
theorem Zu9{s t L δ:Rat}{f:Rat→Rat}{fs:List (Rat→Rat)}(hL:0<L)(hl:∀g∈f :: fs,Lip s t L g)(hd:0<δ)(hb:∀x,s≤x→x≤t→Big δ x f)(hr:Rls s t f fs)(hst:s≤t) :
  Aa (f :: fs) s=Aa (f :: fs) t:=by
 obtain⟨h,h1,h2⟩:=Ydl hL hl hd hb hr
 have key:∀n:Nat,∀y,s≤y→y≤t→y-s≤(n:Rat)*h→Aa (f :: fs) s=Aa (f :: fs) y:=fun n=>by
  induction n with
  | zero=>
    intro y h3 h4 h5;have:y=s:=by simp at h5;grind
    rw [this]
  | succ n ih=>
   intro y h3 h4 h5
   have h6:((n+1:Nat):Rat)*h=(n:Rat)*h+h:=by push_cast;grind
   rcases(show y-s≤(n:Rat)*h∨(n:Rat)*h<y-s by grind)with h7 | h7
   ·exact ih y h3 h4 h7
   ·have h8:(0:Rat)≤(n:Rat)*h:=Rat.mul_nonneg (by exact_mod_cast Nat.zero_le n) O4
    rcases(show s≤y-h∨y-h<s by grind)with h9 | h9
    ·rw [ih (y-h) h9 O4 O4]
     exact h2 (y-h) y h9 O4 h4 O4
    ·exact h2 s y O4 h3 h4 O4
 have h3:∃n:Nat,t-s≤(n:Rat)*h:=by
  have h4:0<h⁻¹:=Rat.inv_pos.2 h1
  refine⟨((t-s)*h⁻¹).ceil.toNat,?_⟩
  have h5:=@Rat.le_ceil ((t-s)*h⁻¹)
  have h6:((((t-s)*h⁻¹).ceil:Int):Rat)≤((((t-s)*h⁻¹).ceil.toNat:Nat):Rat):=by
   have:((t-s)*h⁻¹).ceil≤((((t-s)*h⁻¹).ceil.toNat:Nat):Int):=Int.self_le_toNat _
   exact_mod_cast this
  have h7:=Rat.mul_le_mul_of_nonneg_right (Rat.le_trans h5 h6) (show 0≤h by grind)
  have h8:(t-s)*h⁻¹*h=t-s:=O4
  grind
 obtain⟨n,hn⟩:=h3
 exact key n t hst O4 hn
def Zb:List Int→Rat→Rat
 | [],_=>0
 | c :: p,x=>(c:Rat)+x*Zb p x
theorem Yfe(s t:Rat):∃K:Rat,0<K∧∀x,s≤x→x≤t→-K≤x∧x≤K:=by
 rcases(show(0≤s∨s<0) by grind)with h | h<;>rcases(show(0≤t∨t<0) by grind)with h' | h'
 ·exact⟨t+1,O4,fun x _ _=>O4⟩
 ·exact⟨1,O4,fun x _ _=>O4⟩
 ·exact⟨t-s+1,O4,fun x _ _=>O4⟩
 ·exact⟨-s+1,O4,fun x _ _=>O4⟩
theorem Znp(s t:Rat):∀p:List Int,∃B:Rat,0<B∧∀x,s≤x→x≤t→-B≤Zb p x∧Zb p x≤B
 | []=>⟨1,O3,fun x _ _=>by unfold Zb;grind⟩
 | c :: p=>by
  obtain⟨B,b1,b2⟩:=Znp s t p
  obtain⟨K,k1,k2⟩:=Yfe s t
  obtain⟨C,c1,c2⟩:=Yfe (c:Rat) (c:Rat)
  have hc:=c2 (c:Rat) O4 O4
  refine⟨C+K*B,by have:=Rat.mul_pos k1 b1;grind,fun x hs ht=>?_⟩
  obtain⟨d1,d2⟩:=b2 x hs ht
  obtain⟨e1,e2⟩:=k2 x hs ht
  obtain⟨f1,f2⟩:=Bu e1 e2 d1 d2 O4
  unfold Zb
  constructor<;>grind
theorem Fq(s t:Rat):∀p:List Int,∃L:Rat,0<L∧Lip s t L (Zb p)
 | []=>⟨1,O3,fun x y _ _ _=>by unfold Zb;constructor<;>grind⟩
 | c :: p=>by
  obtain⟨L,l1,l2⟩:=Fq s t p
  obtain⟨B,b1,b2⟩:=Znp s t p
  obtain⟨K,k1,k2⟩:=Yfe s t
  refine⟨K*L+B,by have:=Rat.mul_pos k1 l1;grind,fun x y hs hxy ht=>?_⟩
  obtain⟨a1,a2⟩:=l2 x y hs hxy ht
  obtain⟨d1,d2⟩:=b2 y O4 ht
  obtain⟨e1,e2⟩:=k2 x hs O4
  obtain⟨f1,f2⟩:=Bu (q:=x) (g:=Zb p x-Zb p y) (e:=L*(y-x)) e1 e2 O4 O4 O4
  have g1:=Rat.mul_nonneg (a:=B-Zb p y) (b:=y-x) O4 O4
  have g2:=Rat.mul_nonneg (a:=B+Zb p y) (b:=y-x) O4 O4
  unfold Zb
  constructor<;>grind
theorem Zg0(x:Rat):∀q:List Int,(∀i,cf q i=0)→Zb q x=0
 | [],_=>rfl
 | c :: q,h=>by
  have h0:c=0:=h 0
  have h1:=Zg0 x q fun i=>h (i+1)
  unfold Zb;rw [h1,h0];grind
theorem Pp(x:Rat):∀p q:List Int,(∀i,cf p i=cf q i)→Zb p x=Zb q x
 | [],q,h=>by rw [Zg0 x q fun i=>(h i).symm.trans (Ya (Nat.zero_le _))];rfl
 | c :: p,[],h=>by rw [Zg0 x (c :: p) fun i=>(h i).trans (Ya (Nat.zero_le _))];rfl
 | c :: p,d :: q,h=>by
  have h0:c=d:=h 0
  have h1:=Pp x p q fun i=>h (i+1)
  unfold Zb;rw [h1,h0]
def Om:List Int→List Int→List Int
 | [],q=>q
 | p,[]=>p
 | a :: p,b :: q=>(a+b) :: Om p q
theorem Zon(p:List Int):Om p []=p:=by cases p<;>rfl
theorem Yo(x:Rat):∀p q:List Int,Zb (Om p q) x=Zb p x+Zb q x
 | [],q=>by unfold Om;show Zb q x=0+Zb q x;grind
 | a :: p,[]=>by rw [Zon];show Zb (a :: p) x=Zb (a :: p) x+0;grind
 | a :: p,b :: q=>by
  have h:=Yo x p q
  unfold Om Zb;rw [h];push_cast;grind
theorem Nj:∀(p q:List Int) (i:Nat),cf (Om p q) i=cf p i+cf q i
 | [],q,i=>by unfold Om;rw [show cf [] i=0 from Ya (Nat.zero_le _)];omega
 | a :: p,[],i=>by rw [Zon,show cf [] i=0 from Ya (Nat.zero_le _)];omega
 | a :: p,b :: q,0=>rfl
 | a :: p,b :: q,i+1=>Nj p q i
theorem Ze(x:Rat)(c:Int):∀p:List Int,Zb (p.map fun a=>c*a) x=(c:Rat)*Zb p x
 | []=>by show(0:Rat)=c*0;grind
 | a :: p=>by
  have h:=Ze x c p
  simp only [List.map_cons];unfold Zb;rw [h];push_cast;grind
theorem Xk(c:Int):∀(p:List Int) (i:Nat),cf (p.map fun a=>c*a) i=c*cf p i
 | [],i=>by simp [cf]
 | a :: p,0=>rfl
 | a :: p,i+1=>Xk c p i
def lmul:List Int→List Int→List Int
 | [],_=>[]
 | c :: p,q=>Om (q.map fun a=>c*a) (0 :: lmul p q)
theorem Zj(x:Rat):∀p q:List Int,Zb (lmul p q) x=Zb p x*Zb q x
 | [],q=>by show(0:Rat)=0*Zb q x;grind
 | c :: p,q=>by
  have h:=Zj x p q
  unfold lmul;rw [Yo,Ze]
  show(c:Rat)*Zb q x+(((0:Int):Rat)+x*Zb (lmul p q) x)=((c:Rat)+x*Zb p x)*Zb q x
  rw [h];grind
theorem Hu:∀(p q:List Int) (i:Nat),cf (lmul p q) i=Zs (fun k=>cf p k*cf q (i-k)) (i+1)
 | [],q,i=>by
  rw [show cf (lmul [] q) i=0 from Ya (Nat.zero_le _)]
  exact(Hf fun k _=>by rw [show cf [] k=0 from Ya (Nat.zero_le _),Int.zero_mul]).symm
 | c :: p,q,0=>by
  unfold lmul;rw [Nj,Xk,Zy,Kh]
  show c*cf q 0+0=0+c*cf q 0
  omega
 | c :: p,q,i+1=>by
  have h:=Hu p q i
  unfold lmul;rw [Nj,Xk,Nk]
  show c*cf q (i+1)+cf (lmul p q) i=c*cf q (i+1)+_
  rw [h]
  congr 1
  refine Yg fun k hk=>?_
  show cf p k*cf q (i-k)=cf p k*cf q (i+1-(k+1))
  rw [show i+1-(k+1)=i-k by omega]
theorem Gw{a c:Int}{x s y z:List Int}(h:∀t,a*cf x t=(ps s*ps y).c t-c*cf z t)(q:Rat):(a:Rat)*Zb x q=Zb s q*Zb y q-(c:Rat)*Zb z q:=by
 have h1:∀t,cf (Om (x.map fun b=>a*b) (z.map fun b=>c*b)) t=cf (lmul s y) t:=fun t=>by
  rw [Nj,Xk,Xk,Hu,h t,PS.mul_c]
  show Zs (fun k=>cf s k*cf y (t-k)) (t+1)-c*cf z t+c*cf z t=_
  omega
 have h2:=Pp q _ _ h1
 rw [Yo,Ze,Ze,Zj]at h2
 grind
theorem Zvr{s t:Rat}{x y:List Int}(hx:Tr x)(hy:Tr y)(h0:y≠[])(hl:y.length≤x.length):Rl3 s t (Zb x) (Zb y) (Zb (Pq x y)):=by
 have l0:=List.length_pos_iff.2 h0
 obtain⟨r1,r2,k,u,hk⟩:=Zc1 hy h0 x.length x hx O
 have hs:=Zea (f:=x.length) hx hy h0 hl O
 have htn:Tr (Zb5 (Cc x.length x y)):=Pw _ _
 obtain⟨m,n,hm,hn,hp⟩:=Zb3 htn
 rw [hs]at hp
 have hK:0<Bj y^k:=Int.pow_pos (Zc5 hy h0)
 obtain⟨B,b1,b2⟩:=Znp s t u
 have hm':(0:Rat)<(m:Rat):=by exact_mod_cast hm
 have hn':(0:Rat)<(n:Rat):=by exact_mod_cast hn
 have hK':(0:Rat)<((Bj y^k:Int):Rat):=by exact_mod_cast hK
 refine⟨(n:Rat)*((Bj y^k:Int):Rat),(m:Rat),(n:Rat)*B,Rat.mul_pos hn' hK',hm',Rat.mul_pos hn' b1,fun q hq1 hq2=>⟨(n:Rat)*Zb u q,?_,?_,?_⟩⟩
 ·have:=Rat.mul_nonneg (a:=(n:Rat)) (b:=Zb u q+B) O4 (by have:=b2 q hq1 hq2;grind);grind
 ·have:=Rat.mul_nonneg (a:=(n:Rat)) (b:=B-Zb u q) O4 (by have:=b2 q hq1 hq2;grind);grind
 ·have e1:=Gw (a:=Bj y^k) (c:=-1) (x:=x) (s:=u) (y:=y) (z:=Cc x.length x y) (fun t=>by rw [hk t];omega) q
  have e2:Zb ((Pq x y).map fun b=>m*b) q=Zb ((Cc x.length x y).map fun b=>(-n)*b) q:=Pp q _ _ fun i=>by
   rw [Xk,Xk,hp i,Gy,Int.mul_neg,Int.neg_mul]
  rw [Ze,Ze]at e2
  push_cast at e1 e2 ⊢
  grind
theorem rl2_of{s t:Rat}{f g:Rat→Rat}(h:Rl3 s t f g (Zb [])):Rl2 s t f g:=by
 obtain⟨m,n,Q,hm,hn,hQ,hr⟩:=h
 refine⟨m,Q,hm,hQ,fun x h1 h2=>?_⟩
 obtain⟨q,q1,q2,q3⟩:=hr x h1 h2
 refine⟨q,q1,q2,?_⟩
 have:Zb [] x=0:=rfl
 rw [this]at q3;grind
theorem Zjj{s t:Rat} : ∀(f:Nat) (a b:List Int),Tr a→Tr b→cok f a b→∃r,Na f a b=a :: r∧Rls s t (Zb a) (r.map Zb)∧(b=[]→r=[])∧(b≠[]→∃r',r=b :: r'):=fun f=>by
 induction f with
 | zero=>
  intro a b ha hb h
  have h0:b=[]:=h
  subst h0
  exact⟨[],rfl,trivial,fun _=>rfl,fun h=>absurd rfl h⟩
 | succ f ih=>
  intro a b ha hb h
  by_cases h0:b=[]
  ·subst h0
   exact⟨[],Ej _ _,trivial,fun _=>rfl,fun h=>absurd rfl h⟩
  ·obtain⟨g,hg,hd,hle,hc,hs⟩:=Zia h h0
   obtain rfl:f=g:=O
   obtain⟨r,h1,h2,h3,h4⟩:=ih b (Pq a b) hb (Ah ha) hc
   have hR:=Zvr (s:=s) (t:=t) ha hb h0 hle
   refine⟨b :: r,by rw [hs,h1],?_,fun h=>absurd h h0,fun _=>⟨r,rfl⟩⟩
   by_cases hz:Pq a b=[]
   ·rw [h3 hz]
    rw [hz]at hR
    exact rl2_of hR
   ·obtain⟨r',rfl⟩:=h4 hz
    exact⟨hR,h2⟩
theorem Zoc{s t L M:Rat}{f:Rat→Rat}(h:L≤M)(hf:Lip s t L f):Lip s t M f:=fun x y h1 h2 h3=>by
 obtain⟨a,b⟩:=hf x y h1 h2 h3
 have:=Rat.mul_le_mul_of_nonneg_right h (show 0≤y-x by grind)
 constructor<;>grind
theorem Zth(s t:Rat):∀ls:List (List Int),∃L:Rat,0<L∧∀g∈ls.map Zb,Lip s t L g
 | []=>⟨1,O3,fun g hg=>by cases hg⟩
 | p :: ls=>by
  obtain⟨L,l1,l2⟩:=Zth s t ls
  obtain⟨M,m1,m2⟩:=Fq s t p
  refine⟨L+M,O4,fun g hg=>?_⟩
  rw [List.map_cons]at hg
  rcases List.mem_cons.1 hg with rfl | hg
  ·exact Zoc O4 m2
  ·exact Zoc O4 (l2 g hg)
theorem Zcz{s t δ:Rat}{f:Nat}{a b:List Int}(ha:Tr a)(hb:Tr b)(hc:cok f a b)(hst:s≤t)(hd:0<δ)(hB:∀x,s≤x→x≤t→Big δ x (Zb a)) :
  Aa ((Na f a b).map Zb) s=Aa ((Na f a b).map Zb) t:=by
 obtain⟨r,h1,h2,_,_⟩:=Zjj (s:=s) (t:=t) f a b ha hb hc
 obtain⟨L,l1,l2⟩:=Zth s t (Na f a b)
 rw [h1]at l2 ⊢
 exact Zu9 l1 l2 hd hB h2 hst
theorem Znm(x:Rat)(l:Int):∀p:List Int,Zb (p ++ [l]) x=Zb p x+(l:Rat)*x^p.length
 | []=>by show(l:Rat)+x*0=0+l*x^0;rw [Rat.pow_zero];grind
 | c :: p=>by
  have h:=Znm x l p
  rw [List.cons_append,List.length_cons,Rat.pow_succ]
  unfold Zb;rw [h];grind
def alt:List Int→List Int
 | []=>[]
 | c :: p=>c :: (alt p).map fun a=>-1*a
theorem Zzc(c:Int)(p:List Int)(X Y:Int)(h:p≠[]):pev (c :: p) X Y=c*Y^p.length+X*pev p X Y:=by
 have hl:=List.length_pos_iff.2 h
 unfold pev
 rw [List.length_cons,Nk,←Ou]
 congr 1
 ·show c*(X^0*Y^(p.length+1-1-0))=_
  rw [Int.pow_zero,Int.one_mul,show p.length+1-1-0=p.length by omega]
 ·refine Yg fun i hi=>?_
  show cf p i*(X^(i+1)*Y^(p.length+1-1-(i+1)))=X*(cf p i*(X^i*Y^(p.length-1-i)))
  rw [show p.length+1-1-(i+1)=p.length-1-i by omega,Int.pow_succ]
  grind
theorem Zs1{X Y:Int}(hY:0<Y):∀p:List Int,((pev p X Y:Int):Rat)=Zb p ((X:Rat)/(Y:Rat))*(Y:Rat)^(p.length-1)
 | []=>by show(0:Rat)=0*_;grind
 | [c]=>by
  have:pev [c] X Y=c:=by unfold pev;show 0+c*(X^0*Y^0)=c;rw [Int.pow_zero,Int.pow_zero];omega
  rw [this];show(c:Rat)=(c+X/Y*0)*(Y:Rat)^0;rw [Rat.pow_zero];grind
 | c :: d :: p=>by
  have h:=Zs1 (X:=X) hY (d :: p)
  rw [Zzc c (d :: p) X Y O6]
  have hy:(Y:Rat)≠0:=by
    have:(0:Rat)<(Y:Rat):=by exact_mod_cast hY
    grind
  push_cast
  rw [h]
  show(c:Rat)*(Y:Rat)^(p.length+1)+X*(Zb (d :: p) (X/Y)*(Y:Rat)^(p.length+1-1))=((c:Rat)+X/Y*Zb (d :: p) (X/Y))*(Y:Rat)^(p.length+1+1-1)
  rw [show p.length+1-1=p.length by omega,show p.length+1+1-1=p.length+1 by omega,Rat.pow_succ]
  generalize Zb (d :: p) (X/Y)=R
  generalize (Y:Rat)^p.length=P
  have:(X:Rat)/Y*Y=X:=O4
  grind
theorem Zx7{z:Int}{r q:Rat}(hq:0<q)(h:(z:Rat)=r*q):z.sign=Ga r:=by
 rcases(show r<0∨r=0∨0<r by grind)with h1 | h1 | h1
 ·rw [Dd h1]
  have:=Rat.mul_pos (a:=-r) (b:=q) O4 hq
  have h2:(z:Rat)<0:=O4
  have h3:z<0:=by exact_mod_cast h2
  exact Int.sign_eq_neg_one_of_neg h3
 ·subst h1
  have h2:(z:Rat)=0:=O4
  have h3:z=0:=by exact_mod_cast h2
  subst h3;rfl
 ·rw [Dc h1]
  have:=Rat.mul_pos h1 hq
  have h2:(0:Rat)<z:=O4
  have h3:0<z:=by exact_mod_cast h2
  exact Int.sign_eq_one_of_pos h3
theorem Zlr{X Y:Int}(hY:0<Y)(p:List Int):fat X Y p=Ga (Zb p ((X:Rat)/(Y:Rat))):=by
 have:(0:Rat)<(Y:Rat):=by exact_mod_cast hY
 exact Zx7 (Rat.pow_pos this) (Zs1 hY p)
theorem Yd3{xs:List Int}{F:Nat}(hx:Tr xs)(h0:xs≠[])(hok:eok F (gA (Yt xs) (Yh (Yt xs))) (gB (Yt xs) (Yh (Yt xs)))):∃g:List Int,∀x,Zb xs x=Zb (sqf F xs) x*Zb g x:=by
 obtain⟨f1,f2,f3,f4,f5,f6⟩:=Po (F:=F) hx h0 hok
 have hk:∃k:Int,∀i,cf xs i=k*cf (Yt xs) i:=by
  unfold Yt Kn
  split
  ·refine⟨-Yy xs,fun i=>?_⟩
   rw [Xq,←Iy xs i];grind
  ·refine⟨Yy xs,fun i=>?_⟩
   rw [←Iy xs i];grind
 obtain⟨k,hk⟩:=hk
 refine⟨(Ok F (Yt xs) (Yh (Yt xs))).map fun a=>k*a,fun x=>?_⟩
 have h1:Zb (Yt xs) x=Zb (sqf F xs) x*Zb (Ok F (Yt xs) (Yh (Yt xs))) x:=by
  have:=Gw (a:=1) (c:=0) (x:=Yt xs) (s:=sqf F xs) (y:=Ok F (Yt xs) (Yh (Yt xs))) (z:=[]) (fun t=>by
   have h2:=Ka (sqf F xs) (Ok F (Yt xs) (Yh (Yt xs))) t
   rw [←f4]at h2
   rw [h2];omega) x
  push_cast at this
  grind
 have h2:Zb xs x=Zb ((Yt xs).map fun a=>k*a) x:=Pp x _ _ fun i=>by rw [Xk];exact hk i
 rw [h2,Ze,Ze,h1];grind
theorem Yc9{ls:List (List Int)}{x:Rat}{f:List Int→Int}(h:∀p∈ls,Ga (Zb p x)=f p):Aa (ls.map Zb) x=chg (ls.map f):=by
 unfold Aa
 rw [List.map_map]
 exact congrArg chg (List.map_congr_left fun p hp=>h p hp)
theorem Yfz{F:Nat}{xs:List Int}{X Y:Int}(hY:0<Y):cnt F xs X Y=Aa ((Ac F xs).map Zb) ((X:Rat)/(Y:Rat)):=
 (Yc9 fun p _=>(Zlr hY p).symm).symm
end Go.Sky

