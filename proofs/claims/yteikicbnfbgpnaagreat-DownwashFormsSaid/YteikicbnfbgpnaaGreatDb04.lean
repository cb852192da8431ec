/- Rules, arithmetic and contracts: part 5. No conditions but those that each theorem names. -/
import Derived.Test.YteikicbnfbgpnaaGreatDb03
import Derived.Scope
set_option linter.all false
namespace Go.Sky
def Psim(a b:List Int):Prop:=∃m n:Int,0<m∧0<n∧∀i,m*cf a i=n*cf b i
theorem Psim.refl(a:List Int):Psim a a:=⟨1,1,O3,O3,fun _=>rfl⟩
theorem Psim.symm{a b:List Int} : Psim a b→Psim b a:=fun⟨m,n,hm,hn,h⟩=>⟨n,m,hn,hm,fun i=>(h i).symm⟩
theorem Psim.trans{a b c:List Int} : Psim a b→Psim b c→Psim a c:=fun⟨m,n,hm,hn,h⟩ ⟨u,v,hu,hv,k⟩=>
 ⟨m*u,n*v,Int.mul_pos hm hu,Int.mul_pos hn hv,fun i=>by have h1:=h i;have h2:=k i;grind⟩
theorem Psim.sim{a b:List Int} : Psim a b→Sim a b:=fun⟨m,n,hm,hn,h⟩=>⟨m,n,O,O,h⟩
theorem Zcx{p:List Int}(h:Tr p):Psim (Zt p) p:=by
 by_cases h0:p=[]
 ·subst h0;exact Psim.refl _
 ·exact⟨Ym p,1,by have:=Oe p;have:=Dx h h0;omega,O3,fun i=>by rw [Int.one_mul,Int.mul_comm];exact Hs p i⟩
theorem Zh7{a b:List Int}(ha:Tr a)(hb:Tr b)(h:Psim a b):Zt a=Zt b:=by
 by_cases h0:a=[]
 ·rw [h.sim.nil hb h0,h0]
 ·have h0':b≠[]:=fun e=>h0 (h.sim.symm.nil ha e)
  obtain⟨m,n,hm,hn,e⟩:=(Zcx ha).trans (h.trans (Zcx hb).symm)
  have hx:=Yv ha
  have hy:=Yv hb
  have hs:Sim (Zt a) (Zt b):=⟨m,n,O,O,e⟩
  have hx0:Zt a≠[]:=fun e=>h0 (List.eq_nil_of_length_eq_zero (by rw [←Zr,e];rfl))
  rcases Zhq hx hy hx0 (Mz ha h0) (Mz hb h0') hs with h1 | h1
  ·exact h1
  ·exfalso
   have h2:=hx.mem hx0
   have h3:=e ((Zt a).length-1)
   have h4:=h1 ((Zt a).length-1)
   rw [h4]at h3 h2
   generalize cf (Zt b) ((Zt a).length-1)=z at h3 h2
   rw [Int.mul_neg]at h3
   have h5:(m+n)*z=0:=by rw [Int.add_mul];omega
   rcases Int.mul_eq_zero.1 h5 with h6 | h6<;>omega
def Ao(y:List Int):Int:=if cf y (y.length-1)<0 then-cf y (y.length-1)else cf y (y.length-1)
def rb(x y:List Int):Int:=if cf y (y.length-1)<0 then-cf x (x.length-1)else cf x (x.length-1)
def Zap(x y:List Int):List Int:=Bb (Zm x (Ao y)) (shm y (rb x y) (x.length-y.length) y.length)
def Bi:Nat→List Int→List Int→List Int
 | 0,x,_=>x
 | f+1,x,y=>if x.length<y.length then x else Bi f (Zap x y) y
theorem Zmu{x y:List Int}(hx:Tr x)(hy:0<y.length)(hl:y.length≤x.length):(Zap x y).length<x.length:=by
 have h:=Aj (p:=Zap x y) (n:=x.length-1) fun i hi=>by
  unfold Zap
  rw [Dd,Yr,Yec]
  by_cases he:i=x.length-1
  ·subst he
   rw [if_pos O,show x.length-1-(x.length-y.length)=y.length-1 by omega]
   unfold Ao rb
   split
   ·grind
   ·grind
  ·rw [Yl (p:=x) O,if_neg O];omega
 rw [show tzl (Zap x y)=Zap x y from Ai (Zdj _ _)]at h
 omega
theorem Yap(x:List Int){y:List Int}(t:Nat):Ao y*cf x t=(ps (mono (x.length-y.length) (rb x y))*ps y).c t+cf (Zap x y) t:=by
 unfold Zap
 rw [Zih,Dd,Yr,Yec,Oj]
 by_cases h1:x.length-y.length≤t
 ·rw [if_pos h1]
  by_cases h2:t<x.length-y.length+y.length
  ·rw [if_pos ⟨h1,h2⟩,Int.mul_comm (cf x t)];omega
  ·rw [if_neg O,Yl (p:=y) O,Int.mul_comm (cf x t)];omega
 ·rw [if_neg h1,if_neg O,Int.mul_comm (cf x t)];omega
theorem Zdy{y:List Int}(hy:Tr y)(h0:y≠[]):0<Ao y:=by
 have:=hy.mem h0
 unfold Ao;split<;>omega
theorem Zdu{y:List Int}(hy:Tr y)(h0:y≠[]):∀(f:Nat) (x:List Int),Tr x→x.length<y.length+f→Tr (Bi f x y)∧(Bi f x y).length<y.length∧∃(k:Nat) (s:List Int),∀t,Ao y^k*cf x t=(ps s*ps y).c t+cf (Bi f x y) t
 | 0,x,hx,hl=>⟨hx,hl,0,[],fun t=>by rw [Lf (fun t=>Yl (Nat.zero_le _)),Int.pow_zero];unfold Bi;omega⟩
 | f+1,x,hx,hl=>by
  unfold Bi
  by_cases h:x.length<y.length
  ·rw [if_pos h]
   exact⟨hx,h,0,[],fun t=>by rw [Lf (fun t=>Yl (Nat.zero_le _)),Int.pow_zero];omega⟩
  ·rw [if_neg h]
   have h1:=Zmu hx (List.length_pos_iff.2 h0) O
   obtain⟨h2,h3,k,s,hs⟩:=Zdu hy h0 f (Zap x y) (Zdj _ _) O
   refine⟨h2,h3,k+1,Bb (Zm s 1) (Zm (mono (x.length-y.length) (rb x y)) (-(Ao y^k))),fun t=>?_⟩
   have h4:=hs t
   have h5:=Yap x (y:=y) t
   rw [Zig,Int.pow_succ]
   generalize Ao y^k=K at *
   generalize Ao y=a at *
   generalize (ps (mono (x.length-y.length) (rb x y))*ps y).c t=M at *
   generalize (ps s*ps y).c t=S at *
   generalize cf (Zap x y) t=X at *
   generalize cf (Bi f (Zap x y) y) t=Z at *
   have:K*a*cf x t=K*(a*cf x t):=O4
   rw [this,h5];grind
theorem Zph(l:Int)(h:l≠0):∀n:Nat,(l<0∧n%2=1→l^n<0)∧(¬(l<0∧n%2=1)→0<l^n)
 | 0=>⟨fun h=>O,fun _=>by rw [Int.pow_zero];decide⟩
 | n+1=>by
  have ih:=Zph l h n
  rw [Int.pow_succ]
  by_cases h1:l<0
  ·by_cases h2:n%2=1
   ·have h3:=ih.1 ⟨h1,h2⟩
    exact⟨fun h=>O,fun _=>Int.mul_pos_of_neg_of_neg h3 h1⟩
   ·have h3:=ih.2 O
    exact⟨fun _=>Int.mul_neg_of_pos_of_neg h3 h1,fun h=>O⟩
  ·have h3:=ih.2 O
   exact⟨fun h=>O,fun _=>Int.mul_pos h3 O⟩
def Zcy(p:List Int):List Int:=Zm p (-1)
theorem Fu(p:List Int)(i:Nat):cf (Zcy p) i=- cf p i:=by unfold Zcy;rw [Yr];omega
theorem Zr8{p:List Int}(h:Tr p):Zt (Zcy p)=Zcy (Zt p):=by
 have hc:Ym (Zcy p)=Ym p:=by
  have d1:Ym (Zcy p)∣Ym p:=Hx fun i=>by
   have h:=Mj (Zcy p) i
   rw [Fu]at h;exact Int.dvd_neg.1 h
  have d2:Ym p∣Ym (Zcy p):=Hx fun i=>by rw [Fu];exact Int.dvd_neg.2 (Mj p i)
  exact Int.dvd_antisymm (Oe _) (Oe _) d1 d2
 refine(Yv (Xq _ _)).ext (Xq _ _) fun i=>?_
 show cf (Zt (Zcy p)) i=cf (Zcy (Zt p)) i
 rw [Fu,Bz,Fu,hc,Bz]
 exact Int.neg_ediv_of_dvd (Mj p i)
theorem Ze9{x y:List Int}{f:Nat}(hx:Tr x)(hy:Tr y)(h0:y≠[])(hl:y.length≤x.length)(hf:x.length<y.length+f):Zt (Zcy (Bi f x y))=Oo x y:=by
 obtain⟨tr,lr,k,s,hs⟩:=Zdu hy h0 f x hx hf
 have ly:=List.length_pos_iff.2 h0
 obtain⟨s2,hs2⟩:=Zfc (p:=x) ly hl _ (Nat.le_refl _)
 have hp:∀t,cf (Qj x y (x.length-y.length+1)) t=cf (Xy x y) t:=fun t=>by
  unfold Xy;rw [if_neg O,Lj]
 have lp:=Pf x h0
 have htp:=Kk (q:=y) hx
 have hlead:=hy.mem h0
 have hK:0<Ao y^k:=Int.pow_pos (Zdy hy h0)
 have hsg:=Zph (cf y (y.length-1)) hlead (x.length-y.length+1)
 generalize hL:cf y (y.length-1)^(x.length-y.length+1)=L at hs2 hsg
 have hL0:L≠0:=by rw [←hL];exact Lg hlead _
 generalize Ao y^k=K at hs hK
 have key:∀t,(ps (Bb (Zm s2 K) (Zm s L))*ps y).c t=cf (Bb (Zm (Bi f x y) L) (Zm (Xy x y) K)) t:=fun t=>by
  rw [Zig,Dd,Yr,Yr,←hp t]
  have h1:=hs t
  have h2:=hs2 t
  generalize cf (Qj x y (x.length-y.length+1)) t=A at *
  grind
 have z:=Yg4 hy h0 key fun t ht=>by
  rw [Dd,Yr,Yr,Yl (p:=Bi f x y) O,Yl (p:=Xy x y) O];omega
 have e:∀t,L*cf (Bi f x y) t=K*cf (Xy x y) t:=fun t=>by
  have h1:=key t
  rw [Lf z,Dd,Yr,Yr]at h1
  grind
 unfold Oo
 by_cases hc:cf y (y.length-1)<0∧(x.length-y.length+1)%2=1
 ·rw [if_pos hc]
  have hn:=hsg.1 hc
  exact Zh7 (Xq _ _) htp ⟨-L,K,O,hK,fun t=>by rw [Fu,←e];grind⟩
 ·rw [if_neg hc]
  have hn:=hsg.2 hc
  rw [show Zm (Zt (Xy x y)) (-1)=Zcy (Zt (Xy x y))from rfl,←Zr8 htp]
  exact Zh7 (Xq _ _) (Xq _ _) ⟨L,K,hn,hK,fun t=>by
   rw [Fu,Fu,Int.mul_neg,e,Int.mul_neg]⟩
theorem Zak{x y:List Int}(hx:Tr x):Tr (Oo x y):=by
 unfold Oo;split
 ·exact Yv (Kk hx)
 ·exact Xq _ _
theorem Av{x y:List Int}(hx:Tr x):(Oo x y).length=(Xy x y).length:=by
 unfold Oo
 have h:Tr (Zt (Xy x y)):=Yv (Kk hx)
 split
 ·exact Zr _
 ·rw [←Zr (Xy x y)]
  exact((Zcr (Zt (Xy x y)) (by decide:(-1:Int)≠0)).len h (Xq _ _)).symm
theorem Zrr{n:Nat}{p:List Int}(h:Sz n p):Sz n (Yy p):=fun i=>by
 unfold Yy;rw [Gt];split
 ·rw [Int.natAbs_neg];exact Gd h i
 ·exact Gd h i
theorem Zic{p:List Int}(h:Tr p)(h0:p≠[]):Yy p≠[]:=fun e=>h0 (List.eq_nil_of_length_eq_zero (by rw [←Qu h,e];rfl))
theorem Dy{g:List Int}(h:Tr g)(h0:g≠[]):0<cf (Ic g) ((Ic g).length-1):=by
 have h1:=h.mem h0
 rw [Aw h,Gt]
 have:g.length≠0:=fun e=>h0 (List.eq_nil_of_length_eq_zero e)
 split<;>omega
theorem Bn{p:List Int}(h:Tr p)(h0:p≠[]):Ym (Yy p)=1:=by unfold Yy;rw [Zf5];exact Mz h h0
theorem Zsh{p:List Int}(h:Tr p)(h1:Ym p=1)(h2:0<cf p (p.length-1)):Yy p=p:=by
 unfold Yy;rw [Zd0 h1];unfold Ic;rw [if_neg O]
theorem Ps{xs:List Int}{F:Nat}(hx:Tr xs)(h0:xs≠[])(hok:eok F (gA (Yy xs) (Yx (Yy xs))) (gB (Yy xs) (Yx (Yy xs)))) :
  pdv (Yy xs) (Ni F (Yy xs) (Yx (Yy xs)))∧Tr (sqf F xs)∧sqf F xs≠[]∧Yy xs=Xs (sqf F xs) (Ni F (Yy xs) (Yx (Yy xs)))∧Ni F (Yy xs) (Yx (Yy xs))≠[]∧Yy (sqf F xs)=sqf F xs:=by
 have hs:Tr (Yy xs):=Oc (Yv hx)
 have hd:Tr (Yx (Yy xs)):=Nn hs
 have hs0:=Zic hx h0
 have hdv:=(Zbq hs hd hok).1
 have htg:=Zdk (F:=F) hs hd
 have hg0:Ni F (Yy xs) (Yx (Yy xs))≠[]:=fun e=>hs0 ((e▸hdv).zero hs)
 have hc:=Zia hs hd hg0
 obtain⟨k,s,hk,h⟩:=hdv
 obtain⟨q,hq⟩:=gauss hc _ k s rfl hk h
 have hqe:Yy xs=Xs (tzl q) (Ni F (Yy xs) (Yx (Yy xs))):=hs.ext (Xo _ _) fun i=>by
  rw [Kq,hq,Ya4]
 obtain⟨p1,p2⟩:=Zmf (Xp q) htg hg0
 have hsq:sqf F xs=tzl q:=by
  unfold sqf
  have p2':=p2
  rw [←hqe]at p2'
  exact p2'
 rw [←hqe]at p1
 have hq0:tzl q≠[]:=fun e=>hs0 (by rw [hqe,e,Hj])
 refine⟨p1,by rw [hsq];exact Xp q,by rw [hsq];exact hq0,by rw [hsq];exact hqe,hg0,?_⟩
 rw [hsq]
 refine Zsh (Xp q) ?_ ?_
 ·have h1:=Bn hx h0
  have h2:Ym (tzl q)∣Ym (Yy xs):=Hx fun i=>by
   rw [hqe,Kq,PS.mul_c]
   have key:∀m,Ym (tzl q)∣Zy (fun k=>(ps (tzl q)).c k*(ps (Ni F (Yy xs) (Yx (Yy xs)))).c (i-k)) m:=fun m=>by
    induction m with
    | zero=>exact Int.dvd_zero _
    | succ m ih=>rw [Yi];exact Int.dvd_add ih (Int.dvd_trans (Mj (tzl q) m) (Int.dvd_mul_right _ _))
   exact key _
  rw [h1]at h2
  have h3:=Oe (tzl q)
  have h4:=Int.le_of_dvd O3 h2
  have h5:Ym (tzl q)≠0:=Dx (Xp q) hq0
  omega
 ·have l1:=List.length_pos_iff.2 hq0
  have l2:=List.length_pos_iff.2 hg0
  have h1:0<cf (Yy xs) ((Yy xs).length-1):=Dy (Yv hx) (fun e=>h0 (List.eq_nil_of_length_eq_zero (by rw [←Zr,e];rfl)))
  have h2:0<cf (Ni F (Yy xs) (Yx (Yy xs))) ((Ni F (Yy xs) (Yx (Yy xs))).length-1):=Dy (Zqh F (Zhh hs hd) (Zhg hs hd)) (fun e=>hg0 (by unfold Ni;rw [e];rfl))
  have h3:=Pu (Xp q) htg hq0 hg0
  rw [←hqe]at h3
  have h4:cf (Yy xs) ((Yy xs).length-1)=cf (tzl q) ((tzl q).length-1)*cf (Ni F (Yy xs) (Yx (Yy xs))) ((Ni F (Yy xs) (Yx (Yy xs))).length-1):=by
   rw [h3,hqe,Kq,←hqe,show(tzl q).length+(Ni F (Yy xs) (Yx (Yy xs))).length-1-1=((tzl q).length-1)+((Ni F (Yy xs) (Yx (Yy xs))).length-1) by omega]
   exact Dz (fun i hi=>Yl O) (fun i hi=>Yl O)
  rw [h4]at h1
  rcases Int.lt_or_le 0 (cf (tzl q) ((tzl q).length-1))with h5 | h5
  ·exact h5
  ·exfalso
   have:=Int.mul_nonpos_of_nonpos_of_nonneg h5 (Int.le_of_lt h2)
   omega
theorem Oz(p:List Int):(Yx p).length=p.length-1:=Yq _ _
theorem Zs5{p:List Int}{n:Nat}(hp:Sz n p)(hl:p.length≤25)(i:Nat):bl (cf p (i+1)*((i:Int)+1)).natAbs≤n+5:=by
 rcases Nat.lt_or_ge (i+1) p.length with h | h
 ·have h1:=Xa (cf p (i+1)) ((i:Int)+1)
  have h2:=hp (i+1)
  have h3:bl ((i:Int)+1).natAbs≤5:=(Xw 5 _).2 O
  omega
 ·rw [Yl h];simp [Lo]
theorem Zes(p:List Int)(i:Nat):cf (Yx p) i=cf p (i+1)*((i:Int)+1):=by
 unfold Yx
 rw [Mh]
 split
 ·rfl
 ·rw [Yl O,Int.zero_mul]
theorem Bf{p:List Int}{n:Nat}(hp:Sz n p)(hl:p.length≤25):Sz (n+5) (Yx p):=fun i=>by rw [Zes];exact Zs5 hp hl i
theorem Zde{p:List Int}(h:Vp p)(hz:∀i,i<p.length→bl (cf p (i+1)*((i:Int)+1)).natAbs≤65536):Vp (Yx p):=by
 refine⟨fun i=>?_,Nn h.tr,by rw [Oz];have:=h.len;omega⟩
 rw [Zes]
 by_cases hi:i<p.length
 ·exact hz i hi
 ·rw [Yl O];simp [Lo]
theorem sf_t{xs:List Int}(h:xs.length=0):Value.bool (decide (Bh xs))= .bool true:=congrArg Value.bool (decide_eq_true (.inl h))
theorem sf_i{xs:List Int}{n:Int}(h:xs.length≠0)(hn:n=(((xs.length+2)*(xs.length+2)*(Qk xs+16):Nat):Int)):Value.bool (decide (Bh xs))= .bool (decide (n≤65536)):=congrArg Value.bool (decide_eq_decide.2 (by
 subst hn
 show(xs.length=0∨(xs.length+2)*(xs.length+2)*(Qk xs+16)≤65536)↔_
 constructor
 ·intro h1;rcases h1 with h1 | h1
  ·exact absurd h1 h
  ·exact Int.ofNat_le.2 h1
 ·intro h1;exact .inr (Int.ofNat_le.1 h1)))
theorem Zxd{x y:List Int}(h:(Xy x y).length=0):Oo x y=[]:=by
 have h1:Xy x y=[]:=List.eq_nil_of_length_eq_zero h
 unfold Oo;rw [h1];split<;>rfl
theorem Yf1{x y:List Int}(hl:y.length≤x.length)(h1:(cf y (y.length-1)).sign<0)(h2:((x.length:Int)-(y.length:Int)+1)%2=1):Oo x y=Zt (Xy x y):=by
 unfold Oo;rw [if_pos ⟨(Pg _).1 h1,O⟩]
theorem Zt9{x y:List Int}(h1:¬(cf y (y.length-1)).sign<0):Oo x y=Zm (Zt (Xy x y)) (-1):=by
 unfold Oo;rw [if_neg (fun h=>h1 ((Pg _).2 h.1))]
theorem Zt8{x y:List Int}(hl:y.length≤x.length)(h2:¬((x.length:Int)-(y.length:Int)+1)%2=1):Oo x y=Zm (Zt (Xy x y)) (-1):=by
 unfold Oo;rw [if_neg (fun h=>h2 O)]
theorem Zrn{xs:List Int}{F:Nat}(hv:Vp xs)(h0:xs≠[])(h:Yf0 F xs):Vp (sqf F xs):=by
 obtain⟨_,_,_,h4,h5⟩:=h
 have hn:=Zza hv
 unfold sqf Lr
 split
 ·exact⟨Sz.nil _,Tr.nil,O7⟩
 ·rename_i h6
  rcases h5 with h5 | h5
  ·exact absurd h5 h6
  ·have h7:=(Zb2 h4).2 h5.1
   refine⟨?_,Xp _,?_⟩
   ·rw [←Zel];exact(Zt6 h7 h5.2.1 _).tzl
   ·have h8:=Ko (Zfm (Yy xs) (Ni F (Yy xs) (Yx (Yy xs))) ((Yy xs).length-(Ni F (Yy xs) (Yx (Yy xs))).length+1))
    rw [Zel,Zax]at h8
    have:=hn.len
    have:=(Zb2 h4).1
    omega
theorem Zio{xs:List Int}{F:Nat}(hv:Vp xs)(h:Yf0 F xs):(sqf F xs).length≤xs.length:=by
 obtain⟨_,_,_,h4,h5⟩:=h
 have hl:=Qu hv.tr
 unfold sqf Lr
 split
 ·exact Nat.zero_le _
 ·rename_i h6
  rcases h5 with h5 | h5
  ·exact absurd h5 h6
  ·have h8:=Ko (Zfm (Yy xs) (Ni F (Yy xs) (Yx (Yy xs))) ((Yy xs).length-(Ni F (Yy xs) (Yx (Yy xs))).length+1))
   rw [Zel,Zax]at h8
   have:=(Zb2 h4).1
   have:=h5.1
   omega
theorem Zwj{L:List Int}{i:Nat}{n l s:Int}(hi:i<L.length)(h:(n,l)=(L.take i).foldl Nm (0,0))(hs:L.getD i 0=s)(h0:s=0):(n,l)=(L.take (i+1)).foldl Nm (0,0):=by
 rw [Po 0 L i hi,Zc4,←h,hs];unfold Nm;rw [if_pos h0]
theorem Zwi{L:List Int}{i:Nat}{n l s:Int}(hi:i<L.length)(h:(n,l)=(L.take i).foldl Nm (0,0))(hs:L.getD i 0=s)(h0:s≠0)(h1:s=-l):(n+1,s)=(L.take (i+1)).foldl Nm (0,0):=by
 rw [Po 0 L i hi,Zc4,←h,hs];unfold Nm;rw [if_neg h0];dsimp only;rw [if_pos h1]
theorem Zwh{L:List Int}{i:Nat}{n l s:Int}(hi:i<L.length)(h:(n,l)=(L.take i).foldl Nm (0,0))(hs:L.getD i 0=s)(h0:s≠0)(h1:¬s=-l):(n,s)=(L.take (i+1)).foldl Nm (0,0):=by
 rw [Po 0 L i hi,Zc4,←h,hs];unfold Nm;rw [if_neg h0];dsimp only;rw [if_neg h1]
theorem Yip{L:List Int}{i:Nat}{n l:Int}(hi:L.length≤i)(h:(n,l)=(L.take i).foldl Nm (0,0)):n=chg L:=by
 rw [List.take_of_length_le hi]at h
 unfold chg;rw [←h]
theorem Yac(z:Int):-1≤z.sign∧z.sign≤1:=by
 rcases Int.lt_trichotomy z 0 with h | h | h
 ·rw [Int.sign_eq_neg_one_of_neg h];omega
 ·subst h;simp
 ·rw [Int.sign_eq_one_of_pos h];omega
theorem Yb4{α:Type}(d:α)(f:α→Int)(ls:List α){i:Nat}(h:i<ls.length):(ls.map f).getD i 0=f (ls.getD i d):=by
 simp [List.getD_eq_getElem?_getD,h]
def sgx(ls:List (SL×List Int))(f:List Int→Int):List Int:=ls.map fun z=>f z.2
theorem Zov(ls:List (SL×List Int))(f:List Int→Int){i:Nat}(h:i<ls.length):(sgx ls f).getD i 0=f (ls.getD i ((none,0,0),[])).2:=Yb4 _ _ _ h
theorem Zip(ls:List (SL×List Int))(f:List Int→Int):(sgx ls f).length=ls.length:=List.length_map ..
def fr(p:List Int):Int:=(cf p (p.length-1)).sign
def fl(p:List Int):Int:=if p.length%2=0 then-(cf p (p.length-1)).sign else(cf p (p.length-1)).sign
def fat(x y:Int)(p:List Int):Int:=(pev p x y).sign
theorem fat_r(x y:Int)(p:List Int):-1≤fat x y p∧fat x y p≤1:=Yac _
theorem Zka:∀(f:Nat) {x y:List Int},Vp x→Vp y→cok f x y→∀p∈Nu f x y,Vp p
 | 0,x,y,hx,_,_,p,hp=>by rw [List.mem_singleton.1 hp];exact hx
 | f+1,x,y,hx,hy,h,p,hp=>by
  unfold Nu at hp
  split at hp
  ·rw [List.mem_singleton.1 hp];exact hx
  ·rcases h with h | h
   ·contradiction
   ·rcases List.mem_cons.1 hp with rfl | hp
    ·exact hx
    ·exact Zka f hy (Zoe hx h.1) h.2.2 p hp
theorem vp_chn{xs:List Int}{F:Nat}(hv:Vp xs)(h0:xs≠[])(hC:Cd F xs):∀p∈chn F xs,Vp p:=by
 obtain⟨h1,h2,h3⟩:=hC
 have hq:=Zrn hv h0 h1
 exact Zka F hq (Kj (Zde hq (fun i hi=>h2 i (by have:=Zio hv h1;omega)))) h3
def cnt(F:Nat)(xs:List Int)(x y:Int):Int:=chg ((chn F xs).map (fat x y))
def sright(F:Nat)(xs:List Int):Int:=chg ((chn F xs).map fr)
def sleft(F:Nat)(xs:List Int):Int:=chg ((chn F xs).map fl)
theorem Zub{ls:List (SL×List Int)}{C:List (List Int)}(h:ls.map Prod.snd=C)(f:List Int→Int):sgx ls f=C.map f:=by
 rw [←h,List.map_map];rfl
theorem Mb{ls:List (SL×List Int)}{C:List (List Int)}{p:List Int→Prop}(h:ls.map Prod.snd=C)(hp:∀q∈C,p q):∀z∈ls,p z.2:=fun z hz=>hp _ (h▸List.mem_map_of_mem hz)
theorem Zfo(L:List Int):0≤chg L∧chg L≤L.length:=by
 unfold chg
 suffices h:∀(l:List Int) (s:Int×Int),s.1≤(l.foldl Nm s).1∧(l.foldl Nm s).1≤s.1+l.length by
  have:=h L (0,0);simpa using this
 intro l
 induction l with
 | nil=>intro s;simp
 | cons x l ih=>
  intro s
  have h1:=ih (Nm s x)
  have h2:=chg1_n s x
  simp only [List.foldl_cons,List.length_cons]
  omega
theorem Zci:∀(f:Nat) (x y:List Int),(Nu f x y).length≤f+1
 | 0,x,y=>Nat.le_refl _
 | f+1,x,y=>by
  unfold Nu;split
  ·simp
  ·have:=Zci f y (Oo x y);simp;omega
def sm(xs:List Int)(i:Nat):Nat:=(xs.take i).foldl (fun m c=>max m c.natAbs) 0
theorem Zc0{x y:Int}(h:¬Lq x y):Eg x y=x/Mn x y∧Ff x y=y/Mn x y∧Yaw x y=0:=⟨if_neg h,if_neg h,if_neg h⟩
theorem nr_bl{x y:Int}(h:¬Lq x y):bl (Eg x y).natAbs≤65536∧bl (Ff x y).natAbs≤65536:=by
 obtain⟨h1,h2,_⟩:=Zc0 h
 rw [h1,h2]
 unfold Lq at h
 omega
theorem Zsi{x y:Int}(h:¬Lq x y)(hy:0<y):0<Ff x y:=by
 rw [(Zc0 h).2.1];exact Zx6 hy
abbrev R2:=Int×Int
def Qx(a b:R2):R2:=(Eg (Eg (a.1*b.2+b.1*a.2) (a.2*b.2)*1) (Ff (a.1*b.2+b.1*a.2) (a.2*b.2)*2),Ff (Eg (a.1*b.2+b.1*a.2) (a.2*b.2)*1) (Ff (a.1*b.2+b.1*a.2) (a.2*b.2)*2))
def Zch(a b:R2):Prop:=¬Lq (a.1*b.2+b.1*a.2) (a.2*b.2)∧¬Lq (Eg (a.1*b.2+b.1*a.2) (a.2*b.2)*1) (Ff (a.1*b.2+b.1*a.2) (a.2*b.2)*2)
instance (a b:R2):Decidable (Zch a b):=by unfold Zch;infer_instance
theorem Zx3{a b:R2}(h:Zch a b):Yaw (Eg (a.1*b.2+b.1*a.2) (a.2*b.2)*1) (Ff (a.1*b.2+b.1*a.2) (a.2*b.2)*2)=0:=(Zc0 h.2).2.2
def isp(cv:R2→Int)(hv:Int):Nat→R2→R2→Int→Int→Nat→List (R2×R2)
 | 0,_,_,_,_,_=>[]
 | f+1,a,b,fr,to,d=>if fr=to then []else if fr-to=1∧hv≤(d:Int)then [(a,b)]else isp cv hv f a (Qx a b) fr (cv (Qx a b)) (d+1) ++ isp cv hv f (Qx a b) b (cv (Qx a b)) to (d+1)
def Zvh(cv:R2→Int)(ok:R2→Prop)(hv:Int):Nat→R2→R2→Int→Int→Nat→Prop
 | 0,_,_,_,_,_=>False
 | f+1,a,b,fr,to,d=>fr=to∨(fr-to=1∧hv≤(d:Int))∨(d<1000∧Zch a b∧ok (Qx a b)∧Zvh cv ok hv f a (Qx a b) fr (cv (Qx a b)) (d+1)∧Zvh cv ok hv f (Qx a b) b (cv (Qx a b)) to (d+1))
instance ispDec (cv:R2→Int) (ok:R2→Prop) [DecidablePred ok] (hv:Int):∀f a b fr to d,Decidable (Zvh cv ok hv f a b fr to d)
 | 0,_,_,_,_,_=>inferInstanceAs (Decidable False)
 | f+1,a,b,fr,to,d=>@instDecidableOr _ _ _ (@instDecidableOr _ _ _ (@instDecidableAnd _ _ _ (@instDecidableAnd _ _ _ (@instDecidableAnd _ _ _ (@instDecidableAnd _ _ (ispDec cv ok hv f a (Qx a b) fr (cv (Qx a b)) (d+1)) (ispDec cv ok hv f (Qx a b) b (cv (Qx a b)) to (d+1)))))))
def okQ(z:R2):Prop:=bl z.1.natAbs≤65536∧bl z.2.natAbs≤65536∧0<z.2
def evok(ls:List (SL×List Int))(m:R2):Prop:=∀z∈ls,¬Lh z.2 m.1 m.2
def cvx(ls:List (SL×List Int))(m:R2):Int:=chg (sgx ls (fat m.1 m.2))
def cvc(F:Nat)(xs:List Int)(m:R2):Int:=cnt F xs m.1 m.2
def evc(F:Nat)(xs:List Int)(m:R2):Prop:=∀p∈chn F xs,¬Lh p m.1 m.2
def slow(a:R2):R2:=(Eg a.1 a.2,Ff a.1 a.2)
def sisol(F:Nat)(xs:List Int)(f:Nat)(a b:R2)(hq:Int):List (R2×R2):=isp (cvc F xs) hq f (slow a) (slow b) (cvc F xs a) (cvc F xs b) 0
def isOK(F:Nat)(xs:List Int)(f:Nat)(a b:R2)(hq:Int):Prop:=Cd F xs∧evc F xs a∧evc F xs b∧¬Lq a.1 a.2∧¬Lq b.1 b.2∧Zvh (cvc F xs) (evc F xs) hq f (slow a) (slow b) (cvc F xs a) (cvc F xs b) 0∧(sisol F xs f a b hq).length≤1000000
open Go.RowKit (Below)
variable {P:Program} {N:Nat} {sc:Nat→Prop} {env env':Qw} {H H':Hp} {Q Q':Exit→Act→World→Prop} {M:Nat→Prop}
def CalM(P:Program)(f:FuncId)(args:Array Value)(pre:List Pc){G:Type}(φ:G→Prop)(Ye:G→Value)(it its:G→Pc):Prop:=
 ∀w,(∀p∈pre,p.holds w)→Calls P f args w fun e w'=>∃g,e= .returned (Ye g)∧φ g∧Below w.heap.size w w'∧(it g).holds w'∧(∀b,(it g).fp b→w.heap.size≤b)∧
  (its g).holds w'∧(its g).own=false∧(∀b,(its g).fp b→w.heap.size≤b∨∃q∈pre,q.fp b)∧∀b,(it g).fp b→(its g).fp b→False
def FPostM(P:Program)(fn:Func)(w0:World)(pre:List Pc){G:Type}(φ:G→Prop)(Ye:G→Value)(it its:G→Pc):Exit→Act→World→Prop:=
 bodyPost P fn fun e w'=>∃g,e= .returned (Ye g)∧φ g∧Below w0.heap.size w0 w'∧(it g).holds w'∧(∀b,(it g).fp b→w0.heap.size≤b)∧
  (its g).holds w'∧(its g).own=false∧(∀b,(its g).fp b→w0.heap.size≤b∨∃q∈pre,q.fp b)∧∀b,(it g).fp b→(its g).fp b→False
theorem Zhx{β:Type}{q:β→Pc}{zs ys:List β}(i j n:Nat)(hi:lk H i=some (Ia q zs))(hj:lk H j=some (Ia q ys))(hi0:Nat.beq i 0=false)(hj0:Nat.beq j 0=false) :
  ∀a w,Sat N sc env H a w→Sat N sc env ((n,Ia q (zs ++ ys)) :: H) a w:=
 Zrz i j n hi hj hi0 hj0 rfl rfl (fun w h1 h2 y hy=>by
  rcases List.mem_append.1 hy with h | h
  ·exact h1 y h
  ·exact h2 y h) (fun b hb=>by
  obtain⟨y,hy,hb⟩:=hb
  rcases List.mem_append.1 hy with h | h
  ·exact .inl ⟨y,h,hb⟩
  ·exact .inr ⟨y,h,hb⟩) rfl
abbrev qD (z:SL×Nat):Pc:=Iu (Xb z.1) z.2
abbrev JE:=(R2×R2)×(SL×SL×SL×SL)
abbrev encJ (y:JE):Value:= .agg #[.bool (decide (y.1.1.1<0)),Xb y.2.1,.bool (decide (y.1.1.2<0)),Xb y.2.2.1,.bool (decide (y.1.2.1<0)),Xb y.2.2.2.1,.bool (decide (y.1.2.2<0)),Xb y.2.2.2.2]
abbrev qJ (y:JE):Pc:=Ia qD [(y.2.1,y.1.1.1.natAbs),(y.2.2.1,y.1.1.2.natAbs),(y.2.2.2.1,y.1.2.1.natAbs),(y.2.2.2.2,y.1.2.2.natAbs)]
abbrev J0:JE:=(((0,0),(0,0)),((none,0,0),(none,0,0),(none,0,0),(none,0,0)))
end Go.Sky
namespace Go.Sky
variable {P:Program} {N:Nat} {sc:Nat→Prop} {env env':Qw} {H H':Hp} {Q Q':Exit→Act→World→Prop}
theorem Zo0(w:World)(g:Nat)(cs:Array Value)(t:TypeId)(fr:Nat×Nat)(hg:w.heap[g]? = some (.cells cs t fr)):w.setRow g cs=w:=by
 obtain⟨hlt,hv⟩:=Array.getElem?_eq_some_iff.1 hg
 have h:(w.setRow g cs).heap=w.heap:=by
  apply Array.ext_getElem?
  intro i
  by_cases h:g=i
  ·subst h;rw [setRow_heap w g cs cs t fr hg,hg]
  ·unfold World.setRow
   dsimp only
   rw [Array.getElem?_modify,if_neg h]
 have e:w.setRow g cs={ w with heap:=(w.setRow g cs).heap }:=rfl
 rw [e,h]
theorem Zkg {M:Nat→Prop} {o:Oper} {x y:Operand} {t tb:TypeId} {i b j k:Nat} {cs:Array Value} {v:Value} {vs:List Value} (ho:o.op= .store t x y) (hd:o.dst=none)
  (hx:ev env x=some (.pointer (some ⟨b,j,none⟩))) (hy:ev env y=some v) (hH:lk H i=some (Hg b tb cs)) (hv:v.cells=vs.toArray) (hk:∀w,(sizeOf t).run P w= .ok k w) (hlen:vs.length=k)
  (hfit:Nat.ble (j+vs.length) cs.size=true) (h1:∀u∈vs,u.oneCell'=true) (hset:Hu cs j vs=cs) :
  T P N sc M o env H (G:=Unit) (fun _=>True) (fun _=>env) (fun _=>H):=fun a w hs K Q hK=>by
 have hb:w.heap[b]? = some (.cells cs tb (0,0)):=hs.hold i _ hH
 have hst:=run_storeCells_at P b j tb vs 0 cs w hb (by simpa using Nat.le_of_ble_eq_true hfit) h1
 simp only [Nat.add_zero]at hst
 have hr:(execOp a.eval o).run P w= .ok .skip (w.setRow b (Hu cs j vs)):=by
  simp [execOp,ho,hs.ev hx,hs.ev hy,Instr.storeAt,Instr.sureAddr,storeVar,hv,hk,hlen,hst,Hu]
 rw [hset,Zo0 w b cs tb _ hb]at hr
 unfold Oper.wp
 rw [hr]
 show K (a.put o.dst _) _
 rw [hd]
 exact hK () _ _ trivial (hs.put_none undef) (Chg.refl _ _)
theorem t_stp1 {M:Nat→Prop} {o:Oper} {x y:Operand} {t tb:TypeId} {i b j:Nat} {cs:Array Value} {v:Value} {w0:World} {M0:Nat→Prop} (ho:o.op= .store t x y) (hd:o.dst=none)
  (hx:ev env x=some (.pointer (some ⟨b,j,none⟩))) (hy:ev env y=some v) (hH:lk H i=some (box b tb cs)) (hi0:i≠0) (hk:∀w,(sizeOf t).run P w= .ok 1 w) (hfit:Nat.ble (j+1) cs.size=true) (h1:One N sc env H v)
  (h0:lk H 0=some (Xm w0 M0)) (hw:∀b,w0.heap.size≤b→sc b) (hM:M b) :
  T P N sc M o env H (G:=Unit) (fun _=>True) (fun _=>env) (fun _=>(i,box b tb (Hu cs j [v])) :: H):=fun a w hs=>
 t_stp (cs':=#[]) (vs:=[v]) ho hd hx hy hH hi0 (Zu (h1 a w hs)) hk rfl hfit ⟨h1,trivial⟩ h0 hw hM a w hs
theorem Ya6{v:Value}{zs:List (SL×List Int)}{al:Bool}{r:List Pc}{z:SL×List Int}(i:Nat)(hi:lk H i=some (Pz 1 Li (fun y:SL×List Int=>Yh 2 wv (Xb y.1) y.2) v zs))(hi0:Nat.beq i 0=false)(hz:z∈zs)(h:PreOk H al r):PreOk H al (Yh 2 wv (Xb z.1) z.2 :: r):=Zpf (q:=fun y:SL×List Int=>Yh 2 wv (Xb y.1) y.2) (z:=z) i hi hi0 hz h
end Go.Sky
namespace Go.Sky
variable {P:Program} {N:Nat} {sc:Nat→Prop} {env env':Qw} {H H':Hp} {Q Q':Exit→Act→World→Prop}
def Cb(l:List Int):Array Value:=(l.map (Value.int .i64)).toArray
theorem Zw4(l:List Int):(Cb l).size=l.length:=by simp [Cb]
theorem Zy9{l:List Int}{j:Nat}(h:j<l.length):(Cb l)[j]? = some (.int .i64 (l.getD j 0)):=by
 simp [Cb,List.getElem?_eq_getElem h,List.getD_eq_getElem?_getD]
theorem Zy8{l:List Int}{j:Nat}{v:Int}(h:j<l.length):Hu (Cb l) j [.int .i64 v]=Cb (l.set j v):=by
 unfold Hu Cb
 congr 1
 rw [List.set_eq_take_append_cons_drop,if_pos h,List.map_append,List.map_cons,List.map_take,List.map_drop]
 simp
theorem Iy {o:Oper} {x y:Operand} {t e:TypeId} {b off i k len:Nat} {kd:IntKind} {m:Int} (ho:o.op= .indexAddr t x y) (hx:ev env x=some (.pointer (some ⟨b,off,none⟩))) (hy:ev env y=some (.int kd m))
  (ht:P.underlying t=some (.array len e)) (hk:∀w,(sizeOf e).run P w= .ok k w) (him:m=(i:Int):=by omega) (hlt:i<len:=by omega):Nt P N sc o env H (.pointer (some ⟨b,off+i*k,none⟩)):=fun a w hs=>by
 subst him
 simp [execOp,ho,hs.ev hx,hs.ev hy,Instr.indexAt,Instr.sureAddr,asIntOf,run_underlying ht,hk,hlt,Pq]
theorem Zyp{o:Oper}{x:Operand}{t tb:TypeId}{i b j:Nat}{l:List Int}(ho:o.op= .load t x)(hx:ev env x=some (.pointer (some ⟨b,j,none⟩)))(hH:lk H i=some (box b tb (Cb l)))(ht:∀w,(isAgg t).run P w= .ok false w)(hj:j<l.length:=by omega) :
  Nt P N sc o env H (.int .i64 (l.getD j 0)):=Zyq ho hx hH ht (Zy9 hj)
theorem d_lwa{o:Oper}{x:Operand}{t tb:TypeId}{i b k:Nat}{l:List Int}(ho:o.op= .load t x)(hx:ev env x=some (.pointer (some ⟨b,0,none⟩)))(hH:lk H i=some (box b tb (Cb l)))(ht:∀w,(isAgg t).run P w= .ok true w)(hk:∀w,(sizeOf t).run P w= .ok k w)(hl:l.length=k) :
  Nt P N sc o env H (.agg (Cb l)):=
 Zv3 (vs:=l.map (Value.int .i64)) ho hx hH ht hk (by simpa using hl) (fun n u hu=>by rw [Nat.zero_add];simpa [Cb]using hu)
theorem Zrq {M:Nat→Prop} {o:Oper} {x y:Operand} {t tb:TypeId} {i b j:Nat} {l:List Int} {v:Int} {w0:World} {M0:Nat→Prop} (ho:o.op= .store t x y) (hd:o.dst=none)
  (hx:ev env x=some (.pointer (some ⟨b,j,none⟩))) (hy:ev env y=some (.int .i64 v)) (hH:lk H i=some (box b tb (Cb l))) (hk:∀w,(sizeOf t).run P w= .ok 1 w) 
  (h0:lk H 0=some (Xm w0 M0)) (hw:∀b,w0.heap.size≤b→sc b) (hM:M b) (hi0:i≠0:=by decide) (hj:j<l.length:=by omega) :
  T P N sc M o env H (G:=Unit) (fun _=>True) (fun _=>env) (fun _=>(i,box b tb (Cb (l.set j v))) :: H):=by
 rw [←Zy8 hj]
 exact Zhl (vs:=[.int .i64 v]) ho hd hx hy hH hi0 rfl hk rfl (by rw [Zw4];exact hj) (fun u hu=>Yo (by rw [List.mem_singleton.1 hu];rfl)) rfl h0 hw hM
theorem Zzg {M:Nat→Prop} {o:Oper} {x y:Operand} {t tb:TypeId} {i b k:Nat} {cs:Array Value} {l:List Int} {w0:World} {M0:Nat→Prop} (ho:o.op= .store t x y) (hd:o.dst=none)
  (hx:ev env x=some (.pointer (some ⟨b,0,none⟩))) (hy:ev env y=some (.agg (Cb l))) (hH:lk H i=some (box b tb cs)) (hk:∀w,(sizeOf t).run P w= .ok k w) (hl:l.length=k) (hc:cs.size=k)
  (h0:lk H 0=some (Xm w0 M0)) (hw:∀b,w0.heap.size≤b→sc b) (hM:M b) (hi0:i≠0:=by decide) :
  T P N sc M o env H (G:=Unit) (fun _=>True) (fun _=>env) (fun _=>(i,box b tb (Cb l)) :: H):=
 Zhl (vs:=l.map (Value.int .i64)) ho hd hx hy hH hi0 rfl hk (by simpa using hl) O8 (fun u hu=>Yo (by obtain⟨z,_,rfl⟩:=List.mem_map.1 hu;rfl)) (by
  unfold Hu Cb
  rw [List.take_zero,List.nil_append,Nat.zero_add,List.drop_eq_nil_of_le O8,List.append_nil]) h0 hw hM
def Pk:Nat→Nat→Nat
 | _,0=>1
 | 0,_+1=>0
 | n+1,k+1=>Pk n k+Pk n (k+1)
theorem Zte:∀n k,Pk n k≤2^n
 | 0,0=>O3
 | _+1,0=>Nat.two_pow_pos _
 | 0,_+1=>Nat.zero_le _
 | n+1,k+1=>by
  have h1:=Zte n k
  have h2:=Zte n (k+1)
  show Pk n k+Pk n (k+1)≤2^(n+1)
  rw [Nat.pow_succ];omega
theorem Zje:∀n k,n<k→Pk n k=0
 | _,0,h=>absurd h (Nat.not_lt_zero _)
 | 0,_+1,_=>rfl
 | n+1,k+1,h=>by
  show Pk n k+Pk n (k+1)=0
  rw [Zje n k O,Zje n (k+1) O]
structure Tab (l:List Int) (n k:Nat):Prop where
 len:l.length=625
 eq:∀r c,r<25→c<25→l.getD (r*25+c) 0=if r<n∨(r=n∧c<k)then(Pk r c:Int)else 0
theorem Zfj{l:List Int}{i j:Nat}{v:Int}(hi:i<l.length:=by omega):(l.set i v).getD j 0=if j=i then v else l.getD j 0:=by
 rw [List.getD_eq_getElem?_getD,List.getD_eq_getElem?_getD,List.getElem?_set]
 by_cases h:i=j
 ·subst h;rw [if_pos rfl,if_pos hi,if_pos rfl];rfl
 ·rw [if_neg h,if_neg (fun e=>h e.symm)]
theorem Tab.start:Tab (List.replicate 625 0) 0 0:=⟨List.length_replicate,fun r c hr hc=>by
 rw [if_neg O,List.getD_eq_getElem?_getD]
 rw [List.getElem?_replicate]
 split<;>rfl⟩
theorem Tab.step{l:List Int}{n k:Nat}{v:Int}(h:Tab l n k)(hn:n<25)(hk:k<25)(hv:v=(Pk n k:Int)){j:Nat}(hj:j=n*25+k):Tab (l.set j v) n (k+1):=by
 subst hj
 have hl:=h.len
 refine⟨by rw [List.length_set];exact hl,fun r c hr hc=>?_⟩
 rw [Zfj,h.eq r c hr hc]
 by_cases e:r*25+c=n*25+k
 ·have e1:r=n:=O
  have e2:c=k:=O
  subst e1;subst e2
  rw [if_pos rfl,if_pos O];exact hv
 ·rw [if_neg e]
  have:¬(r=n∧c=k):=fun⟨e1,e2⟩=>e (by rw [e1,e2])
  by_cases g:r<n∨(r=n∧c<k)
  ·rw [if_pos g,if_pos O]
  ·rw [if_neg g,if_neg O]
theorem Tab.row{l:List Int}{n k:Nat}(h:Tab l n k)(hk:n<k):Tab l (n+1) 0:=⟨h.len,fun r c hr hc=>by
 rw [h.eq r c hr hc]
 by_cases g:r<n∨(r=n∧c<k)
 ·rw [if_pos g,if_pos O]
 ·rw [if_neg g]
  by_cases g2:r<n+1∨(r=n+1∧c<0)
  ·rw [if_pos g2,Zje r c O];rfl
  ·rw [if_neg g2]⟩
theorem Tab.get{l:List Int}{n k r c:Nat}(h:Tab l n k)(hr:r<25)(hc:c<25)(hlt:r<n∨(r=n∧c<k)){j:Nat}(hj:j=r*25+c):l.getD j 0=(Pk r c:Int):=by
 rw [hj,h.eq r c hr hc,if_pos hlt]
theorem Zwg{n k:Nat}(hn:1≤n:=by omega)(hk:1≤k:=by omega):Pk n k=Pk (n-1) (k-1)+Pk (n-1) k:=by
 obtain⟨m,rfl⟩:∃m,n=m+1:=⟨n-1,O⟩
 obtain⟨j,rfl⟩:∃j,k=j+1:=⟨k-1,O⟩
 rfl
end Go.Sky
namespace Go.Sky
structure Tb (l:List Int) (n k:Nat):Prop where
 len:l.length=36
 eq:∀r c,r<6→c<6→l.getD (r*6+c) 0=if r<n∨(r=n∧c<k)then(Pk r c:Int)else 0
theorem Tb.start:Tb (List.replicate 36 0) 0 0:=⟨List.length_replicate,fun r c hr hc=>by
 rw [if_neg O,List.getD_eq_getElem?_getD]
 rw [List.getElem?_replicate]
 split<;>rfl⟩
theorem Tb.step{l:List Int}{n k:Nat}{v:Int}(h:Tb l n k)(hn:n<6)(hk:k<6)(hv:v=(Pk n k:Int)){j:Nat}(hj:j=n*6+k):Tb (l.set j v) n (k+1):=by
 subst hj
 have hl:=h.len
 refine⟨by rw [List.length_set];exact hl,fun r c hr hc=>?_⟩
 rw [Zfj,h.eq r c hr hc]
 by_cases e:r*6+c=n*6+k
 ·have e1:r=n:=O
  have e2:c=k:=O
  subst e1;subst e2
  rw [if_pos rfl,if_pos O];exact hv
 ·rw [if_neg e]
  have:¬(r=n∧c=k):=fun⟨e1,e2⟩=>e (by rw [e1,e2])
  by_cases g:r<n∨(r=n∧c<k)
  ·rw [if_pos g,if_pos O]
  ·rw [if_neg g,if_neg O]
theorem Tb.row{l:List Int}{n k:Nat}(h:Tb l n k)(hk:n<k):Tb l (n+1) 0:=⟨h.len,fun r c hr hc=>by
 rw [h.eq r c hr hc]
 by_cases g:r<n∨(r=n∧c<k)
 ·rw [if_pos g,if_pos O]
 ·rw [if_neg g]
  by_cases g2:r<n+1∨(r=n+1∧c<0)
  ·rw [if_pos g2,Zje r c O];rfl
  ·rw [if_neg g2]⟩
theorem Tb.get{l:List Int}{n k r c:Nat}(h:Tb l n k)(hr:r<6)(hc:c<6)(hlt:r<n∨(r=n∧c<k)){j:Nat}(hj:j=r*6+c):l.getD j 0=(Pk r c:Int):=by
 rw [hj,h.eq r c hr hc,if_pos hlt]
theorem Znr{n k:Nat}(h:n≤5:=by omega):Pk n k≤32:=Nat.le_trans (Zte n k) (Nat.le_trans (Nat.pow_le_pow_right O3 h) O3)
theorem Zb5 {P:Program} {t e:TypeId} {n:Nat} {it ie:TypeInfo} {z:Value} (parts:List (Nat×Value)) {cells:Array Value} (hi:P.info? t=some it) (hu:P.underlying t=some (.array n e)) (hz:it.zero=some z) (he:P.info? e=some ie)
  (hf:Instr.fill (fun i=>some (i*ie.size,ie.size)) z.cells parts=some cells):P.built t parts=some cells:=by
 unfold Program.built
 simp only [hi,hu,hz,he,hf]
variable {P:Program} {N:Nat} {sc:Nat→Prop} {env env':Qw} {H H':Hp} {Q Q':Exit→Act→World→Prop}
def Zp{α:Type _}(i:Nat)(a b c:α):α:=match i with
 | 0=>a
 | 1=>b
 | _=>c
theorem Dr{α:Type _}{p:α→Prop}{i:Nat}{a b c:α}(h0:p a)(h1:p b)(h2:p c):p (Zp i a b c):=by
 unfold Zp;split<;>assumption
theorem Zqw {o:Oper} {x y:Operand} {t e:TypeId} {i:Nat} {kd:IntKind} {m:Int} {v0 v1 v2:Value} (ho:o.op= .index t x y) (hx:ev env x=some (.agg #[v0,v1,v2])) (hy:ev env y=some (.int kd m))
  (ht:P.underlying t=some (.array 3 e)) (hk:∀w,(sizeOf e).run P w= .ok 1 w) (ha:∀w,(isAgg e).run P w= .ok false w) (him:m=(i:Int)) (hlt:i<3:=by omega):Nt P N sc o env H (Zp i v0 v1 v2):=fun a w hs=>by
 subst him
 have h3:i=0∨i=1∨i=2:=O
 rcases h3 with rfl | rfl | rfl<;>simp [execOp,ho,hs.ev hx,hs.ev hy,Instr.index,asIntOf,run_underlying ht,hk,ha,asAgg,part,Zp]
theorem Zcs {α:Type} {k:Nat} {enc:α→Value} {v0 v1 v2:Value} {x0 x1 x2:List α} (i p0 p1 p2 n:Nat) (h0:lk H p0=some (Yh k enc v0 x0)) (h1:lk H p1=some (Yh k enc v1 x1)) (h2:lk H p2=some (Yh k enc v2 x2))
  (n0:Nat.beq p0 0=false) (n1:Nat.beq p1 0=false) (n2:Nat.beq p2 0=false):∀a w,Sat N sc env H a w→Sat N sc env ((n,Yh k enc (Zp i v0 v1 v2) (Zp i x0 x1 x2)) :: H) a w:=by
 match i with
 | 0=>exact Zcd p0 n h0 n0 rfl (fun w h=>h) (fun b h=>h) rfl
 | 1=>exact Zcd p1 n h1 n1 rfl (fun w h=>h) (fun b h=>h) rfl
 | i+2=>exact Zcd p2 n h2 n2 rfl (fun w h=>h) (fun b h=>h) rfl
theorem Zqv{α:Type}{o:Oper}{x:Operand}{t tb:TypeId}{i b j k:Nat}{enc:α→Value}{l:List α}(d0:α)(ho:o.op= .load t x)(hx:ev env x=some (.pointer (some ⟨b,0+j*k,none⟩)))(hH:lk H i=some (box b tb (cellsOf enc l).toArray))(he:Enc P t k enc)(hj:j<l.length) :
  Nt P N sc o env H (enc (l.getD j d0)):=fun a w hs=>by
 have hi:l[j]? = some (l.getD j d0):=by simp [List.getD,List.getElem?_eq_getElem hj]
 have h:=he.load (l.getD j d0) w ⟨b,0+j*k,none⟩ (fun q u hq=>by
  have h1:=Ie he.cells l j _ hi q u hq
  rw [Pq,hs.boxc hH]
  simpa using h1)
 have hev:=hs.ev hx
 generalize enc (l.getD j d0)=r at h ⊢
 generalize (⟨b,0+j*k,none⟩:Addr)=ad at h hev
 simp [execOp,ho,hev,Instr.loadAt,Instr.sureAddr,h]
theorem t_sbe {α:Type} {M:Nat→Prop} {o:Oper} {x y:Operand} {t tb:TypeId} {i b j k:Nat} {enc:α→Value} {l:List α} (z:α) {w0:World} {M0:Nat→Prop} (ho:o.op= .store t x y) (hd:o.dst=none)
  (hx:ev env x=some (.pointer (some ⟨b,0+j*k,none⟩))) (hy:ev env y=some (enc z)) (hH:lk H i=some (box b tb (cellsOf enc l).toArray)) (he:Enc P t k enc) (hj:j<l.length)
  (h0:lk H 0=some (Xm w0 M0)) (hw:∀b,w0.heap.size≤b→sc b) (hM:M b) (hi0:i≠0:=by decide) :
  T P N sc M o env H (G:=Unit) (fun _=>True) (fun _=>env) (fun _=>(i,box b tb (cellsOf enc (l.set j z)).toArray) :: H):=by
 have hl:=Xe he.cells l
 have hz:(enc z).cells.toList.length=k:=by simp [he.cells]
 have hle:(j+1)*k≤l.length*k:=Nat.mul_le_mul_right _ hj
 rw [Nat.succ_mul]at hle
 refine Zhl (vs:=(enc z).cells.toList) ho hd hx hy hH hi0 rfl he.size hz (by rw [hz,List.size_toArray,hl];omega) (fun u hu=>Yo (he.one z u hu)) ?_ h0 hw hM
 unfold Hu
 rw [Nat.zero_add,hz,Zbb he.cells l j z hj]
end Go.Sky
namespace Go.Sky
variable {P:Program} {N:Nat} {sc:Nat→Prop} {env env':Qw} {H H':Hp} {Q Q':Exit→Act→World→Prop}
theorem d_lea{α:Type}{o:Oper}{x:Operand}{t tb te:TypeId}{i b k q:Nat}{enc:α→Value}{l:List α}(ho:o.op= .load t x)(hx:ev env x=some (.pointer (some ⟨b,0,none⟩)))(hH:lk H i=some (box b tb (cellsOf enc l).toArray))(he:Enc P te q enc)(ht:∀w,(isAgg t).run P w= .ok true w)(hk:∀w,(sizeOf t).run P w= .ok k w)(hl:l.length*q=k) :
  Nt P N sc o env H (.agg (cellsOf enc l).toArray):=
 Zv3 (vs:=cellsOf enc l) ho hx hH ht hk (by rw [Xe he.cells l];exact hl) (fun n u hu=>by rw [Nat.zero_add];simpa using hu)
theorem t_sea {α:Type} {M:Nat→Prop} {o:Oper} {x y:Operand} {t tb te:TypeId} {i b k q:Nat} {cs:Array Value} {enc:α→Value} {l:List α} {w0:World} {M0:Nat→Prop} (ho:o.op= .store t x y) (hd:o.dst=none)
  (hx:ev env x=some (.pointer (some ⟨b,0,none⟩))) (hy:ev env y=some (.agg (cellsOf enc l).toArray)) (hH:lk H i=some (box b tb cs)) (hi0:i≠0) (he:Enc P te q enc) (hk:∀w,(sizeOf t).run P w= .ok k w) (hl:l.length*q=k) (hc:cs.size=k)
  (h0:lk H 0=some (Xm w0 M0)) (hw:∀b,w0.heap.size≤b→sc b) (hM:M b) :
  T P N sc M o env H (G:=Unit) (fun _=>True) (fun _=>env) (fun _=>(i,box b tb (cellsOf enc l).toArray) :: H):=by
 have h9:(cellsOf enc l).length=k:=by rw [Xe he.cells l];exact hl
 refine Zhl (vs:=cellsOf enc l) ho hd hx hy hH hi0 rfl hk h9 (by rw [h9,Nat.zero_add,hc];exact Nat.le_refl _) (fun u hu=>?_) (by
  unfold Hu
  rw [List.take_zero,List.nil_append,Nat.zero_add,List.drop_eq_nil_of_le O8,List.append_nil]) h0 hw hM
 unfold cellsOf at hu
 obtain⟨z,_,hz⟩:=List.mem_flatMap.1 hu
 exact Yo (he.one z u hz)
end Go.Sky
namespace Go.Sky
variable {P:Program} {N:Nat} {sc:Nat→Prop} {env env':Qw} {H H':Hp} {Q Q':Exit→Act→World→Prop}
abbrev Zv:=(Int×Int×Int)×(SL×List Int)×(SL×List Int)×(SL×List Int)
abbrev Mo (g:Zv):Value:= .agg #[.int .i64 g.1.1,.int .i64 g.1.2.1,.int .i64 g.1.2.2,Xb g.2.1.1,Xb g.2.2.1.1,Xb g.2.2.2.1]
abbrev qC (z:SL×List Int):Pc:=Yh 1 Zx (Xb z.1) z.2
abbrev qG (g:Zv):Pc:=Ia qC [g.2.1,g.2.2.1,g.2.2.2]
abbrev G0:Zv:=((0,0,0),((none,0,0),[]),((none,0,0),[]),((none,0,0),[]))
theorem Nx{v:Value}{ps:List Zv}{g:Zv}{z:SL×List Int}(j n:Nat)(hj:lk H j=some (Pz 6 Mo qG v ps))(hj0:Nat.beq j 0=false)(hg:g∈ps)(hz:z∈[g.2.1,g.2.2.1,g.2.2.2]):∀a w,Sat N sc env H a w→Sat N sc env ((n,Yh 1 Zx (Xb z.1) z.2) :: H) a w:=
 Zcd j n hj hj0 rfl (fun w h=>h.2 g hg z hz) (fun b hb=> .inr ⟨g,hg,z,hz,hb⟩) rfl
end Go.Sky
namespace Go.Sky
theorem Iz{x:Int}(h:Xx x):bl x.natAbs≤64:=(Xw 64 _).2 (by obtain⟨h1,h2⟩:=h;omega)
theorem in_bl{x:Int}(h:bl x.natAbs≤63):Xx x:=by
 have:=(Xw 63 x.natAbs).1 h
 exact⟨O,O⟩
theorem bl_pw{n:Int}{i:Nat}(h:bl n.natAbs≤100)(hi:i≤10):bl (n^i).natAbs≤1000:=by
 rcases Nat.eq_zero_or_pos i with h0 | h0
 ·subst h0;rw [Int.pow_zero];decide
 ·exact Nat.le_trans (De n h i h0) (by have:=Nat.mul_le_mul_right 100 hi;omega)
def Ci:List Int→Int
 | []=>1
 | x :: r=>x*Ci r
theorem zc6_eq:(Value.agg (List.replicate 36 (Value.int .i64 0)).toArray).cells=Cb (List.replicate 36 0):=rfl
theorem Zn6:(Value.agg (List.replicate 36 (Value.int .i64 0)).toArray).cells.size=36:=rfl
def w60(n j k:Nat):Int:=60/(Pk n k:Int)*(Pk j k:Int)
def ctl(c:List Int)(j m:Nat):Int:=Zy (fun k=>c.getD k 0*w60 (c.length-1) j k) m
theorem Yd3(c:List Int)(j m:Nat):ctl c j (m+1)=ctl c j m+c.getD m 0*w60 (c.length-1) j m:=rfl
theorem Zg5:∀{n k:Nat},k≤n→0<Pk n k
 | n,0,_=>by cases n<;>exact Nat.one_pos
 | n+1,k+1,h=>by
  have:=Zg5 (n:=n) (k:=k) O
  show 0<Pk n k+Pk n (k+1);omega
theorem Zrm{n j k:Nat}(hj:j≤5):0≤w60 n j k∧w60 n j k≤1920:=by
 have h1:=Znr (k:=k) hj
 unfold w60
 have h2:(0:Int)≤60/(Pk n k:Int):=Int.ediv_nonneg O3 O
 have h3:(60:Int)/(Pk n k:Int)≤60:=Int.ediv_le_self _ O3
 refine⟨Int.mul_nonneg h2 O,?_⟩
 have:=Int.mul_le_mul h3 (show(Pk j k:Int)≤32 by omega) O O3
 omega
theorem Zjl{n j k:Nat}(hj:j≤5):bl (w60 n j k).natAbs≤11:=by
 have:=Zrm (n:=n) (k:=k) hj
 exact(Xw 11 _).2 O
theorem La{c:List Int}(h:∀x∈c,Xx x)(k:Nat):Xx (c.getD k 0):=by
 by_cases hk:k<c.length
 ·exact h _ (Zj hk)
 ·rw [List.getD_eq_getElem?_getD,List.getElem?_eq_none O];exact⟨O3,O3⟩
theorem Zbe{c:List Int}(h:∀x∈c,Xx x){j m:Nat}(hj:j≤5)(hm:m≤31):bl (ctl c j m).natAbs≤80:=
 Zg9 (K:=75) (fun k _=>by
  have h1:=Iz (La h k)
  have h2:=Zjl (n:=c.length-1) (k:=k) hj
  have:=Xa (c.getD k 0) (w60 (c.length-1) j k)
  omega) hm
def Zjk(c:List Int)(over:Int):Bool:=(List.range c.length).all fun j=>decide ((ctl c j (j+1)).natAbs≤62914560*over)
theorem Ztk{c:List Int}{over:Int}(h:∀j,j<c.length→((ctl c j (j+1)).natAbs:Int)≤62914560*over):Zjk c over=true:=by
 unfold Zjk
 rw [List.all_eq_true]
 intro j hj
 exact decide_eq_true (h j (List.mem_range.1 hj))
theorem Ztl{c:List Int}{over:Int}{j:Nat}(hj:j<c.length)(h:¬((ctl c j (j+1)).natAbs:Int)≤62914560*over):Zjk c over=false:=by
 cases hb:Zjk c over with
 | false=>rfl
 | true=>
  unfold Zjk at hb
  rw [List.all_eq_true]at hb
  exact absurd (of_decide_eq_true (hb j (List.mem_range.2 hj))) h
theorem wc_abs(s:Int):(#[.bool false,.string (Xz s.natAbs)]:Array Value)=wc (s.natAbs:Int):=by
 have:decide (((s.natAbs:Nat):Int)<0)=false:=decide_eq_false O
 rw [show wc (s.natAbs:Int)=#[.bool (decide (((s.natAbs:Nat):Int)<0)),.string (Xz ((s.natAbs:Nat):Int).natAbs)]from rfl,this,Int.natAbs_natCast]
theorem sgp(z:Int):0<z.sign↔0<z:=by simpa using Ge z
def axB(c:List Int)(over:Int):Bool:=decide (1≤c.length) && decide (c.length≤6) && !(decide (1<c.length) && decide (c.getD (c.length-1) 0=0)) && Zjk c over
def Nc(g:Int):List Int→Int
 | []=>g
 | x :: r=>Nc (Int.gcd g x) r
theorem Ig:∀(a b:List Int) (g:Int),Nc g (a ++ b)=Nc (Nc g a) b
 | [],_,_=>rfl
 | x :: a,b,g=>Ig a b _
theorem Bs{l:List Int}{i:Nat}(g:Int)(h:i<l.length):Nc g (l.take (i+1))=(Int.gcd (Nc g (l.take i)) (l.getD i 0):Int):=by
 rw [Po 0 _ _ h,Ig];rfl
theorem Zeu:∀{l:List Int} {g:Int} {m:Nat},(∀x∈l,bl x.natAbs≤m)→bl g.natAbs≤m→bl (Nc g l).natAbs≤m
 | [],_,_,_,h=>h
 | x :: l,g,m,h,hg=>Zeu (l:=l) (fun y hy=>h y (List.mem_cons_of_mem _ hy)) (Nat.le_trans (Zny g x) (by have:=h x (List.mem_cons_self ..);omega))
abbrev Cs:=List Int×List Int×List Int
def Zw7(fr to ov:Int):Bool:=decide (0≤fr) && decide (fr<to) && decide (to≤3600000) && decide (1≤ov) && decide (ov≤4294967296)
def Kr(fr to ov:Int)(x y z:List Int):Bool:=Zw7 fr to ov && axB x ov && axB y ov && axB z ov && decide (Nc ov (x ++ y ++ z)=1)
def Nk(i:Nat)(x y z:List Int):List Int:=match i with
 | 0=>[]
 | 1=>x
 | 2=>x ++ y
 | _=>x ++ y ++ z
theorem Eb{i:Nat}(x y z:List Int)(h:i<3):Nk (i+1) x y z=Nk i x y z ++ Zp i x y z:=by
 match i,h with
 | 0,_=>rfl
 | 1,_=>rfl
 | 2,_=>rfl
theorem Zao{fr to ov:Int}{x y z:List Int}{i:Nat}(h:axB (Zp i x y z) ov=false):Kr fr to ov x y z=false:=by
 unfold Kr
 revert h
 unfold Zp
 split<;>intro h<;>simp [h]
theorem Cy{fr to ov:Int}{x y z:List Int}(h:¬(0≤fr∧fr<to∧to≤3600000∧1≤ov∧ov≤4294967296)):Kr fr to ov x y z=false:=by
 cases hb:Kr fr to ov x y z with
 | false=>rfl
 | true=>
  unfold Kr Zw7 at hb
  simp only [Bool.and_eq_true,decide_eq_true_eq]at hb
  exact absurd O h
theorem Zjs{c:List Int}{ov:Int}(h:1≤c.length→c.length≤6→¬(1<c.length∧c.getD (c.length-1) 0=0)→Zjk c ov=true→False):axB c ov=false:=by
 cases hb:axB c ov with
 | false=>rfl
 | true=>
  unfold axB at hb
  simp only [Bool.and_eq_true,Bool.not_eq_true',Bool.and_eq_false_iff,decide_eq_true_eq,decide_eq_false_iff_not]at hb
  exact(h hb.1.1.1 hb.1.1.2 (fun h9=>by rcases hb.1.2 with h8 | h8;exact h8 h9.1;exact h8 h9.2) hb.2).elim
theorem Zwy{c:List Int}{ov:Int}(h1:1≤c.length)(h2:c.length≤6)(h3:¬(1<c.length∧c.getD (c.length-1) 0=0))(h4:Zjk c ov=true):axB c ov=true:=by
 unfold axB
 simp only [Bool.and_eq_true,Bool.not_eq_true',Bool.and_eq_false_iff,decide_eq_true_eq,decide_eq_false_iff_not]
 refine⟨⟨⟨h1,h2⟩,?_⟩,h4⟩
 by_cases h5:1<c.length
 ·exact .inr fun h6=>h3 ⟨h5,h6⟩
 ·exact .inl h5
theorem Yai{fr to ov:Int}{x y z:List Int}(h1:0≤fr∧fr<to∧to≤3600000∧1≤ov∧ov≤4294967296)(h2:∀k,k<3→axB (Zp k x y z) ov=true):Kr fr to ov x y z=decide (Nc ov (Nk 3 x y z)=1):=by
 have a0:axB x ov=true:=h2 0 O3
 have a1:axB y ov=true:=h2 1 O3
 have a2:axB z ov=true:=h2 2 O3
 unfold Kr Zw7
 rw [decide_eq_true h1.1,decide_eq_true h1.2.1,decide_eq_true h1.2.2.1,decide_eq_true h1.2.2.2.1,decide_eq_true h1.2.2.2.2,a0,a1,a2]
 rfl
theorem Lm{x y z:List Int}(hx:∀a∈x,Xx a)(hy:∀a∈y,Xx a)(hz:∀a∈z,Xx a)(i:Nat):∀a∈Zp i x y z,Xx a:=Dr (p:=fun l=>∀a∈l,Xx a) hx hy hz
theorem bl_fc{x y z:List Int}(hx:∀a∈x,Xx a)(hy:∀a∈y,Xx a)(hz:∀a∈z,Xx a){ov:Int}(ho:bl ov.natAbs≤64)(i k:Nat):bl (Nc (Nc ov (Nk i x y z)) ((Zp i x y z).take k)).natAbs≤64:=by
 refine Zeu (fun a ha=>Iz (Lm hx hy hz i a (List.mem_of_mem_take ha))) (Zeu (fun a ha=>Iz ?_) ho)
 unfold Nk at ha
 split at ha
 ·cases ha
 ·exact hx a ha
 ·rcases List.mem_append.1 ha with h | h
  ·exact hx a h
  ·exact hy a h
 ·rcases List.mem_append.1 ha with h | h
  ·rcases List.mem_append.1 h with h | h
   ·exact hx a h
   ·exact hy a h
  ·exact hz a h
abbrev RWL:=List (Bool×ByteArray)
def smallR(r:RWL):Bool:=decide (r.length≤8) && r.all fun c=>decide (c.2.size≤6)
noncomputable def dec (r:RWL):List Int:=if h:okP r=true then(okP_ex h).choose else []
noncomputable def bdE (r:RWL):Int:=if okP r=true then Ztf (dec r)else 2
noncomputable def bdZ (r:RWL):Int:=if bdE r=0 then sbound (dec r)else 0
def firstE(r:RWL)(x y x2 y2:Int):Int:=if okP r=true then(if r.length=0∨0<x*y2-x2*y then 3 else 0)else 2
def chke:Nat→Nat→Nat→Nat→Nat→Bool
 | 0,la,_,A,_=>Nat.ble (A+la*64) 65500
 | f+1,la,lb,A,B=>Nat.ble (A+la*64) 65500 && (Nat.beq lb 0 || (List.range lb).all fun l=>chke f lb l B (bif Nat.ble l 1 then 2 else A+(la-lb+1)*B))
inductive SV:List Int→List Int→Prop
 | one (a:Int):SV [a] [a]
 | step (a:Int) (r t:List Int):SV r t→SV (a :: r) (a :: t)
 | skip (a u w:Int) (r t:List Int):(a=1∨a=-1)→(-1≤u∧u≤1)→(-1≤w∧w≤1)→SV (-a :: r) (-a :: t)→SV (a :: u :: -a :: r) (a :: w :: -a :: t)
theorem Zlc{s:Int×Int}{a u:Int}(ha:a=1∨a=-1)(hu:-1≤u∧u≤1):Nm (Nm (Nm s a) u) (-a)=Nm (Nm s a) (-a):=by
 obtain⟨n,l⟩:=s
 have h3:u=-1∨u=0∨u=1:=O
 rcases ha with rfl | rfl<;>rcases h3 with rfl | rfl | rfl<;>simp [Nm]
theorem SV.fold{a b:List Int}(h:SV a b):∀s,a.foldl Nm s=b.foldl Nm s:=by
 induction h with
 | one a=>intro s;rfl
 | step a r t _ ih=>intro s;exact ih (Nm s a)
 | skip a u w r t ha hu hw _ ih=>
  intro s
  show(r.foldl Nm (Nm (Nm (Nm s a) u) (-a)))=(t.foldl Nm (Nm (Nm (Nm s a) w) (-a)))
  rw [Zlc ha hu,Zlc ha hw]
  exact ih (Nm s a)
theorem SV.chg{a b:List Int}(h:SV a b):chg a=chg b:=congrArg Prod.fst (h.fold (0,0))
def Gx(x:Rat):Int:=if x<0 then -1 else if x=0 then 0 else 1
theorem Yan(x:Rat):-1≤Gx x∧Gx x≤1:=by unfold Gx;split;decide;split<;>decide
theorem Ce{x:Rat}(h:0<x):Gx x=1:=by unfold Gx;rw [if_neg O4,if_neg O4]
theorem Cf{x:Rat}(h:x<0):Gx x=-1:=by unfold Gx;rw [if_pos h]
def Big(η x:Rat)(f:Rat→Rat):Prop:=η<f x∨f x < -η
def Tri(η x:Rat):(Rat→Rat)→List (Rat→Rat)→Prop
 | _,[]=>True
 | _,[g]=>Big η x g
 | f,g :: k :: r=>(Big η x g∧Tri η x g (k :: r))∨(Big η x k∧f x*k x<0∧Tri η x k r)
def Near(η x y:Rat)(f:Rat→Rat):Prop:=f x-f y≤η∧f y-f x≤η
theorem Zn1{η x y:Rat}{f:Rat→Rat}(h0:0≤η)(h:Big η x f)(hn:Near η x y f):Gx (f x)=Gx (f y)∧(Gx (f x)=1∨Gx (f x)=-1):=by
 obtain⟨h1,h2⟩:=hn
 rcases h with h | h
 ·rw [Ce O4,Ce O4];exact⟨rfl,.inl rfl⟩
 ·rw [Cf O4,Cf O4];exact⟨rfl,.inr rfl⟩
theorem opp_sg{a b:Rat}(h:a*b<0):Gx b=- Gx a:=by
 rcases(show a<0∨a=0∨0<a by grind)with h1 | h1 | h1
 ·rw [Cf h1,Ce (by
   rcases(show b≤0∨0<b by grind)with h2 | h2
   ·have:=Rat.mul_nonneg (a:=-a) (b:=-b) O4 O4;grind
   ·exact h2)];rfl
 ·subst h1;grind
 ·rw [Ce h1,Cf (by
   rcases(show 0≤b∨b<0 by grind)with h2 | h2
   ·have:=Rat.mul_nonneg (a:=a) (b:=b) O4 h2;grind
   ·exact h2)]
theorem Zll{η x y:Rat}(h0:0≤η):∀(n:Nat) (f:Rat→Rat) (fs:List (Rat→Rat)),fs.length≤n→Big η x f→(∀g∈f :: fs,Near η x y g)→Tri η x f fs→
  SV ((f :: fs).map fun g=>Gx (g x)) ((f :: fs).map fun g=>Gx (g y))
 | _,f,[],_,hb,hn,_=>by
  have:=(Zn1 h0 hb (hn f (List.mem_cons_self ..))).1
  simp only [List.map_cons,List.map_nil,this]
  exact SV.one _
 | 0,f,g :: r,hl,_,_,_=>absurd hl O7
 | n+1,f,[g],hl,hb,hn,ht=>by
  have h1:=(Zn1 h0 hb (hn f (List.mem_cons_self ..))).1
  have h2:=Zll h0 n g [] O7 ht (fun k hk=>hn k (List.mem_cons_of_mem _ hk)) trivial
  rw [List.map_cons,List.map_cons,h1]
  exact SV.step _ _ _ h2
 | n+1,f,g :: k :: r,hl,hb,hn,ht=>by
  have h1:=Zn1 h0 hb (hn f (List.mem_cons_self ..))
  rcases ht with⟨hg,ht⟩ | ⟨hk,ho,ht⟩
  ·have h2:=Zll h0 n g (k :: r) (by simp at hl ⊢;omega) hg (fun k hk=>hn k (List.mem_cons_of_mem _ hk)) ht
   rw [List.map_cons (l:=g :: k :: r),List.map_cons (l:=g :: k :: r),h1.1]
   exact SV.step _ _ _ h2
  ·have h2:=Zll h0 n k r (by simp at hl ⊢;omega) hk (fun j hj=>hn j (List.mem_cons_of_mem _ (List.mem_cons_of_mem _ hj))) ht
   have h3:=(Zn1 h0 hk (hn k O7)).1
   have h4:=opp_sg ho
   rw [List.map_cons (l:=r),List.map_cons (l:=r)]at h2
   simp only [List.map_cons]
   rw [←h3]at h2 ⊢
   rw [h4]at h2 ⊢
   rw [←h1.1]
   exact SV.skip _ _ _ _ _ h1.2 (Yan _) (Yan _) h2
structure Lnk (η x:Rat) (f g k:Rat→Rat):Prop where
 big:¬Big η x g→Big η x k
 opp:¬Big η x g→f x*k x<0
def Lnks(η x:Rat):(Rat→Rat)→List (Rat→Rat)→Prop
 | _,[]=>True
 | _,[g]=>Big η x g
 | f,g :: k :: r=>Lnk η x f g k∧Lnks η x g (k :: r)
theorem Zil{η x:Rat} : ∀(n:Nat) (f:Rat→Rat) (fs:List (Rat→Rat)),fs.length≤n→Lnks η x f fs→Tri η x f fs
 | _,f,[],_,_=>trivial
 | 0,f,g :: r,hl,_=>absurd hl O7
 | n+1,f,[g],_,h=>h
 | n+1,f,[g,k],hl,h=>by
  by_cases hg:Big η x g
  ·exact .inl ⟨hg,h.2⟩
  ·exact .inr ⟨h.1.big hg,h.1.opp hg,trivial⟩
 | n+1,f,g :: k :: j :: r,hl,h=>by
  by_cases hg:Big η x g
  ·exact .inl ⟨hg,Zil n g (k :: j :: r) (by simp at hl ⊢;omega) h.2⟩
  ·exact .inr ⟨h.1.big hg,h.1.opp hg,Zil n k (j :: r) (by simp at hl ⊢;omega) h.2.2⟩
def Rl3(s t:Rat)(f g k:Rat→Rat):Prop:=∃m n Q:Rat,0<m∧0<n∧0<Q∧∀x,s≤x→x≤t→∃q,-Q≤q∧q≤Q∧m*f x=q*g x-n*k x
def Rl2(s t:Rat)(f g:Rat→Rat):Prop:=∃m Q:Rat,0<m∧0<Q∧∀x,s≤x→x≤t→∃q,-Q≤q∧q≤Q∧m*f x=q*g x
def Rls(s t:Rat):(Rat→Rat)→List (Rat→Rat)→Prop
 | _,[]=>True
 | f,[g]=>Rl2 s t f g
 | f,g :: k :: r=>Rl3 s t f g k∧Rls s t g (k :: r)
theorem Zac{q Q g e:Rat}(h1:-Q≤q)(h2:q≤Q)(h3:-e≤g)(h4:g≤e)(hQ:0≤Q):q*g≤Q*e∧-(Q*e)≤q*g:=by
 have a:=Rat.mul_nonneg (a:=Q-q) (b:=e+g) O4 O4
 have b:=Rat.mul_nonneg (a:=Q+q) (b:=e-g) O4 O4
 have c:=Rat.mul_nonneg (a:=Q-q) (b:=e-g) O4 O4
 have d:=Rat.mul_nonneg (a:=Q+q) (b:=e+g) O4 O4
 constructor<;>grind
theorem Zbt{η x:Rat}{g:Rat→Rat}(h:¬Big η x g):-η≤g x∧g x≤η:=by
 unfold Big at h;constructor<;>grind
theorem Ztq{η ε x:Rat}{g:Rat→Rat}(h:η≤ε)(hb:Big ε x g):Big η x g:=by
 unfold Big at *;grind
theorem Ih{ε a b:Rat}(h:0<ε)(ha:0<a)(hb:0<b):∃e:Rat,0<e∧e≤ε∧e*a≤b:=by
 have h1:0<b*a⁻¹:=Rat.mul_pos hb (Rat.inv_pos.2 ha)
 have h2:b*a⁻¹*a=b:=O4
 rcases(show ε≤b*a⁻¹∨b*a⁻¹≤ε by grind)with h3 | h3
 ·exact⟨ε,h,O4,by have:=Rat.mul_le_mul_of_nonneg_right h3 (show 0≤a by grind);grind⟩
 ·exact⟨b*a⁻¹,h1,h3,O4⟩
theorem pair3{s t ε:Rat}{f g k:Rat→Rat}(h:Rl3 s t f g k)(he:0<ε)(hp:∀x,s≤x→x≤t→Big ε x f∨Big ε x g) :
  ∃e,0<e∧(∀x,s≤x→x≤t→Big e x g∨Big e x k)∧∀η,0<η→η≤e→∀x,s≤x→x≤t→Lnk η x f g k:=by
 obtain⟨m,n,Q,hm,hn,hQ,hr⟩:=h
 obtain⟨e,e1,e2,e3⟩:=Ih he (show 0<Q+n by grind) (Rat.mul_pos hm he)
 have key:∀η,0<η→η≤e→∀x,s≤x→x≤t→¬Big η x g→Big η x k∧f x*k x<0:=fun η h1 h2 x hs ht hg=>by
  obtain⟨q,q1,q2,q3⟩:=hr x hs ht
  obtain⟨g1,g2⟩:=Zbt hg
  obtain⟨p1,p2⟩:=Zac q1 q2 g1 g2 O4
  have hf:Big ε x f:=(hp x hs ht).resolve_right fun h=>hg (Ztq O4 h)
  have c1:η*(Q+n)≤m*ε:=by
   have:=Rat.mul_le_mul_of_nonneg_right h2 (show 0≤Q+n by grind);grind
  have c2:0<η*n:=Rat.mul_pos h1 hn
  rcases hf with hf | hf
  ·have d1:m*ε<m*f x:=by have:=Rat.mul_pos hm (show 0<f x-ε by grind);grind
   have d2:n*k x < - (n*η):=O4
   have d3:k x < -η:=by
    rcases(show k x < -η∨-η≤k x by grind)with h9 | h9
    ·exact h9
    ·have:=Rat.mul_nonneg (a:=n) (b:=k x+η) O4 O4;grind
   refine⟨.inr d3,?_⟩
   have:=Rat.mul_pos (a:=f x) (b:=- k x) O4 O4;grind
  ·have d1:m*f x < - (m*ε):=by have:=Rat.mul_pos hm (show 0 < -ε-f x by grind);grind
   have d2:n*η<n*k x:=O4
   have d3:η<k x:=by
    rcases(show η<k x∨k x≤η by grind)with h9 | h9
    ·exact h9
    ·have:=Rat.mul_nonneg (a:=n) (b:=η-k x) O4 O4;grind
   refine⟨.inl d3,?_⟩
   have:=Rat.mul_pos (a:=- f x) (b:=k x) O4 O4;grind
 refine⟨e,e1,fun x hs ht=>?_,fun η h1 h2 x hs ht=>⟨fun hg=>(key η h1 h2 x hs ht hg).1,fun hg=>(key η h1 h2 x hs ht hg).2⟩⟩
 by_cases hg:Big e x g
 ·exact .inl hg
 ·exact .inr (key e e1 O4 x hs ht hg).1
theorem pair2{s t ε:Rat}{f g:Rat→Rat}(h:Rl2 s t f g)(he:0<ε)(hp:∀x,s≤x→x≤t→Big ε x f∨Big ε x g) :
  ∃e,0<e∧∀η,0<η→η≤e→∀x,s≤x→x≤t→Big η x g:=by
 obtain⟨m,Q,hm,hQ,hr⟩:=h
 obtain⟨e,e1,e2,e3⟩:=Ih he hQ (Rat.mul_pos hm he)
 refine⟨e,e1,fun η h1 h2 x hs ht=>?_⟩
 by_cases hg:Big η x g
 ·exact hg
 ·exfalso
  obtain⟨q,q1,q2,q3⟩:=hr x hs ht
  obtain⟨g1,g2⟩:=Zbt hg
  obtain⟨p1,p2⟩:=Zac q1 q2 g1 g2 O4
  have hf:Big ε x f:=(hp x hs ht).resolve_right fun h=>hg (Ztq O4 h)
  have c1:η*Q≤m*ε:=by
   have:=Rat.mul_le_mul_of_nonneg_right h2 (show 0≤Q by grind);grind
  rcases hf with hf | hf
  ·have:=Rat.mul_pos hm (show 0<f x-ε by grind);grind
  ·have:=Rat.mul_pos hm (show 0 < -ε-f x by grind);grind
theorem Zpy{s t:Rat} : ∀(n:Nat) (f:Rat→Rat) (fs:List (Rat→Rat)) (ε:Rat),fs.length≤n→Rls s t f fs→0<ε→(∀g r,fs=g :: r→∀x,s≤x→x≤t→Big ε x f∨Big ε x g)→
  ∃e,0<e∧∀η,0<η→η≤e→∀x,s≤x→x≤t→Lnks η x f fs
 | _,f,[],ε,_,_,he,_=>⟨ε,he,fun _ _ _ _ _ _=>trivial⟩
 | 0,f,g :: r,ε,hl,_,_,_=>absurd hl O7
 | n+1,f,[g],ε,_,h,he,hp=>pair2 h he (hp g [] rfl)
 | n+1,f,g :: k :: r,ε,hl,h,he,hp=>by
  obtain⟨e,e1,e2,e3⟩:=pair3 h.1 he (hp g (k :: r) rfl)
  obtain⟨e',e1',e2'⟩:=Zpy n g (k :: r) e (by simp at hl ⊢;omega) h.2 e1 (fun k' r' heq=>by
   injection heq with h1 h2;subst h1;exact e2)
  rcases(show e≤e'∨e'≤e by grind)with h9 | h9
  ·exact⟨e,e1,fun η h1 h2 x hs ht=>⟨e3 η h1 h2 x hs ht,e2' η h1 O4 x hs ht⟩⟩
  ·exact⟨e',e1',fun η h1 h2 x hs ht=>⟨e3 η h1 O4 x hs ht,e2' η h1 h2 x hs ht⟩⟩
def Lip(s t L:Rat)(f:Rat→Rat):Prop:=∀x y,s≤x→x≤y→y≤t→f x-f y≤L*(y-x)∧f y-f x≤L*(y-x)
def vat(fs:List (Rat→Rat))(x:Rat):Int:=chg (fs.map fun g=>Gx (g x))
theorem Yfw{s t L δ:Rat}{f:Rat→Rat}{fs:List (Rat→Rat)}(hL:0<L)(hl:∀g∈f :: fs,Lip s t L g)(hd:0<δ)(hb:∀x,s≤x→x≤t→Big δ x f)(hr:Rls s t f fs) :
  ∃h,0<h∧∀x y,s≤x→x≤y→y≤t→y-x≤h→vat (f :: fs) x=vat (f :: fs) y:=by
 obtain⟨e,e1,e2⟩:=Zpy fs.length f fs δ (Nat.le_refl _) hr hd (fun g r _ x hs ht=> .inl (hb x hs ht))
 obtain⟨η,n1,n2,n3⟩:=Ih hd (show(0:Rat)<1 by decide) e1
 obtain⟨h,h1,h2,h3⟩:=Ih n1 hL n1
 refine⟨h,h1,fun x y hx hxy hy hh=>SV.chg ?_⟩
 refine Zll O4 fs.length f fs (Nat.le_refl _) (Ztq O4 (hb x hx O4)) (fun g hg=>?_) (Zil _ _ _ (Nat.le_refl _) (e2 η n1 O4 x hx O4))
 obtain⟨a,b⟩:=hl g hg x y hx hxy hy
 have:=Rat.mul_le_mul_of_nonneg_right hh (show 0≤L by grind)
 exact⟨O4,O4⟩
theorem Zw5{s t L δ:Rat}{f:Rat→Rat}{fs:List (Rat→Rat)}(hL:0<L)(hl:∀g∈f :: fs,Lip s t L g)(hd:0<δ)(hb:∀x,s≤x→x≤t→Big δ x f)(hr:Rls s t f fs)(hst:s≤t) :
  vat (f :: fs) s=vat (f :: fs) t:=by
 obtain⟨h,h1,h2⟩:=Yfw hL hl hd hb hr
 have key:∀n:Nat,∀y,s≤y→y≤t→y-s≤(n:Rat)*h→vat (f :: fs) s=vat (f :: fs) y:=fun n=>by
  induction n with
  | zero=>
    intro y h3 h4 h5;have:y=s:=by simp at h5;grind
    rw [this]
  | succ n ih=>
   intro y h3 h4 h5
   have h6:((n+1:Nat):Rat)*h=(n:Rat)*h+h:=by push_cast;grind
   rcases(show y-s≤(n:Rat)*h∨(n:Rat)*h<y-s by grind)with h7 | h7
   ·exact ih y h3 h4 h7
   ·have h8:(0:Rat)≤(n:Rat)*h:=Rat.mul_nonneg (by exact_mod_cast Nat.zero_le n) O4
    rcases(show s≤y-h∨y-h<s by grind)with h9 | h9
    ·rw [ih (y-h) h9 O4 O4]
     exact h2 (y-h) y h9 O4 h4 O4
    ·exact h2 s y O4 h3 h4 O4
 have h3:∃n:Nat,t-s≤(n:Rat)*h:=by
  have h4:0<h⁻¹:=Rat.inv_pos.2 h1
  refine⟨((t-s)*h⁻¹).ceil.toNat,?_⟩
  have h5:=@Rat.le_ceil ((t-s)*h⁻¹)
  have h6:((((t-s)*h⁻¹).ceil:Int):Rat)≤((((t-s)*h⁻¹).ceil.toNat:Nat):Rat):=by
   have:((t-s)*h⁻¹).ceil≤((((t-s)*h⁻¹).ceil.toNat:Nat):Int):=Int.self_le_toNat _
   exact_mod_cast this
  have h7:=Rat.mul_le_mul_of_nonneg_right (Rat.le_trans h5 h6) (show 0≤h by grind)
  have h8:(t-s)*h⁻¹*h=t-s:=O4
  grind
 obtain⟨n,hn⟩:=h3
 exact key n t hst O4 hn
def Zb:List Int→Rat→Rat
 | [],_=>0
 | c :: p,x=>(c:Rat)+x*Zb p x
theorem Yho(s t:Rat):∃K:Rat,0<K∧∀x,s≤x→x≤t→-K≤x∧x≤K:=by
 rcases(show(0≤s∨s<0) by grind)with h | h<;>rcases(show(0≤t∨t<0) by grind)with h' | h'
 ·exact⟨t+1,O4,fun x _ _=>O4⟩
 ·exact⟨1,O4,fun x _ _=>O4⟩
 ·exact⟨t-s+1,O4,fun x _ _=>O4⟩
 ·exact⟨-s+1,O4,fun x _ _=>O4⟩
theorem Zo8(s t:Rat):∀p:List Int,∃B:Rat,0<B∧∀x,s≤x→x≤t→-B≤Zb p x∧Zb p x≤B
 | []=>⟨1,O3,fun x _ _=>by unfold Zb;grind⟩
 | c :: p=>by
  obtain⟨B,b1,b2⟩:=Zo8 s t p
  obtain⟨K,k1,k2⟩:=Yho s t
  obtain⟨C,c1,c2⟩:=Yho (c:Rat) (c:Rat)
  have hc:=c2 (c:Rat) O4 O4
  refine⟨C+K*B,by have:=Rat.mul_pos k1 b1;grind,fun x hs ht=>?_⟩
  obtain⟨d1,d2⟩:=b2 x hs ht
  obtain⟨e1,e2⟩:=k2 x hs ht
  obtain⟨f1,f2⟩:=Zac e1 e2 d1 d2 O4
  unfold Zb
  constructor<;>grind
theorem Et(s t:Rat):∀p:List Int,∃L:Rat,0<L∧Lip s t L (Zb p)
 | []=>⟨1,O3,fun x y _ _ _=>by unfold Zb;constructor<;>grind⟩
 | c :: p=>by
  obtain⟨L,l1,l2⟩:=Et s t p
  obtain⟨B,b1,b2⟩:=Zo8 s t p
  obtain⟨K,k1,k2⟩:=Yho s t
  refine⟨K*L+B,by have:=Rat.mul_pos k1 l1;grind,fun x y hs hxy ht=>?_⟩
  obtain⟨a1,a2⟩:=l2 x y hs hxy ht
  obtain⟨d1,d2⟩:=b2 y O4 ht
  obtain⟨e1,e2⟩:=k2 x hs O4
  obtain⟨f1,f2⟩:=Zac (q:=x) (g:=Zb p x-Zb p y) (e:=L*(y-x)) e1 e2 O4 O4 O4
  have g1:=Rat.mul_nonneg (a:=B-Zb p y) (b:=y-x) O4 O4
  have g2:=Rat.mul_nonneg (a:=B+Zb p y) (b:=y-x) O4 O4
  unfold Zb
  constructor<;>grind
theorem Zh1(x:Rat):∀q:List Int,(∀i,cf q i=0)→Zb q x=0
 | [],_=>rfl
 | c :: q,h=>by
  have h0:c=0:=h 0
  have h1:=Zh1 x q fun i=>h (i+1)
  unfold Zb;rw [h1,h0];grind
theorem On(x:Rat):∀p q:List Int,(∀i,cf p i=cf q i)→Zb p x=Zb q x
 | [],q,h=>by rw [Zh1 x q fun i=>(h i).symm.trans (Yl (Nat.zero_le _))];rfl
 | c :: p,[],h=>by rw [Zh1 x (c :: p) fun i=>(h i).trans (Yl (Nat.zero_le _))];rfl
 | c :: p,d :: q,h=>by
  have h0:c=d:=h 0
  have h1:=On x p q fun i=>h (i+1)
  unfold Zb;rw [h1,h0]
def Nj:List Int→List Int→List Int
 | [],q=>q
 | p,[]=>p
 | a :: p,b :: q=>(a+b) :: Nj p q
theorem Zp9(p:List Int):Nj p []=p:=by cases p<;>rfl
theorem Xd(x:Rat):∀p q:List Int,Zb (Nj p q) x=Zb p x+Zb q x
 | [],q=>by unfold Nj;show Zb q x=0+Zb q x;grind
 | a :: p,[]=>by rw [Zp9];show Zb (a :: p) x=Zb (a :: p) x+0;grind
 | a :: p,b :: q=>by
  have h:=Xd x p q
  unfold Nj Zb;rw [h];push_cast;grind
theorem Md:∀(p q:List Int) (i:Nat),cf (Nj p q) i=cf p i+cf q i
 | [],q,i=>by unfold Nj;rw [show cf [] i=0 from Yl (Nat.zero_le _)];omega
 | a :: p,[],i=>by rw [Zp9,show cf [] i=0 from Yl (Nat.zero_le _)];omega
 | a :: p,b :: q,0=>rfl
 | a :: p,b :: q,i+1=>Md p q i
theorem Ze(x:Rat)(c:Int):∀p:List Int,Zb (p.map fun a=>c*a) x=(c:Rat)*Zb p x
 | []=>by show(0:Rat)=c*0;grind
 | a :: p=>by
  have h:=Ze x c p
  simp only [List.map_cons];unfold Zb;rw [h];push_cast;grind
theorem Xv(c:Int):∀(p:List Int) (i:Nat),cf (p.map fun a=>c*a) i=c*cf p i
 | [],i=>by simp [cf]
 | a :: p,0=>rfl
 | a :: p,i+1=>Xv c p i
def lmul:List Int→List Int→List Int
 | [],_=>[]
 | c :: p,q=>Nj (q.map fun a=>c*a) (0 :: lmul p q)
theorem Zq(x:Rat):∀p q:List Int,Zb (lmul p q) x=Zb p x*Zb q x
 | [],q=>by show(0:Rat)=0*Zb q x;grind
 | c :: p,q=>by
  have h:=Zq x p q
  unfold lmul;rw [Xd,Ze]
  show(c:Rat)*Zb q x+(((0:Int):Rat)+x*Zb (lmul p q) x)=((c:Rat)+x*Zb p x)*Zb q x
  rw [h];grind
theorem Gs:∀(p q:List Int) (i:Nat),cf (lmul p q) i=Zy (fun k=>cf p k*cf q (i-k)) (i+1)
 | [],q,i=>by
  rw [show cf (lmul [] q) i=0 from Yl (Nat.zero_le _)]
  exact(Hb fun k _=>by rw [show cf [] k=0 from Yl (Nat.zero_le _),Int.zero_mul]).symm
 | c :: p,q,0=>by
  unfold lmul;rw [Md,Xv,Yi,Kw]
  show c*cf q 0+0=0+c*cf q 0
  omega
 | c :: p,q,i+1=>by
  have h:=Gs p q i
  unfold lmul;rw [Md,Xv,Ng]
  show c*cf q (i+1)+cf (lmul p q) i=c*cf q (i+1)+_
  rw [h]
  congr 1
  refine Yu fun k hk=>?_
  show cf p k*cf q (i-k)=cf p k*cf q (i+1-(k+1))
  rw [show i+1-(k+1)=i-k by omega]
theorem Fs{a c:Int}{x s y z:List Int}(h:∀t,a*cf x t=(ps s*ps y).c t-c*cf z t)(q:Rat):(a:Rat)*Zb x q=Zb s q*Zb y q-(c:Rat)*Zb z q:=by
 have h1:∀t,cf (Nj (x.map fun b=>a*b) (z.map fun b=>c*b)) t=cf (lmul s y) t:=fun t=>by
  rw [Md,Xv,Xv,Gs,h t,PS.mul_c]
  show Zy (fun k=>cf s k*cf y (t-k)) (t+1)-c*cf z t+c*cf z t=_
  omega
 have h2:=On q _ _ h1
 rw [Xd,Ze,Ze,Zq]at h2
 grind
theorem Zxo{s t:Rat}{x y:List Int}(hx:Tr x)(hy:Tr y)(h0:y≠[])(hl:y.length≤x.length):Rl3 s t (Zb x) (Zb y) (Zb (Oo x y)):=by
 have l0:=List.length_pos_iff.2 h0
 obtain⟨r1,r2,k,u,hk⟩:=Zdu hy h0 x.length x hx O
 have hs:=Ze9 (f:=x.length) hx hy h0 hl O
 have htn:Tr (Zcy (Bi x.length x y)):=Xq _ _
 obtain⟨m,n,hm,hn,hp⟩:=Zcx htn
 rw [hs]at hp
 have hK:0<Ao y^k:=Int.pow_pos (Zdy hy h0)
 obtain⟨B,b1,b2⟩:=Zo8 s t u
 have hm':(0:Rat)<(m:Rat):=by exact_mod_cast hm
 have hn':(0:Rat)<(n:Rat):=by exact_mod_cast hn
 have hK':(0:Rat)<((Ao y^k:Int):Rat):=by exact_mod_cast hK
 refine⟨(n:Rat)*((Ao y^k:Int):Rat),(m:Rat),(n:Rat)*B,Rat.mul_pos hn' hK',hm',Rat.mul_pos hn' b1,fun q hq1 hq2=>⟨(n:Rat)*Zb u q,?_,?_,?_⟩⟩
 ·have:=Rat.mul_nonneg (a:=(n:Rat)) (b:=Zb u q+B) O4 (by have:=b2 q hq1 hq2;grind);grind
 ·have:=Rat.mul_nonneg (a:=(n:Rat)) (b:=B-Zb u q) O4 (by have:=b2 q hq1 hq2;grind);grind
 ·have e1:=Fs (a:=Ao y^k) (c:=-1) (x:=x) (s:=u) (y:=y) (z:=Bi x.length x y) (fun t=>by rw [hk t];omega) q
  have e2:Zb ((Oo x y).map fun b=>m*b) q=Zb ((Bi x.length x y).map fun b=>(-n)*b) q:=On q _ _ fun i=>by
   rw [Xv,Xv,hp i,Fu,Int.mul_neg,Int.neg_mul]
  rw [Ze,Ze]at e2
  push_cast at e1 e2 ⊢
  grind
theorem rl2_of{s t:Rat}{f g:Rat→Rat}(h:Rl3 s t f g (Zb [])):Rl2 s t f g:=by
 obtain⟨m,n,Q,hm,hn,hQ,hr⟩:=h
 refine⟨m,Q,hm,hQ,fun x h1 h2=>?_⟩
 obtain⟨q,q1,q2,q3⟩:=hr x h1 h2
 refine⟨q,q1,q2,?_⟩
 have:Zb [] x=0:=rfl
 rw [this]at q3;grind
theorem Zkq{s t:Rat} : ∀(f:Nat) (a b:List Int),Tr a→Tr b→cok f a b→∃r,Nu f a b=a :: r∧Rls s t (Zb a) (r.map Zb)∧(b=[]→r=[])∧(b≠[]→∃r',r=b :: r'):=fun f=>by
 induction f with
 | zero=>
  intro a b ha hb h
  have h0:b=[]:=h
  subst h0
  exact⟨[],rfl,trivial,fun _=>rfl,fun h=>absurd rfl h⟩
 | succ f ih=>
  intro a b ha hb h
  by_cases h0:b=[]
  ·subst h0
   exact⟨[],Ds _ _,trivial,fun _=>rfl,fun h=>absurd rfl h⟩
  ·obtain⟨g,hg,hd,hle,hc,hs⟩:=Zjd h h0
   obtain rfl:f=g:=O
   obtain⟨r,h1,h2,h3,h4⟩:=ih b (Oo a b) hb (Zak ha) hc
   have hR:=Zxo (s:=s) (t:=t) ha hb h0 hle
   refine⟨b :: r,by rw [hs,h1],?_,fun h=>absurd h h0,fun _=>⟨r,rfl⟩⟩
   by_cases hz:Oo a b=[]
   ·rw [h3 hz]
    rw [hz]at hR
    exact rl2_of hR
   ·obtain⟨r',rfl⟩:=h4 hz
    exact⟨hR,h2⟩
theorem Zpz{s t L M:Rat}{f:Rat→Rat}(h:L≤M)(hf:Lip s t L f):Lip s t M f:=fun x y h1 h2 h3=>by
 obtain⟨a,b⟩:=hf x y h1 h2 h3
 have:=Rat.mul_le_mul_of_nonneg_right h (show 0≤y-x by grind)
 constructor<;>grind
theorem Zva(s t:Rat):∀ls:List (List Int),∃L:Rat,0<L∧∀g∈ls.map Zb,Lip s t L g
 | []=>⟨1,O3,fun g hg=>by cases hg⟩
 | p :: ls=>by
  obtain⟨L,l1,l2⟩:=Zva s t ls
  obtain⟨M,m1,m2⟩:=Et s t p
  refine⟨L+M,O4,fun g hg=>?_⟩
  rw [List.map_cons]at hg
  rcases List.mem_cons.1 hg with rfl | hg
  ·exact Zpz O4 m2
  ·exact Zpz O4 (l2 g hg)
theorem Zds{s t δ:Rat}{f:Nat}{a b:List Int}(ha:Tr a)(hb:Tr b)(hc:cok f a b)(hst:s≤t)(hd:0<δ)(hB:∀x,s≤x→x≤t→Big δ x (Zb a)) :
  vat ((Nu f a b).map Zb) s=vat ((Nu f a b).map Zb) t:=by
 obtain⟨r,h1,h2,_,_⟩:=Zkq (s:=s) (t:=t) f a b ha hb hc
 obtain⟨L,l1,l2⟩:=Zva s t (Nu f a b)
 rw [h1]at l2 ⊢
 exact Zw5 l1 l2 hd hB h2 hst
theorem Zo5(x:Rat)(l:Int):∀p:List Int,Zb (p ++ [l]) x=Zb p x+(l:Rat)*x^p.length
 | []=>by show(l:Rat)+x*0=0+l*x^0;rw [Rat.pow_zero];grind
 | c :: p=>by
  have h:=Zo5 x l p
  rw [List.cons_append,List.length_cons,Rat.pow_succ]
  unfold Zb;rw [h];grind
def alt:List Int→List Int
 | []=>[]
 | c :: p=>c :: (alt p).map fun a=>-1*a
theorem Ybj(c:Int)(p:List Int)(X Y:Int)(h:p≠[]):pev (c :: p) X Y=c*Y^p.length+X*pev p X Y:=by
 have hl:=List.length_pos_iff.2 h
 unfold pev
 rw [List.length_cons,Ng,←Np]
 congr 1
 ·show c*(X^0*Y^(p.length+1-1-0))=_
  rw [Int.pow_zero,Int.one_mul,show p.length+1-1-0=p.length by omega]
 ·refine Yu fun i hi=>?_
  show cf p i*(X^(i+1)*Y^(p.length+1-1-(i+1)))=X*(cf p i*(X^i*Y^(p.length-1-i)))
  rw [show p.length+1-1-(i+1)=p.length-1-i by omega,Int.pow_succ]
  grind
theorem Zux{X Y:Int}(hY:0<Y):∀p:List Int,((pev p X Y:Int):Rat)=Zb p ((X:Rat)/(Y:Rat))*(Y:Rat)^(p.length-1)
 | []=>by show(0:Rat)=0*_;grind
 | [c]=>by
  have:pev [c] X Y=c:=by unfold pev;show 0+c*(X^0*Y^0)=c;rw [Int.pow_zero,Int.pow_zero];omega
  rw [this];show(c:Rat)=(c+X/Y*0)*(Y:Rat)^0;rw [Rat.pow_zero];grind
 | c :: d :: p=>by
  have h:=Zux (X:=X) hY (d :: p)
  rw [Ybj c (d :: p) X Y O7]
  have hy:(Y:Rat)≠0:=by
    have:(0:Rat)<(Y:Rat):=by exact_mod_cast hY
    grind
  push_cast
  rw [h]
  show(c:Rat)*(Y:Rat)^(p.length+1)+X*(Zb (d :: p) (X/Y)*(Y:Rat)^(p.length+1-1))=((c:Rat)+X/Y*Zb (d :: p) (X/Y))*(Y:Rat)^(p.length+1+1-1)
  rw [show p.length+1-1=p.length by omega,show p.length+1+1-1=p.length+1 by omega,Rat.pow_succ]
  generalize Zb (d :: p) (X/Y)=R
  generalize (Y:Rat)^p.length=P
  have:(X:Rat)/Y*Y=X:=O4
  grind
theorem Zz6{z:Int}{r q:Rat}(hq:0<q)(h:(z:Rat)=r*q):z.sign=Gx r:=by
 rcases(show r<0∨r=0∨0<r by grind)with h1 | h1 | h1
 ·rw [Cf h1]
  have:=Rat.mul_pos (a:=-r) (b:=q) O4 hq
  have h2:(z:Rat)<0:=O4
  have h3:z<0:=by exact_mod_cast h2
  exact Int.sign_eq_neg_one_of_neg h3
 ·subst h1
  have h2:(z:Rat)=0:=O4
  have h3:z=0:=by exact_mod_cast h2
  subst h3;rfl
 ·rw [Ce h1]
  have:=Rat.mul_pos h1 hq
  have h2:(0:Rat)<z:=O4
  have h3:0<z:=by exact_mod_cast h2
  exact Int.sign_eq_one_of_pos h3
theorem Zm9{X Y:Int}(hY:0<Y)(p:List Int):fat X Y p=Gx (Zb p ((X:Rat)/(Y:Rat))):=by
 have:(0:Rat)<(Y:Rat):=by exact_mod_cast hY
 exact Zz6 (Rat.pow_pos this) (Zux hY p)
theorem Ygg{xs:List Int}{F:Nat}(hx:Tr xs)(h0:xs≠[])(hok:eok F (gA (Yy xs) (Yx (Yy xs))) (gB (Yy xs) (Yx (Yy xs)))):∃g:List Int,∀x,Zb xs x=Zb (sqf F xs) x*Zb g x:=by
 obtain⟨f1,f2,f3,f4,f5,f6⟩:=Ps (F:=F) hx h0 hok
 have hk:∃k:Int,∀i,cf xs i=k*cf (Yy xs) i:=by
  unfold Yy Ic
  split
  ·refine⟨-Ym xs,fun i=>?_⟩
   rw [Yr,←Hs xs i];grind
  ·refine⟨Ym xs,fun i=>?_⟩
   rw [←Hs xs i];grind
 obtain⟨k,hk⟩:=hk
 refine⟨(Ni F (Yy xs) (Yx (Yy xs))).map fun a=>k*a,fun x=>?_⟩
 have h1:Zb (Yy xs) x=Zb (sqf F xs) x*Zb (Ni F (Yy xs) (Yx (Yy xs))) x:=by
  have:=Fs (a:=1) (c:=0) (x:=Yy xs) (s:=sqf F xs) (y:=Ni F (Yy xs) (Yx (Yy xs))) (z:=[]) (fun t=>by
   have h2:=Kq (sqf F xs) (Ni F (Yy xs) (Yx (Yy xs))) t
   rw [←f4]at h2
   rw [h2];omega) x
  push_cast at this
  grind
 have h2:Zb xs x=Zb ((Yy xs).map fun a=>k*a) x:=On x _ _ fun i=>by rw [Xv];exact hk i
 rw [h2,Ze,Ze,h1];grind
theorem Yfj{ls:List (List Int)}{x:Rat}{f:List Int→Int}(h:∀p∈ls,Gx (Zb p x)=f p):vat (ls.map Zb) x=chg (ls.map f):=by
 unfold vat
 rw [List.map_map]
 exact congrArg chg (List.map_congr_left fun p hp=>h p hp)
theorem Yia{F:Nat}{xs:List Int}{X Y:Int}(hY:0<Y):cnt F xs X Y=vat ((chn F xs).map Zb) ((X:Rat)/(Y:Rat)):=
 (Yfj fun p _=>(Zm9 hY p).symm).symm
end Go.Sky

