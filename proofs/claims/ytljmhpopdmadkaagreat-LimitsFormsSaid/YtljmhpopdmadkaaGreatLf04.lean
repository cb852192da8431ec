/- Rules, arithmetic and contracts: part 5. No conditions but those that each theorem names. -/
import Derived.Test.YtljmhpopdmadkaaGreatLf03
import Derived.Scope
set_option linter.all false
namespace Go.Sky
def Psim(a b:List Int):Prop:=∃m n:Int,0<m∧0<n∧∀i,m*cf a i=n*cf b i
theorem Psim.refl(a:List Int):Psim a a:=⟨1,1,O3,O3,fun _=>rfl⟩
theorem Psim.symm{a b:List Int} : Psim a b→Psim b a:=fun⟨m,n,hm,hn,h⟩=>⟨n,m,hn,hm,fun i=>(h i).symm⟩
theorem Psim.trans{a b c:List Int} : Psim a b→Psim b c→Psim a c:=fun⟨m,n,hm,hn,h⟩ ⟨u,v,hu,hv,k⟩=>
 ⟨m*u,n*v,Int.mul_pos hm hu,Int.mul_pos hn hv,fun i=>by have h1:=h i;have h2:=k i;grind⟩
theorem Psim.sim{a b:List Int} : Psim a b→Sim a b:=fun⟨m,n,hm,hn,h⟩=>⟨m,n,O,O,h⟩
theorem Zch{p:List Int}(h:Tr p):Psim (Zz p) p:=by
 by_cases h0:p=[]
 ·subst h0;exact Psim.refl _
 ·exact⟨Yk p,1,by have:=Nj p;have:=Cv h h0;omega,O3,fun i=>by rw [Int.one_mul,Int.mul_comm];exact Hh p i⟩
theorem Zhb{a b:List Int}(ha:Tr a)(hb:Tr b)(h:Psim a b):Zz a=Zz b:=by
 by_cases h0:a=[]
 ·rw [h.sim.nil hb h0,h0]
 ·have h0':b≠[]:=fun e=>h0 (h.sim.symm.nil ha e)
  obtain⟨m,n,hm,hn,e⟩:=(Zch ha).trans (h.trans (Zch hb).symm)
  have hx:=Yy ha
  have hy:=Yy hb
  have hs:Sim (Zz a) (Zz b):=⟨m,n,O,O,e⟩
  have hx0:Zz a≠[]:=fun e=>h0 (List.eq_nil_of_length_eq_zero (by rw [←Zq,e];rfl))
  rcases Zm7 hx hy hx0 (Kf ha h0) (Kf hb h0') hs with h1 | h1
  ·exact h1
  ·exfalso
   have h2:=hx.mem hx0
   have h3:=e ((Zz a).length-1)
   have h4:=h1 ((Zz a).length-1)
   rw [h4]at h3 h2
   generalize cf (Zz b) ((Zz a).length-1)=z at h3 h2
   rw [Int.mul_neg]at h3
   have h5:(m+n)*z=0:=by rw [Int.add_mul];omega
   rcases Int.mul_eq_zero.1 h5 with h6 | h6<;>omega
def Bu(y:List Int):Int:=if cf y (y.length-1)<0 then-cf y (y.length-1)else cf y (y.length-1)
def rb(x y:List Int):Int:=if cf y (y.length-1)<0 then-cf x (x.length-1)else cf x (x.length-1)
def Zaj(x y:List Int):List Int:=Dg (Xj x (Bu y)) (shm y (rb x y) (x.length-y.length) y.length)
def Cl:Nat→List Int→List Int→List Int
 | 0,x,_=>x
 | f+1,x,y=>if x.length<y.length then x else Cl f (Zaj x y) y
theorem Zlf{x y:List Int}(hx:Tr x)(hy:0<y.length)(hl:y.length≤x.length):(Zaj x y).length<x.length:=by
 have h:=Bn (p:=Zaj x y) (n:=x.length-1) fun i hi=>by
  unfold Zaj
  rw [Eb,Xq,Yaj]
  by_cases he:i=x.length-1
  ·subst he
   rw [if_pos O,show x.length-1-(x.length-y.length)=y.length-1 by omega]
   unfold Bu rb
   split
   ·grind
   ·grind
  ·rw [Yd (p:=x) O,if_neg O];omega
 rw [show tzl (Zaj x y)=Zaj x y from Zac (Zke _ _)]at h
 omega
theorem Zxo(x:List Int){y:List Int}(t:Nat):Bu y*cf x t=(ps (mono (x.length-y.length) (rb x y))*ps y).c t+cf (Zaj x y) t:=by
 unfold Zaj
 rw [Zhm,Eb,Xq,Yaj,Oe]
 by_cases h1:x.length-y.length≤t
 ·rw [if_pos h1]
  by_cases h2:t<x.length-y.length+y.length
  ·rw [if_pos ⟨h1,h2⟩,Int.mul_comm (cf x t)];omega
  ·rw [if_neg O,Yd (p:=y) O,Int.mul_comm (cf x t)];omega
 ·rw [if_neg h1,if_neg O,Int.mul_comm (cf x t)];omega
theorem Zdl{y:List Int}(hy:Tr y)(h0:y≠[]):0<Bu y:=by
 have:=hy.mem h0
 unfold Bu;split<;>omega
theorem Zdi{y:List Int}(hy:Tr y)(h0:y≠[]):∀(f:Nat) (x:List Int),Tr x→x.length<y.length+f→Tr (Cl f x y)∧(Cl f x y).length<y.length∧∃(k:Nat) (s:List Int),∀t,Bu y^k*cf x t=(ps s*ps y).c t+cf (Cl f x y) t
 | 0,x,hx,hl=>⟨hx,hl,0,[],fun t=>by rw [Mi (fun t=>Yd (Nat.zero_le _)),Int.pow_zero];unfold Cl;omega⟩
 | f+1,x,hx,hl=>by
  unfold Cl
  by_cases h:x.length<y.length
  ·rw [if_pos h]
   exact⟨hx,h,0,[],fun t=>by rw [Mi (fun t=>Yd (Nat.zero_le _)),Int.pow_zero];omega⟩
  ·rw [if_neg h]
   have h1:=Zlf hx (List.length_pos_iff.2 h0) O
   obtain⟨h2,h3,k,s,hs⟩:=Zdi hy h0 f (Zaj x y) (Zke _ _) O
   refine⟨h2,h3,k+1,Dg (Xj s 1) (Xj (mono (x.length-y.length) (rb x y)) (-(Bu y^k))),fun t=>?_⟩
   have h4:=hs t
   have h5:=Zxo x (y:=y) t
   rw [Zhl,Int.pow_succ]
   generalize Bu y^k=K at *
   generalize Bu y=a at *
   generalize (ps (mono (x.length-y.length) (rb x y))*ps y).c t=M at *
   generalize (ps s*ps y).c t=S at *
   generalize cf (Zaj x y) t=X at *
   generalize cf (Cl f (Zaj x y) y) t=Z at *
   have:K*a*cf x t=K*(a*cf x t):=O4
   rw [this,h5];grind
theorem Znt(l:Int)(h:l≠0):∀n:Nat,(l<0∧n%2=1→l^n<0)∧(¬(l<0∧n%2=1)→0<l^n)
 | 0=>⟨fun h=>O,fun _=>by rw [Int.pow_zero];decide⟩
 | n+1=>by
  have ih:=Znt l h n
  rw [Int.pow_succ]
  by_cases h1:l<0
  ·by_cases h2:n%2=1
   ·have h3:=ih.1 ⟨h1,h2⟩
    exact⟨fun h=>O,fun _=>Int.mul_pos_of_neg_of_neg h3 h1⟩
   ·have h3:=ih.2 O
    exact⟨fun _=>Int.mul_neg_of_pos_of_neg h3 h1,fun h=>O⟩
  ·have h3:=ih.2 O
   exact⟨fun h=>O,fun _=>Int.mul_pos h3 O⟩
def Zcj(p:List Int):List Int:=Xj p (-1)
theorem Gz(p:List Int)(i:Nat):cf (Zcj p) i=- cf p i:=by unfold Zcj;rw [Xq];omega
theorem Zp4{p:List Int}(h:Tr p):Zz (Zcj p)=Zcj (Zz p):=by
 have hc:Yk (Zcj p)=Yk p:=by
  have d1:Yk (Zcj p)∣Yk p:=Gp fun i=>by
   have h:=Me (Zcj p) i
   rw [Gz]at h;exact Int.dvd_neg.1 h
  have d2:Yk p∣Yk (Zcj p):=Gp fun i=>by rw [Gz];exact Int.dvd_neg.2 (Me p i)
  exact Int.dvd_antisymm (Nj _) (Nj _) d1 d2
 refine(Yy (Pl _ _)).ext (Pl _ _) fun i=>?_
 show cf (Zz (Zcj p)) i=cf (Zcj (Zz p)) i
 rw [Gz,Bf,Gz,hc,Bf]
 exact Int.neg_ediv_of_dvd (Me p i)
theorem Zek{x y:List Int}{f:Nat}(hx:Tr x)(hy:Tr y)(h0:y≠[])(hl:y.length≤x.length)(hf:x.length<y.length+f):Zz (Zcj (Cl f x y))=Oj x y:=by
 obtain⟨tr,lr,k,s,hs⟩:=Zdi hy h0 f x hx hf
 have ly:=List.length_pos_iff.2 h0
 obtain⟨s2,hs2⟩:=Zeo (p:=x) ly hl _ (Nat.le_refl _)
 have hp:∀t,cf (Qe x y (x.length-y.length+1)) t=cf (Xx x y) t:=fun t=>by
  unfold Xx;rw [if_neg O,Ko]
 have lp:=Qs x h0
 have htp:=Ll (q:=y) hx
 have hlead:=hy.mem h0
 have hK:0<Bu y^k:=Int.pow_pos (Zdl hy h0)
 have hsg:=Znt (cf y (y.length-1)) hlead (x.length-y.length+1)
 generalize hL:cf y (y.length-1)^(x.length-y.length+1)=L at hs2 hsg
 have hL0:L≠0:=by rw [←hL];exact Mj hlead _
 generalize Bu y^k=K at hs hK
 have key:∀t,(ps (Dg (Xj s2 K) (Xj s L))*ps y).c t=cf (Dg (Xj (Cl f x y) L) (Xj (Xx x y) K)) t:=fun t=>by
  rw [Zhl,Eb,Xq,Xq,←hp t]
  have h1:=hs t
  have h2:=hs2 t
  generalize cf (Qe x y (x.length-y.length+1)) t=A at *
  grind
 have z:=Ycx hy h0 key fun t ht=>by
  rw [Eb,Xq,Xq,Yd (p:=Cl f x y) O,Yd (p:=Xx x y) O];omega
 have e:∀t,L*cf (Cl f x y) t=K*cf (Xx x y) t:=fun t=>by
  have h1:=key t
  rw [Mi z,Eb,Xq,Xq]at h1
  grind
 unfold Oj
 by_cases hc:cf y (y.length-1)<0∧(x.length-y.length+1)%2=1
 ·rw [if_pos hc]
  have hn:=hsg.1 hc
  exact Zhb (Pl _ _) htp ⟨-L,K,O,hK,fun t=>by rw [Gz,←e];grind⟩
 ·rw [if_neg hc]
  have hn:=hsg.2 hc
  rw [show Xj (Zz (Xx x y)) (-1)=Zcj (Zz (Xx x y))from rfl,←Zp4 htp]
  exact Zhb (Pl _ _) (Pl _ _) ⟨L,K,hn,hK,fun t=>by
   rw [Gz,Gz,Int.mul_neg,e,Int.mul_neg]⟩
theorem Zad{x y:List Int}(hx:Tr x):Tr (Oj x y):=by
 unfold Oj;split
 ·exact Yy (Ll hx)
 ·exact Pl _ _
theorem Ad{x y:List Int}(hx:Tr x):(Oj x y).length=(Xx x y).length:=by
 unfold Oj
 have h:Tr (Zz (Xx x y)):=Yy (Ll hx)
 split
 ·exact Zq _
 ·rw [←Zq (Xx x y)]
  exact((Zpw (Zz (Xx x y)) (by decide:(-1:Int)≠0)).len h (Pl _ _)).symm
theorem Zpq{n:Nat}{p:List Int}(h:Sz n p):Sz n (Xb p):=fun i=>by
 unfold Xb;rw [Dc];split
 ·rw [Int.natAbs_neg];exact Fc h i
 ·exact Fc h i
theorem Zhh{p:List Int}(h:Tr p)(h0:p≠[]):Xb p≠[]:=fun e=>h0 (List.eq_nil_of_length_eq_zero (by rw [←Qq h,e];rfl))
theorem Da{g:List Int}(h:Tr g)(h0:g≠[]):0<cf (Kk g) ((Kk g).length-1):=by
 have h1:=h.mem h0
 rw [Ae h,Dc]
 have:g.length≠0:=fun e=>h0 (List.eq_nil_of_length_eq_zero e)
 split<;>omega
theorem Zbn{p:List Int}(h:Tr p)(h0:p≠[]):Yk (Xb p)=1:=by unfold Xb;rw [Zfo];exact Kf h h0
theorem Zqa{p:List Int}(h:Tr p)(h1:Yk p=1)(h2:0<cf p (p.length-1)):Xb p=p:=by
 unfold Xb;rw [Zdn h1];unfold Kk;rw [if_neg O]
theorem Oi{xs:List Int}{F:Nat}(hx:Tr xs)(h0:xs≠[])(hok:eok F (gA (Xb xs) (Yh (Xb xs))) (gB (Xb xs) (Yh (Xb xs)))) :
  pdv (Xb xs) (Na F (Xb xs) (Yh (Xb xs)))∧Tr (sqf F xs)∧sqf F xs≠[]∧Xb xs=Xl (sqf F xs) (Na F (Xb xs) (Yh (Xb xs)))∧Na F (Xb xs) (Yh (Xb xs))≠[]∧Xb (sqf F xs)=sqf F xs:=by
 have hs:Tr (Xb xs):=Oy (Yy hx)
 have hd:Tr (Yh (Xb xs)):=Oh hs
 have hs0:=Zhh hx h0
 have hdv:=(Zbm hs hd hok).1
 have htg:=Zc8 (F:=F) hs hd
 have hg0:Na F (Xb xs) (Yh (Xb xs))≠[]:=fun e=>hs0 ((e▸hdv).zero hs)
 have hc:=Zhf hs hd hg0
 obtain⟨k,s,hk,h⟩:=hdv
 obtain⟨q,hq⟩:=gauss hc _ k s rfl hk h
 have hqe:Xb xs=Xl (tzl q) (Na F (Xb xs) (Yh (Xb xs))):=hs.ext (Xz _ _) fun i=>by
  rw [Ly,hq,Zx3]
 obtain⟨p1,p2⟩:=Zsg (Qo q) htg hg0
 have hsq:sqf F xs=tzl q:=by
  unfold sqf
  have p2':=p2
  rw [←hqe]at p2'
  exact p2'
 rw [←hqe]at p1
 have hq0:tzl q≠[]:=fun e=>hs0 (by rw [hqe,e,Ix])
 refine⟨p1,by rw [hsq];exact Qo q,by rw [hsq];exact hq0,by rw [hsq];exact hqe,hg0,?_⟩
 rw [hsq]
 refine Zqa (Qo q) ?_ ?_
 ·have h1:=Zbn hx h0
  have h2:Yk (tzl q)∣Yk (Xb xs):=Gp fun i=>by
   rw [hqe,Ly,PS.mul_c]
   have key:∀m,Yk (tzl q)∣Yi (fun k=>(ps (tzl q)).c k*(ps (Na F (Xb xs) (Yh (Xb xs)))).c (i-k)) m:=fun m=>by
    induction m with
    | zero=>exact Int.dvd_zero _
    | succ m ih=>rw [Yt];exact Int.dvd_add ih (Int.dvd_trans (Me (tzl q) m) (Int.dvd_mul_right _ _))
   exact key _
  rw [h1]at h2
  have h3:=Nj (tzl q)
  have h4:=Int.le_of_dvd O3 h2
  have h5:Yk (tzl q)≠0:=Cv (Qo q) hq0
  omega
 ·have l1:=List.length_pos_iff.2 hq0
  have l2:=List.length_pos_iff.2 hg0
  have h1:0<cf (Xb xs) ((Xb xs).length-1):=Da (Yy hx) (fun e=>h0 (List.eq_nil_of_length_eq_zero (by rw [←Zq,e];rfl)))
  have h2:0<cf (Na F (Xb xs) (Yh (Xb xs))) ((Na F (Xb xs) (Yh (Xb xs))).length-1):=Da (Zol F (Zgr hs hd) (Zgq hs hd)) (fun e=>hg0 (by unfold Na;rw [e];rfl))
  have h3:=Po (Qo q) htg hq0 hg0
  rw [←hqe]at h3
  have h4:cf (Xb xs) ((Xb xs).length-1)=cf (tzl q) ((tzl q).length-1)*cf (Na F (Xb xs) (Yh (Xb xs))) ((Na F (Xb xs) (Yh (Xb xs))).length-1):=by
   rw [h3,hqe,Ly,←hqe,show(tzl q).length+(Na F (Xb xs) (Yh (Xb xs))).length-1-1=((tzl q).length-1)+((Na F (Xb xs) (Yh (Xb xs))).length-1) by omega]
   exact Db (fun i hi=>Yd O) (fun i hi=>Yd O)
  rw [h4]at h1
  rcases Int.lt_or_le 0 (cf (tzl q) ((tzl q).length-1))with h5 | h5
  ·exact h5
  ·exfalso
   have:=Int.mul_nonpos_of_nonpos_of_nonneg h5 (Int.le_of_lt h2)
   omega
theorem Oa(p:List Int):(Yh p).length=p.length-1:=Yo _ _
theorem Zqv{p:List Int}{n:Nat}(hp:Sz n p)(hl:p.length≤25)(i:Nat):bl (cf p (i+1)*((i:Int)+1)).natAbs≤n+5:=by
 rcases Nat.lt_or_ge (i+1) p.length with h | h
 ·have h1:=Yw (cf p (i+1)) ((i:Int)+1)
  have h2:=hp (i+1)
  have h3:bl ((i:Int)+1).natAbs≤5:=(Xt 5 _).2 O
  omega
 ·rw [Yd h];simp [Lj]
theorem Bg(p:List Int)(i:Nat):cf (Yh p) i=cf p (i+1)*((i:Int)+1):=by
 unfold Yh
 rw [Lb]
 split
 ·rfl
 ·rw [Yd O,Int.zero_mul]
theorem Ep{p:List Int}{n:Nat}(hp:Sz n p)(hl:p.length≤25):Sz (n+5) (Yh p):=fun i=>by rw [Bg];exact Zqv hp hl i
theorem Zc4{p:List Int}(h:Vp p)(hz:∀i,i<p.length→bl (cf p (i+1)*((i:Int)+1)).natAbs≤65536):Vp (Yh p):=by
 refine⟨fun i=>?_,Oh h.tr,by rw [Oa];have:=h.len;omega⟩
 rw [Bg]
 by_cases hi:i<p.length
 ·exact hz i hi
 ·rw [Yd O];simp [Lj]
theorem sf_t{xs:List Int}(h:xs.length=0):Value.bool (decide (Ck xs))= .bool true:=congrArg Value.bool (decide_eq_true (.inl h))
theorem sf_i{xs:List Int}{n:Int}(h:xs.length≠0)(hn:n=(((xs.length+2)*(xs.length+2)*(Pi xs+16):Nat):Int)):Value.bool (decide (Ck xs))= .bool (decide (n≤65536)):=congrArg Value.bool (decide_eq_decide.2 (by
 subst hn
 show(xs.length=0∨(xs.length+2)*(xs.length+2)*(Pi xs+16)≤65536)↔_
 constructor
 ·intro h1;rcases h1 with h1 | h1
  ·exact absurd h1 h
  ·exact Int.ofNat_le.2 h1
 ·intro h1;exact .inr (Int.ofNat_le.1 h1)))
theorem Zup{x y:List Int}(h:(Xx x y).length=0):Oj x y=[]:=by
 have h1:Xx x y=[]:=List.eq_nil_of_length_eq_zero h
 unfold Oj;rw [h1];split<;>rfl
theorem Ybz{x y:List Int}(hl:y.length≤x.length)(h1:(cf y (y.length-1)).sign<0)(h2:((x.length:Int)-(y.length:Int)+1)%2=1):Oj x y=Zz (Xx x y):=by
 unfold Oj;rw [if_pos ⟨(Qv _).1 h1,O⟩]
theorem Zrp{x y:List Int}(h1:¬(cf y (y.length-1)).sign<0):Oj x y=Xj (Zz (Xx x y)) (-1):=by
 unfold Oj;rw [if_neg (fun h=>h1 ((Qv _).2 h.1))]
theorem Zro{x y:List Int}(hl:y.length≤x.length)(h2:¬((x.length:Int)-(y.length:Int)+1)%2=1):Oj x y=Xj (Zz (Xx x y)) (-1):=by
 unfold Oj;rw [if_neg (fun h=>h2 O)]
theorem Zpl{xs:List Int}{F:Nat}(hv:Vp xs)(h0:xs≠[])(h:Yby F xs):Vp (sqf F xs):=by
 obtain⟨_,_,_,h4,h5⟩:=h
 have hn:=Zwk hv
 unfold sqf Lx
 split
 ·exact⟨Sz.nil _,Tr.nil,O5⟩
 ·rename_i h6
  rcases h5 with h5 | h5
  ·exact absurd h5 h6
  ·have h7:=(Zbz h4).2 h5.1
   refine⟨?_,Qo _,?_⟩
   ·rw [←Zd3];exact(Zrn h7 h5.2.1 _).tzl
   ·have h8:=Mu (Ze3 (Xb xs) (Na F (Xb xs) (Yh (Xb xs))) ((Xb xs).length-(Na F (Xb xs) (Yh (Xb xs))).length+1))
    rw [Zd3,Zat]at h8
    have:=hn.len
    have:=(Zbz h4).1
    omega
theorem Zhu{xs:List Int}{F:Nat}(hv:Vp xs)(h:Yby F xs):(sqf F xs).length≤xs.length:=by
 obtain⟨_,_,_,h4,h5⟩:=h
 have hl:=Qq hv.tr
 unfold sqf Lx
 split
 ·exact Nat.zero_le _
 ·rename_i h6
  rcases h5 with h5 | h5
  ·exact absurd h5 h6
  ·have h8:=Mu (Ze3 (Xb xs) (Na F (Xb xs) (Yh (Xb xs))) ((Xb xs).length-(Na F (Xb xs) (Yh (Xb xs))).length+1))
   rw [Zd3,Zat]at h8
   have:=(Zbz h4).1
   have:=h5.1
   omega
theorem Zt1{L:List Int}{i:Nat}{n l s:Int}(hi:i<L.length)(h:(n,l)=(L.take i).foldl Nd (0,0))(hs:L.getD i 0=s)(h0:s=0):(n,l)=(L.take (i+1)).foldl Nd (0,0):=by
 rw [Pm 0 L i hi,Zcq,←h,hs];unfold Nd;rw [if_pos h0]
theorem Zt0{L:List Int}{i:Nat}{n l s:Int}(hi:i<L.length)(h:(n,l)=(L.take i).foldl Nd (0,0))(hs:L.getD i 0=s)(h0:s≠0)(h1:s=-l):(n+1,s)=(L.take (i+1)).foldl Nd (0,0):=by
 rw [Pm 0 L i hi,Zcq,←h,hs];unfold Nd;rw [if_neg h0];dsimp only;rw [if_pos h1]
theorem Ztz{L:List Int}{i:Nat}{n l s:Int}(hi:i<L.length)(h:(n,l)=(L.take i).foldl Nd (0,0))(hs:L.getD i 0=s)(h0:s≠0)(h1:¬s=-l):(n,s)=(L.take (i+1)).foldl Nd (0,0):=by
 rw [Pm 0 L i hi,Zcq,←h,hs];unfold Nd;rw [if_neg h0];dsimp only;rw [if_neg h1]
theorem Yd9{L:List Int}{i:Nat}{n l:Int}(hi:L.length≤i)(h:(n,l)=(L.take i).foldl Nd (0,0)):n=chg L:=by
 rw [List.take_of_length_le hi]at h
 unfold chg;rw [←h]
theorem Zxd(z:Int):-1≤z.sign∧z.sign≤1:=by
 rcases Int.lt_trichotomy z 0 with h | h | h
 ·rw [Int.sign_eq_neg_one_of_neg h];omega
 ·subst h;simp
 ·rw [Int.sign_eq_one_of_pos h];omega
theorem Zyy{α:Type}(d:α)(f:α→Int)(ls:List α){i:Nat}(h:i<ls.length):(ls.map f).getD i 0=f (ls.getD i d):=by
 simp [List.getD_eq_getElem?_getD,h]
def sgx(ls:List (SL×List Int))(f:List Int→Int):List Int:=ls.map fun z=>f z.2
theorem Zm9(ls:List (SL×List Int))(f:List Int→Int){i:Nat}(h:i<ls.length):(sgx ls f).getD i 0=f (ls.getD i ((none,0,0),[])).2:=Zyy _ _ _ h
theorem Zhv(ls:List (SL×List Int))(f:List Int→Int):(sgx ls f).length=ls.length:=List.length_map ..
def fr(p:List Int):Int:=(cf p (p.length-1)).sign
def fl(p:List Int):Int:=if p.length%2=0 then-(cf p (p.length-1)).sign else(cf p (p.length-1)).sign
def fat(x y:Int)(p:List Int):Int:=(pev p x y).sign
theorem fat_r(x y:Int)(p:List Int):-1≤fat x y p∧fat x y p≤1:=Zxd _
theorem Ziy:∀(f:Nat) {x y:List Int},Vp x→Vp y→cok f x y→∀p∈Ng f x y,Vp p
 | 0,x,y,hx,_,_,p,hp=>by rw [List.mem_singleton.1 hp];exact hx
 | f+1,x,y,hx,hy,h,p,hp=>by
  unfold Ng at hp
  split at hp
  ·rw [List.mem_singleton.1 hp];exact hx
  ·rcases h with h | h
   ·contradiction
   ·rcases List.mem_cons.1 hp with rfl | hp
    ·exact hx
    ·exact Ziy f hy (Zms hx h.1) h.2.2 p hp
theorem vp_chn{xs:List Int}{F:Nat}(hv:Vp xs)(h0:xs≠[])(hC:Di F xs):∀p∈Aw F xs,Vp p:=by
 obtain⟨h1,h2,h3⟩:=hC
 have hq:=Zpl hv h0 h1
 exact Ziy F hq (Lk (Zc4 hq (fun i hi=>h2 i (by have:=Zhu hv h1;omega)))) h3
def cnt(F:Nat)(xs:List Int)(x y:Int):Int:=chg ((Aw F xs).map (fat x y))
def sright(F:Nat)(xs:List Int):Int:=chg ((Aw F xs).map fr)
def sleft(F:Nat)(xs:List Int):Int:=chg ((Aw F xs).map fl)
theorem Zrt{ls:List (SL×List Int)}{C:List (List Int)}(h:ls.map Prod.snd=C)(f:List Int→Int):sgx ls f=C.map f:=by
 rw [←h,List.map_map];rfl
theorem Nk{ls:List (SL×List Int)}{C:List (List Int)}{p:List Int→Prop}(h:ls.map Prod.snd=C)(hp:∀q∈C,p q):∀z∈ls,p z.2:=fun z hz=>hp _ (h▸List.mem_map_of_mem hz)
theorem Ze5(L:List Int):0≤chg L∧chg L≤L.length:=by
 unfold chg
 suffices h:∀(l:List Int) (s:Int×Int),s.1≤(l.foldl Nd s).1∧(l.foldl Nd s).1≤s.1+l.length by
  have:=h L (0,0);simpa using this
 intro l
 induction l with
 | nil=>intro s;simp
 | cons x l ih=>
  intro s
  have h1:=ih (Nd s x)
  have h2:=chg1_n s x
  simp only [List.foldl_cons,List.length_cons]
  omega
theorem Zca:∀(f:Nat) (x y:List Int),(Ng f x y).length≤f+1
 | 0,x,y=>Nat.le_refl _
 | f+1,x,y=>by
  unfold Ng;split
  ·simp
  ·have:=Zca f y (Oj x y);simp;omega
def sm(xs:List Int)(i:Nat):Nat:=(xs.take i).foldl (fun m c=>max m c.natAbs) 0
theorem Bx{x y:Int}(h:¬Mv x y):Gl x y=x/Nt x y∧Hs x y=y/Nt x y∧Zxv x y=0:=⟨if_neg h,if_neg h,if_neg h⟩
theorem nr_bl{x y:Int}(h:¬Mv x y):bl (Gl x y).natAbs≤65536∧bl (Hs x y).natAbs≤65536:=by
 obtain⟨h1,h2,_⟩:=Bx h
 rw [h1,h2]
 unfold Mv at h
 omega
theorem Zqb{x y:Int}(h:¬Mv x y)(hy:0<y):0<Hs x y:=by
 rw [(Bx h).2.1];exact Zvn hy
abbrev R2:=Int×Int
def Qm(a b:R2):R2:=(Gl (Gl (a.1*b.2+b.1*a.2) (a.2*b.2)*1) (Hs (a.1*b.2+b.1*a.2) (a.2*b.2)*2),Hs (Gl (a.1*b.2+b.1*a.2) (a.2*b.2)*1) (Hs (a.1*b.2+b.1*a.2) (a.2*b.2)*2))
def Zb9(a b:R2):Prop:=¬Mv (a.1*b.2+b.1*a.2) (a.2*b.2)∧¬Mv (Gl (a.1*b.2+b.1*a.2) (a.2*b.2)*1) (Hs (a.1*b.2+b.1*a.2) (a.2*b.2)*2)
instance (a b:R2):Decidable (Zb9 a b):=by unfold Zb9;infer_instance
theorem Zvf{a b:R2}(h:Zb9 a b):Zxv (Gl (a.1*b.2+b.1*a.2) (a.2*b.2)*1) (Hs (a.1*b.2+b.1*a.2) (a.2*b.2)*2)=0:=(Bx h.2).2.2
def isp(cv:R2→Int)(hv:Int):Nat→R2→R2→Int→Int→Nat→List (R2×R2)
 | 0,_,_,_,_,_=>[]
 | f+1,a,b,fr,to,d=>if fr=to then []else if fr-to=1∧hv≤(d:Int)then [(a,b)]else isp cv hv f a (Qm a b) fr (cv (Qm a b)) (d+1) ++ isp cv hv f (Qm a b) b (cv (Qm a b)) to (d+1)
def Zs3(cv:R2→Int)(ok:R2→Prop)(hv:Int):Nat→R2→R2→Int→Int→Nat→Prop
 | 0,_,_,_,_,_=>False
 | f+1,a,b,fr,to,d=>fr=to∨(fr-to=1∧hv≤(d:Int))∨(d<1000∧Zb9 a b∧ok (Qm a b)∧Zs3 cv ok hv f a (Qm a b) fr (cv (Qm a b)) (d+1)∧Zs3 cv ok hv f (Qm a b) b (cv (Qm a b)) to (d+1))
instance ispDec (cv:R2→Int) (ok:R2→Prop) [DecidablePred ok] (hv:Int):∀f a b fr to d,Decidable (Zs3 cv ok hv f a b fr to d)
 | 0,_,_,_,_,_=>inferInstanceAs (Decidable False)
 | f+1,a,b,fr,to,d=>@instDecidableOr _ _ _ (@instDecidableOr _ _ _ (@instDecidableAnd _ _ _ (@instDecidableAnd _ _ _ (@instDecidableAnd _ _ _ (@instDecidableAnd _ _ (ispDec cv ok hv f a (Qm a b) fr (cv (Qm a b)) (d+1)) (ispDec cv ok hv f (Qm a b) b (cv (Qm a b)) to (d+1)))))))
def okQ(z:R2):Prop:=bl z.1.natAbs≤65536∧bl z.2.natAbs≤65536∧0<z.2
def evok(ls:List (SL×List Int))(m:R2):Prop:=∀z∈ls,¬Ml z.2 m.1 m.2
def cvx(ls:List (SL×List Int))(m:R2):Int:=chg (sgx ls (fat m.1 m.2))
def cvc(F:Nat)(xs:List Int)(m:R2):Int:=cnt F xs m.1 m.2
def evc(F:Nat)(xs:List Int)(m:R2):Prop:=∀p∈Aw F xs,¬Ml p m.1 m.2
def slow(a:R2):R2:=(Gl a.1 a.2,Hs a.1 a.2)
def sisol(F:Nat)(xs:List Int)(f:Nat)(a b:R2)(hq:Int):List (R2×R2):=isp (cvc F xs) hq f (slow a) (slow b) (cvc F xs a) (cvc F xs b) 0
def isOK(F:Nat)(xs:List Int)(f:Nat)(a b:R2)(hq:Int):Prop:=Di F xs∧evc F xs a∧evc F xs b∧¬Mv a.1 a.2∧¬Mv b.1 b.2∧Zs3 (cvc F xs) (evc F xs) hq f (slow a) (slow b) (cvc F xs a) (cvc F xs b) 0∧(sisol F xs f a b hq).length≤1000000
open Go.RowKit (Below)
variable {P:Program} {N:Nat} {sc:Nat→Prop} {env env':Qu} {H H':Hp} {Q Q':Exit→Act→World→Prop} {M:Nat→Prop}
def CalM(P:Program)(f:FuncId)(args:Array Value)(pre:List Pc){G:Type}(φ:G→Prop)(Zw:G→Value)(it its:G→Pc):Prop:=
 ∀w,(∀p∈pre,p.holds w)→Calls P f args w fun e w'=>∃g,e= .returned (Zw g)∧φ g∧Below w.heap.size w w'∧(it g).holds w'∧(∀b,(it g).fp b→w.heap.size≤b)∧
  (its g).holds w'∧(its g).own=false∧(∀b,(its g).fp b→w.heap.size≤b∨∃q∈pre,q.fp b)∧∀b,(it g).fp b→(its g).fp b→False
def FPostM(P:Program)(fn:Func)(w0:World)(pre:List Pc){G:Type}(φ:G→Prop)(Zw:G→Value)(it its:G→Pc):Exit→Act→World→Prop:=
 bodyPost P fn fun e w'=>∃g,e= .returned (Zw g)∧φ g∧Below w0.heap.size w0 w'∧(it g).holds w'∧(∀b,(it g).fp b→w0.heap.size≤b)∧
  (its g).holds w'∧(its g).own=false∧(∀b,(its g).fp b→w0.heap.size≤b∨∃q∈pre,q.fp b)∧∀b,(it g).fp b→(its g).fp b→False
abbrev qD (z:SL×Nat):Pc:=Ik (Ph z.1) z.2
abbrev JE:=(R2×R2)×(SL×SL×SL×SL)
abbrev encJ (y:JE):Value:= .agg #[.bool (decide (y.1.1.1<0)),Ph y.2.1,.bool (decide (y.1.1.2<0)),Ph y.2.2.1,.bool (decide (y.1.2.1<0)),Ph y.2.2.2.1,.bool (decide (y.1.2.2<0)),Ph y.2.2.2.2]
abbrev qJ (y:JE):Pc:=Cx qD [(y.2.1,y.1.1.1.natAbs),(y.2.2.1,y.1.1.2.natAbs),(y.2.2.2.1,y.1.2.1.natAbs),(y.2.2.2.2,y.1.2.2.natAbs)]
abbrev J0:JE:=(((0,0),(0,0)),((none,0,0),(none,0,0),(none,0,0),(none,0,0)))
end Go.Sky
namespace Go.Sky
variable {P:Program} {N:Nat} {sc:Nat→Prop} {env env':Qu} {H H':Hp} {Q Q':Exit→Act→World→Prop}
theorem Znd(w:World)(g:Nat)(cs:Array Value)(t:TypeId)(fr:Nat×Nat)(hg:w.heap[g]? = some (.cells cs t fr)):w.setRow g cs=w:=by
 obtain⟨hlt,hv⟩:=Array.getElem?_eq_some_iff.1 hg
 have h:(w.setRow g cs).heap=w.heap:=by
  apply Array.ext_getElem?
  intro i
  by_cases h:g=i
  ·subst h;rw [setRow_heap w g cs cs t fr hg,hg]
  ·unfold World.setRow
   dsimp only
   rw [Array.getElem?_modify,if_neg h]
 have e:w.setRow g cs={ w with heap:=(w.setRow g cs).heap }:=rfl
 rw [e,h]
theorem Zi4 {M:Nat→Prop} {o:Oper} {x y:Operand} {t tb:TypeId} {i b j k:Nat} {cs:Array Value} {v:Value} {vs:List Value} (ho:o.op= .store t x y) (hd:o.dst=none)
  (hx:ev env x=some (.pointer (some ⟨b,j,none⟩))) (hy:ev env y=some v) (hH:lk H i=some (Ge b tb cs)) (hv:v.cells=vs.toArray) (hk:∀w,(sizeOf t).run P w= .ok k w) (hlen:vs.length=k)
  (hfit:Nat.ble (j+vs.length) cs.size=true) (h1:∀u∈vs,u.oneCell'=true) (hset:Fo cs j vs=cs) :
  T P N sc M o env H (G:=Unit) (fun _=>True) (fun _=>env) (fun _=>H):=fun a w hs K Q hK=>by
 have hb:w.heap[b]? = some (.cells cs tb (0,0)):=hs.hold i _ hH
 have hst:=run_storeCells_at P b j tb vs 0 cs w hb (by simpa using Nat.le_of_ble_eq_true hfit) h1
 simp only [Nat.add_zero]at hst
 have hr:(execOp a.eval o).run P w= .ok .skip (w.setRow b (Fo cs j vs)):=by
  simp [execOp,ho,hs.ev hx,hs.ev hy,Instr.storeAt,Instr.sureAddr,storeVar,hv,hk,hlen,hst,Fo]
 rw [hset,Znd w b cs tb _ hb]at hr
 unfold Oper.wp
 rw [hr]
 show K (a.put o.dst _) _
 rw [hd]
 exact hK () _ _ trivial (hs.put_none undef) (Chg.refl _ _)
theorem Zx5{v:Value}{zs:List (SL×List Int)}{al:Bool}{r:List Pc}{z:SL×List Int}(i:Nat)(hi:lk H i=some (Mm 1 Hb (fun y:SL×List Int=>Yj 2 wv (Ph y.1) y.2) v zs))(hi0:Nat.beq i 0=false)(hz:z∈zs)(h:PreOk H al r):PreOk H al (Yj 2 wv (Ph z.1) z.2 :: r):=Znr (q:=fun y:SL×List Int=>Yj 2 wv (Ph y.1) y.2) (z:=z) i hi hi0 hz h
end Go.Sky
namespace Go.Sky
variable {P:Program} {N:Nat} {sc:Nat→Prop} {env env':Qu} {H H':Hp} {Q Q':Exit→Act→World→Prop}
def De(l:List Int):Array Value:=(l.map (Value.int .i64)).toArray
theorem Zui(l:List Int):(De l).size=l.length:=by simp [De]
theorem Zwj{l:List Int}{j:Nat}(h:j<l.length):(De l)[j]? = some (.int .i64 (l.getD j 0)):=by
 simp [De,List.getElem?_eq_getElem h,List.getD_eq_getElem?_getD]
theorem Zwi{l:List Int}{j:Nat}{v:Int}(h:j<l.length):Fo (De l) j [.int .i64 v]=De (l.set j v):=by
 unfold Fo De
 congr 1
 rw [List.set_eq_take_append_cons_drop,if_pos h,List.map_append,List.map_cons,List.map_take,List.map_drop]
 simp
theorem Ie {o:Oper} {x y:Operand} {t e:TypeId} {b off i k len:Nat} {kd:IntKind} {m:Int} (ho:o.op= .indexAddr t x y) (hx:ev env x=some (.pointer (some ⟨b,off,none⟩))) (hy:ev env y=some (.int kd m))
  (ht:P.underlying t=some (.array len e)) (hk:∀w,(sizeOf e).run P w= .ok k w) (him:m=(i:Int):=by omega) (hlt:i<len:=by omega):Ma P N sc o env H (.pointer (some ⟨b,off+i*k,none⟩)):=fun a w hs=>by
 subst him
 simp [execOp,ho,hs.ev hx,hs.ev hy,Instr.indexAt,Instr.sureAddr,asIntOf,run_underlying ht,hk,hlt,Ok]
theorem Zv5{o:Oper}{x:Operand}{t tb:TypeId}{i b j:Nat}{l:List Int}(ho:o.op= .load t x)(hx:ev env x=some (.pointer (some ⟨b,j,none⟩)))(hH:lk H i=some (box b tb (De l)))(ht:∀w,(isAgg t).run P w= .ok false w)(hj:j<l.length:=by omega) :
  Ma P N sc o env H (.int .i64 (l.getD j 0)):=d_lb ho hx hH ht (Zwj hj)
theorem d_lwa{o:Oper}{x:Operand}{t tb:TypeId}{i b k:Nat}{l:List Int}(ho:o.op= .load t x)(hx:ev env x=some (.pointer (some ⟨b,0,none⟩)))(hH:lk H i=some (box b tb (De l)))(ht:∀w,(isAgg t).run P w= .ok true w)(hk:∀w,(sizeOf t).run P w= .ok k w)(hl:l.length=k) :
  Ma P N sc o env H (.agg (De l)):=
 Ztm (vs:=l.map (Value.int .i64)) ho hx hH ht hk (by simpa using hl) (fun n u hu=>by rw [Nat.zero_add];simpa [De]using hu)
theorem Zpp {M:Nat→Prop} {o:Oper} {x y:Operand} {t tb:TypeId} {i b j:Nat} {l:List Int} {v:Int} {w0:World} {M0:Nat→Prop} (ho:o.op= .store t x y) (hd:o.dst=none)
  (hx:ev env x=some (.pointer (some ⟨b,j,none⟩))) (hy:ev env y=some (.int .i64 v)) (hH:lk H i=some (box b tb (De l))) (hk:∀w,(sizeOf t).run P w= .ok 1 w) 
  (h0:lk H 0=some (Qf w0 M0)) (hw:∀b,w0.heap.size≤b→sc b) (hM:M b) (hi0:i≠0:=by decide) (hj:j<l.length:=by omega) :
  T P N sc M o env H (G:=Unit) (fun _=>True) (fun _=>env) (fun _=>(i,box b tb (De (l.set j v))) :: H):=by
 rw [←Zwi hj]
 exact Zi5 (vs:=[.int .i64 v]) ho hd hx hy hH hi0 rfl hk rfl (by rw [Zui];exact hj) (fun u hu=>Zo (by rw [List.mem_singleton.1 hu];rfl)) rfl h0 hw hM
theorem Zwp {M:Nat→Prop} {o:Oper} {x y:Operand} {t tb:TypeId} {i b k:Nat} {cs:Array Value} {l:List Int} {w0:World} {M0:Nat→Prop} (ho:o.op= .store t x y) (hd:o.dst=none)
  (hx:ev env x=some (.pointer (some ⟨b,0,none⟩))) (hy:ev env y=some (.agg (De l))) (hH:lk H i=some (box b tb cs)) (hk:∀w,(sizeOf t).run P w= .ok k w) (hl:l.length=k) (hc:cs.size=k)
  (h0:lk H 0=some (Qf w0 M0)) (hw:∀b,w0.heap.size≤b→sc b) (hM:M b) (hi0:i≠0:=by decide) :
  T P N sc M o env H (G:=Unit) (fun _=>True) (fun _=>env) (fun _=>(i,box b tb (De l)) :: H):=
 Zi5 (vs:=l.map (Value.int .i64)) ho hd hx hy hH hi0 rfl hk (by simpa using hl) O8 (fun u hu=>Zo (by obtain⟨z,_,rfl⟩:=List.mem_map.1 hu;rfl)) (by
  unfold Fo De
  rw [List.take_zero,List.nil_append,Nat.zero_add,List.drop_eq_nil_of_le O8,List.append_nil]) h0 hw hM
def Au:Nat→Nat→Nat
 | _,0=>1
 | 0,_+1=>0
 | n+1,k+1=>Au n k+Au n (k+1)
theorem Zq0:∀n k,Au n k≤2^n
 | 0,0=>O3
 | _+1,0=>Nat.two_pow_pos _
 | 0,_+1=>Nat.zero_le _
 | n+1,k+1=>by
  have h1:=Zq0 n k
  have h2:=Zq0 n (k+1)
  show Au n k+Au n (k+1)≤2^(n+1)
  rw [Nat.pow_succ];omega
theorem Zl5:∀n k,n<k→Au n k=0
 | _,0,h=>absurd h (Nat.not_lt_zero _)
 | 0,_+1,_=>rfl
 | n+1,k+1,h=>by
  show Au n k+Au n (k+1)=0
  rw [Zl5 n k O,Zl5 n (k+1) O]
structure Tab (l:List Int) (n k:Nat):Prop where
 len:l.length=625
 eq:∀r c,r<25→c<25→l.getD (r*25+c) 0=if r<n∨(r=n∧c<k)then(Au r c:Int)else 0
theorem Zjv{l:List Int}{i j:Nat}{v:Int}(hi:i<l.length:=by omega):(l.set i v).getD j 0=if j=i then v else l.getD j 0:=by
 rw [List.getD_eq_getElem?_getD,List.getD_eq_getElem?_getD,List.getElem?_set]
 by_cases h:i=j
 ·subst h;rw [if_pos rfl,if_pos hi,if_pos rfl];rfl
 ·rw [if_neg h,if_neg (fun e=>h e.symm)]
theorem Tab.start:Tab (List.replicate 625 0) 0 0:=⟨List.length_replicate,fun r c hr hc=>by
 rw [if_neg O,List.getD_eq_getElem?_getD]
 rw [List.getElem?_replicate]
 split<;>rfl⟩
theorem Tab.step{l:List Int}{n k:Nat}{v:Int}(h:Tab l n k)(hn:n<25)(hk:k<25)(hv:v=(Au n k:Int)){j:Nat}(hj:j=n*25+k):Tab (l.set j v) n (k+1):=by
 subst hj
 have hl:=h.len
 refine⟨by rw [List.length_set];exact hl,fun r c hr hc=>?_⟩
 rw [Zjv,h.eq r c hr hc]
 by_cases e:r*25+c=n*25+k
 ·have e1:r=n:=O
  have e2:c=k:=O
  subst e1;subst e2
  rw [if_pos rfl,if_pos O];exact hv
 ·rw [if_neg e]
  have:¬(r=n∧c=k):=fun⟨e1,e2⟩=>e (by rw [e1,e2])
  by_cases g:r<n∨(r=n∧c<k)
  ·rw [if_pos g,if_pos O]
  ·rw [if_neg g,if_neg O]
theorem Tab.row{l:List Int}{n k:Nat}(h:Tab l n k)(hk:n<k):Tab l (n+1) 0:=⟨h.len,fun r c hr hc=>by
 rw [h.eq r c hr hc]
 by_cases g:r<n∨(r=n∧c<k)
 ·rw [if_pos g,if_pos O]
 ·rw [if_neg g]
  by_cases g2:r<n+1∨(r=n+1∧c<0)
  ·rw [if_pos g2,Zl5 r c O];rfl
  ·rw [if_neg g2]⟩
theorem Tab.get{l:List Int}{n k r c:Nat}(h:Tab l n k)(hr:r<25)(hc:c<25)(hlt:r<n∨(r=n∧c<k)){j:Nat}(hj:j=r*25+c):l.getD j 0=(Au r c:Int):=by
 rw [hj,h.eq r c hr hc,if_pos hlt]
theorem Zty{n k:Nat}(hn:1≤n:=by omega)(hk:1≤k:=by omega):Au n k=Au (n-1) (k-1)+Au (n-1) k:=by
 obtain⟨m,rfl⟩:∃m,n=m+1:=⟨n-1,O⟩
 obtain⟨j,rfl⟩:∃j,k=j+1:=⟨k-1,O⟩
 rfl
end Go.Sky
namespace Go.Sky
structure Tb (l:List Int) (n k:Nat):Prop where
 len:l.length=36
 eq:∀r c,r<6→c<6→l.getD (r*6+c) 0=if r<n∨(r=n∧c<k)then(Au r c:Int)else 0
theorem Tb.start:Tb (List.replicate 36 0) 0 0:=⟨List.length_replicate,fun r c hr hc=>by
 rw [if_neg O,List.getD_eq_getElem?_getD]
 rw [List.getElem?_replicate]
 split<;>rfl⟩
theorem Tb.step{l:List Int}{n k:Nat}{v:Int}(h:Tb l n k)(hn:n<6)(hk:k<6)(hv:v=(Au n k:Int)){j:Nat}(hj:j=n*6+k):Tb (l.set j v) n (k+1):=by
 subst hj
 have hl:=h.len
 refine⟨by rw [List.length_set];exact hl,fun r c hr hc=>?_⟩
 rw [Zjv,h.eq r c hr hc]
 by_cases e:r*6+c=n*6+k
 ·have e1:r=n:=O
  have e2:c=k:=O
  subst e1;subst e2
  rw [if_pos rfl,if_pos O];exact hv
 ·rw [if_neg e]
  have:¬(r=n∧c=k):=fun⟨e1,e2⟩=>e (by rw [e1,e2])
  by_cases g:r<n∨(r=n∧c<k)
  ·rw [if_pos g,if_pos O]
  ·rw [if_neg g,if_neg O]
theorem Tb.row{l:List Int}{n k:Nat}(h:Tb l n k)(hk:n<k):Tb l (n+1) 0:=⟨h.len,fun r c hr hc=>by
 rw [h.eq r c hr hc]
 by_cases g:r<n∨(r=n∧c<k)
 ·rw [if_pos g,if_pos O]
 ·rw [if_neg g]
  by_cases g2:r<n+1∨(r=n+1∧c<0)
  ·rw [if_pos g2,Zl5 r c O];rfl
  ·rw [if_neg g2]⟩
theorem Tb.get{l:List Int}{n k r c:Nat}(h:Tb l n k)(hr:r<6)(hc:c<6)(hlt:r<n∨(r=n∧c<k)){j:Nat}(hj:j=r*6+c):l.getD j 0=(Au r c:Int):=by
 rw [hj,h.eq r c hr hc,if_pos hlt]
theorem Zl6{n k:Nat}(h:n≤5:=by omega):Au n k≤32:=Nat.le_trans (Zq0 n k) (Nat.le_trans (Nat.pow_le_pow_right O3 h) O3)
theorem Zv8 {P:Program} {t e:TypeId} {n:Nat} {it ie:TypeInfo} {z:Value} (parts:List (Nat×Value)) {cells:Array Value} (hi:P.info? t=some it) (hu:P.underlying t=some (.array n e)) (hz:it.zero=some z) (he:P.info? e=some ie)
  (hf:Instr.fill (fun i=>some (i*ie.size,ie.size)) z.cells parts=some cells):P.built t parts=some cells:=by
 unfold Program.built
 simp only [hi,hu,hz,he,hf]
variable {P:Program} {N:Nat} {sc:Nat→Prop} {env env':Qu} {H H':Hp} {Q Q':Exit→Act→World→Prop}
def Yv{α:Type _}(i:Nat)(a b c:α):α:=match i with
 | 0=>a
 | 1=>b
 | _=>c
theorem Zne{α:Type _}{p:α→Prop}{i:Nat}{a b c:α}(h0:p a)(h1:p b)(h2:p c):p (Yv i a b c):=by
 unfold Yv;split<;>assumption
theorem Ztn {o:Oper} {x y:Operand} {t e:TypeId} {i:Nat} {kd:IntKind} {m:Int} {v0 v1 v2:Value} (ho:o.op= .index t x y) (hx:ev env x=some (.agg #[v0,v1,v2])) (hy:ev env y=some (.int kd m))
  (ht:P.underlying t=some (.array 3 e)) (hk:∀w,(sizeOf e).run P w= .ok 1 w) (ha:∀w,(isAgg e).run P w= .ok false w) (him:m=(i:Int)) (hlt:i<3:=by omega):Ma P N sc o env H (Yv i v0 v1 v2):=fun a w hs=>by
 subst him
 have h3:i=0∨i=1∨i=2:=O
 rcases h3 with rfl | rfl | rfl<;>simp [execOp,ho,hs.ev hx,hs.ev hy,Instr.index,asIntOf,run_underlying ht,hk,ha,asAgg,part,Yv]
theorem Zki {α:Type} {k:Nat} {enc:α→Value} {v0 v1 v2:Value} {x0 x1 x2:List α} (i p0 p1 p2 n:Nat) (h0:lk H p0=some (Yj k enc v0 x0)) (h1:lk H p1=some (Yj k enc v1 x1)) (h2:lk H p2=some (Yj k enc v2 x2))
  (n0:Nat.beq p0 0=false) (n1:Nat.beq p1 0=false) (n2:Nat.beq p2 0=false):∀a w,Sat N sc env H a w→Sat N sc env ((n,Yj k enc (Yv i v0 v1 v2) (Yv i x0 x1 x2)) :: H) a w:=by
 match i with
 | 0=>exact Zg3 p0 n h0 n0 rfl (fun w h=>h) (fun b h=>h) rfl
 | 1=>exact Zg3 p1 n h1 n1 rfl (fun w h=>h) (fun b h=>h) rfl
 | i+2=>exact Zg3 p2 n h2 n2 rfl (fun w h=>h) (fun b h=>h) rfl
theorem Zoy{α:Type}{o:Oper}{x:Operand}{t tb:TypeId}{i b j k:Nat}{enc:α→Value}{l:List α}(d0:α)(ho:o.op= .load t x)(hx:ev env x=some (.pointer (some ⟨b,0+j*k,none⟩)))(hH:lk H i=some (box b tb (cellsOf enc l).toArray))(he:Enc P t k enc)(hj:j<l.length) :
  Ma P N sc o env H (enc (l.getD j d0)):=fun a w hs=>by
 have hi:l[j]? = some (l.getD j d0):=by simp [List.getD,List.getElem?_eq_getElem hj]
 have h:=he.load (l.getD j d0) w ⟨b,0+j*k,none⟩ (fun q u hq=>by
  have h1:=Kl he.cells l j _ hi q u hq
  rw [Ok,hs.boxc hH]
  simpa using h1)
 have hev:=hs.ev hx
 generalize enc (l.getD j d0)=r at h ⊢
 generalize (⟨b,0+j*k,none⟩:Addr)=ad at h hev
 simp [execOp,ho,hev,Instr.loadAt,Instr.sureAddr,h]
theorem Zwr {α:Type} {M:Nat→Prop} {o:Oper} {x y:Operand} {t tb:TypeId} {i b j k:Nat} {enc:α→Value} {l:List α} (z:α) {w0:World} {M0:Nat→Prop} (ho:o.op= .store t x y) (hd:o.dst=none)
  (hx:ev env x=some (.pointer (some ⟨b,0+j*k,none⟩))) (hy:ev env y=some (enc z)) (hH:lk H i=some (box b tb (cellsOf enc l).toArray)) (he:Enc P t k enc) (hj:j<l.length)
  (h0:lk H 0=some (Qf w0 M0)) (hw:∀b,w0.heap.size≤b→sc b) (hM:M b) (hi0:i≠0:=by decide) :
  T P N sc M o env H (G:=Unit) (fun _=>True) (fun _=>env) (fun _=>(i,box b tb (cellsOf enc (l.set j z)).toArray) :: H):=by
 have hl:=Yb he.cells l
 have hz:(enc z).cells.toList.length=k:=by simp [he.cells]
 have hle:(j+1)*k≤l.length*k:=Nat.mul_le_mul_right _ hj
 rw [Nat.succ_mul]at hle
 refine Zi5 (vs:=(enc z).cells.toList) ho hd hx hy hH hi0 rfl he.size hz (by rw [hz,List.size_toArray,hl];omega) (fun u hu=>Zo (he.one z u hu)) ?_ h0 hw hM
 unfold Fo
 rw [Nat.zero_add,hz,Za7 he.cells l j z hj]
end Go.Sky
namespace Go.Sky
variable {P:Program} {N:Nat} {sc:Nat→Prop} {env env':Qu} {H H':Hp} {Q Q':Exit→Act→World→Prop}
theorem Ztl{α:Type}{o:Oper}{x:Operand}{t tb te:TypeId}{i b k q:Nat}{enc:α→Value}{l:List α}(ho:o.op= .load t x)(hx:ev env x=some (.pointer (some ⟨b,0,none⟩)))(hH:lk H i=some (box b tb (cellsOf enc l).toArray))(he:Enc P te q enc)(ht:∀w,(isAgg t).run P w= .ok true w)(hk:∀w,(sizeOf t).run P w= .ok k w)(hl:l.length*q=k) :
  Ma P N sc o env H (.agg (cellsOf enc l).toArray):=
 Ztm (vs:=cellsOf enc l) ho hx hH ht hk (by rw [Yb he.cells l];exact hl) (fun n u hu=>by rw [Nat.zero_add];simpa using hu)
theorem Zi6 {α:Type} {M:Nat→Prop} {o:Oper} {x y:Operand} {t tb te:TypeId} {i b k q:Nat} {cs:Array Value} {enc:α→Value} {l:List α} {w0:World} {M0:Nat→Prop} (ho:o.op= .store t x y) (hd:o.dst=none)
  (hx:ev env x=some (.pointer (some ⟨b,0,none⟩))) (hy:ev env y=some (.agg (cellsOf enc l).toArray)) (hH:lk H i=some (box b tb cs)) (he:Enc P te q enc) (hk:∀w,(sizeOf t).run P w= .ok k w) (hl:l.length*q=k) (hc:cs.size=k)
  (h0:lk H 0=some (Qf w0 M0)) (hw:∀b,w0.heap.size≤b→sc b) (hM:M b) (hi0:i≠0:=by decide) :
  T P N sc M o env H (G:=Unit) (fun _=>True) (fun _=>env) (fun _=>(i,box b tb (cellsOf enc l).toArray) :: H):=by
 have h9:(cellsOf enc l).length=k:=by rw [Yb he.cells l];exact hl
 refine Zi5 (vs:=cellsOf enc l) ho hd hx hy hH hi0 rfl hk h9 (by rw [h9,Nat.zero_add,hc];exact Nat.le_refl _) (fun u hu=>?_) (by
  unfold Fo
  rw [List.take_zero,List.nil_append,Nat.zero_add,List.drop_eq_nil_of_le O8,List.append_nil]) h0 hw hM
 unfold cellsOf at hu
 obtain⟨z,_,hz⟩:=List.mem_flatMap.1 hu
 exact Zo (he.one z u hz)
end Go.Sky
namespace Go.Sky
variable {P:Program} {N:Nat} {sc:Nat→Prop} {env env':Qu} {H H':Hp} {Q Q':Exit→Act→World→Prop}
abbrev Pv:=(Int×Int×Int)×(SL×List Int)×(SL×List Int)×(SL×List Int)
abbrev Cf (g:Pv):Value:= .agg #[.int .i64 g.1.1,.int .i64 g.1.2.1,.int .i64 g.1.2.2,Ph g.2.1.1,Ph g.2.2.1.1,Ph g.2.2.2.1]
abbrev qC (z:SL×List Int):Pc:=Yj 1 Ym (Ph z.1) z.2
abbrev qG (g:Pv):Pc:=Cx qC [g.2.1,g.2.2.1,g.2.2.2]
abbrev G0:Pv:=((0,0,0),((none,0,0),[]),((none,0,0),[]),((none,0,0),[]))
theorem Pd{v:Value}{ps:List Pv}{g:Pv}{z:SL×List Int}(j n:Nat)(hj:lk H j=some (Mm 6 Cf qG v ps))(hj0:Nat.beq j 0=false)(hg:g∈ps)(hz:z∈[g.2.1,g.2.2.1,g.2.2.2]):∀a w,Sat N sc env H a w→Sat N sc env ((n,Yj 1 Ym (Ph z.1) z.2) :: H) a w:=
 Zg3 j n hj hj0 rfl (fun w h=>h.2 g hg z hz) (fun b hb=> .inr ⟨g,hg,z,hz,hb⟩) rfl
end Go.Sky
namespace Go.Sky
open Go.ChangeShapes Go.WideShapes Go.ChangeAt Go.RowKit Go.Joins Go.Deep
open Go.Proofs
variable {P:Program} {W:World} {H:Type} {enc:TypeId×Value→H}
theorem Zqk{n:Int}(h:(Lit.int .i64 n).wf=true):Xo n:=by
 simp [Lit.wf,IntKind.has,IntKind.min,IntKind.max,IntKind.bits,IntKind.signed]at h
 exact⟨O,O⟩
theorem Zyk {t ti ts e:TypeId} {f0 f1 f2 f3 f4 f5:Field} {v:Value} {d:DataW H} {p:List MemPlace} (ht:P.underlying t=some (.struct #[f0,f1,f2,f3,f4,f5])) (hts:P.cellTypes P.depth t=some [ti,ti,ti,ts,ts,ts])
  (h0:f0.type=ti) (h1:f1.type=ti) (h2:f2.type=ti) (h3:f3.type=ts) (h4:f4.type=ts) (h5:f5.type=ts) (o0:f0.offset=0) (o1:f1.offset=1) (o2:f2.offset=2) (o3:f3.offset=3) (o4:f4.offset=4) (o5:f5.offset=5)
  (hi:P.underlying ti=some (.int .i64)) (hs:P.underlying ts=some (.slice e)) (he:P.underlying e=some (.int .i64)) (hc:P.cellsOf e=1) (hci:P.cellsOf ti=1) (hcs:P.cellsOf ts=1) (hC:P.cellsOf t=6)
  {r:Reach} {b0:Nat} (hv:Value.okWide P W r b0 t v) (h:DataW.Trod enc P W 0 (fun _=>true) true t v d p) :
  ∃(fr to ov:Int) (sx sy sz:SL) (x y z:List Int),v= .agg #[.int .i64 fr,.int .i64 to,.int .i64 ov,Ph sx,Ph sy,Ph sz]∧(Yj 1 Ym (Ph sx) x).holds W∧(Yj 1 Ym (Ph sy) y).holds W∧(Yj 1 Ym (Ph sz) z).holds W∧
   Xo fr∧Xo to∧Xo ov∧(∀a∈x,Xo a)∧(∀a∈y,Xo a)∧(∀a∈z,Xo a):=by
 unfold Value.okWide at hv
 rw [ht]at hv
 simp only at hv
 obtain⟨cs,rfl,hsz,ts',hts',-,hcell⟩:=hv
 rw [hts]at hts'
 cases hts'
 obtain⟨fuel,hf⟩:=h
 obtain⟨xs,n,_,hx,hl,hlen,hfd⟩:=DataW.trod_struct ht hf
 have sl:∀(c:Value) (w:DataW H×List MemPlace),Cell.okWide P W r b0 ts c→DataW.trod enc P W 0 (fun _=>true) true n ts [c]=some w→∃(s:SL) (l:List Int),c=Ph s∧(Yj 1 Ym (Ph s) l).holds W∧∀a∈l,Xo a:=fun c w hv ht=>by
  have hv':Value.okWide P W r b0 ts c:=by unfold Value.okWide;rw [hs];exact hv
  obtain⟨a0,len,cap,rfl⟩:=okWide_slice hs hv'
  obtain⟨l,h1,h2⟩:=Zp7 (enc:=enc) hs he hc hv' (d:=w.1) (p:=w.2) ⟨n,by simpa [Value.cells]using ht⟩
  exact⟨(a0,len,cap),l,rfl,h1,h2⟩
 rw [hC]at hsz
 obtain⟨l⟩:=cs
 have hsz:l.length=6:=by simpa using hsz
 match l,hsz with
 | [c0,c1,c2,c3,c4,c5],_=>
 match xs,hlen with
 | [y0,y1,y2,y3,y4,y5],_=>
 have e0:=hfd 0 f0 rfl
 have e1:=hfd 1 f1 rfl
 have e2:=hfd 2 f2 rfl
 have e3:=hfd 3 f3 rfl
 have e4:=hfd 4 f4 rfl
 have e5:=hfd 5 f5 rfl
 rw [h0,o0,hci]at e0
 rw [h1,o1,hci]at e1
 rw [h2,o2,hci]at e2
 rw [h3,o3,hcs]at e3
 rw [h4,o4,hcs]at e4
 rw [h5,o5,hcs]at e5
 obtain⟨m0,q0,w0⟩:=DataW.trod_int hi e0
 obtain⟨m1,q1,w1⟩:=DataW.trod_int hi e1
 obtain⟨m2,q2,w2⟩:=DataW.trod_int hi e2
 obtain⟨u3,k3,v3⟩:=hcell 3 c3 rfl
 obtain⟨u4,k4,v4⟩:=hcell 4 c4 rfl
 obtain⟨u5,k5,v5⟩:=hcell 5 c5 rfl
 have k3:u3=ts:=by simpa using k3.symm
 have k4:u4=ts:=by simpa using k4.symm
 have k5:u5=ts:=by simpa using k5.symm
 subst k3
 subst k4
 subst k5
 obtain⟨sx,x,rfl,hx1,hx2⟩:=sl c3 _ v3 (by simpa [Value.cells]using e3)
 obtain⟨sy,y,rfl,hy1,hy2⟩:=sl c4 _ v4 (by simpa [Value.cells]using e4)
 obtain⟨sz,z,rfl,hz1,hz2⟩:=sl c5 _ v5 (by simpa [Value.cells]using e5)
 simp [Value.cells]at q0 q1 q2
 subst q0
 subst q1
 subst q2
 exact⟨m0,m1,m2,sx,sy,sz,x,y,z,rfl,hx1,hy1,hz1,Zqk w0.2,Zqk w1.2,Zqk w2.2,hx2,hy2,hz2⟩
end Go.Sky
namespace Go.Sky
variable {P:Program} {N:Nat} {sc:Nat→Prop} {env env':Qu} {H H':Hp} {Q Q':Exit→Act→World→Prop} {M:Nat→Prop}
@[reducible] def lk2 {α:Type} : List (Nat×α)→Nat→Option α
 | [],_=>none
 | (k,v) :: r,n=>match Nat.beq k n with
  | true=>some v
  | false=>lk2 r n
theorem Zqg{α:Type} : ∀(e:List (Nat×α)) (n:Nat),lk2 e n=lk e n
 | [],_=>rfl
 | (k,v) :: r,n=>by unfold lk2 lk;cases Nat.beq k n<;>simp [Zqg r n]
@[reducible] def ev2 (e:Qu):Operand→Option Value
 | .tmp t=>lk2 e t
 | .const v=>some v
 | .global g=>some (.pointer (some ⟨g,0,none⟩))
 | .func f=>some (.func (.func f) #[] #[])
theorem ev2_eq(e:Qu)(x:Operand):ev2 e x=ev e x:=by cases x<;>simp [ev2,ev,Zqg]
@[reducible] def nth {α:Type} : List α→Nat→Option α
 | [],_=>none
 | x :: r,n=>match n with
  | 0=>some x
  | n+1=>nth r n
theorem Zp9{α:Type} : ∀(l:List α) (n:Nat),nth l n=l[n]?
 | [],n=>by simp [nth]
 | x :: r,0=>by simp [nth]
 | x :: r,n+1=>by simp [nth,Zp9 r n]
@[reducible] def ltb (a b:Nat):Bool:=match Nat.ble b a with
 | true=>false
 | false=>true
theorem Of{a b:Nat}(h:ltb a b=true):Nat.blt a b=true:=by
 unfold ltb at h
 cases hb:Nat.ble b a with
 | true=>rw [hb]at h;cases h
 | false=>
  have h1:¬b≤a:=fun h2=>by rw [Nat.ble_eq_true_of_le h2]at hb;cases hb
  show Nat.ble (a+1) b=true
  exact Nat.ble_eq_true_of_le O
@[reducible] def neb (a b:Nat):Bool:=match Nat.beq a b with
 | true=>false
 | false=>true
theorem Bz{a b:Nat}(h:neb a b=true):a≠b:=fun e=>by
 subst e;unfold neb at h;rw [Nat.beq_refl]at h;cases h
class Som {α:Type} (a:Option α) (b:outParam α):Prop where h:a=some b
instance {α:Type} {b:α} : Som (some b) b:=⟨rfl⟩
class TB (a:Bool):Prop where h:a=true
instance:TB true:=⟨rfl⟩
theorem Som.e{x:Operand}{v:Value}(h:Som (ev2 env x) v):ev env x=some v:=(ev2_eq env x).symm.trans h.h
theorem Som.l{α:Type}{e:List (Nat×α)}{n:Nat}{v:α}(h:Som (lk2 e n) v):lk e n=some v:=(Zqg e n).symm.trans h.h
theorem Som.n{α:Type}{l:List α}{n:Nat}{v:α}(h:Som (nth l n) v):l.toArray[n]? = some v:=by
 have:=(Zp9 l n).symm.trans h.h;simpa using this
class AndO (s q:Prop) (r:outParam Prop):Prop where h:r→s∧q
instance (priority:=low) {s q:Prop} : AndO s q (s∧q):=⟨id⟩
instance {q:Prop} : AndO True q q:=⟨fun h=>⟨trivial,h⟩⟩
class Und (P:Program) (t:TypeId) (d:outParam TypeDesc):Prop where h:P.underlying t=some d
class Siz (P:Program) (t:TypeId) (k:outParam Nat):Prop where h:∀w,(sizeOf t).run P w= .ok k w
class Agg (P:Program) (t:TypeId) (b:outParam Bool):Prop where h:∀w,(isAgg t).run P w= .ok b w
class EncT {α:Type} (P:Program) (t:TypeId) (k:Nat) (enc:α→Value):Prop where h:Enc P t k enc
class RdI (P:Program) (H:Hp) (v:Value) (i:outParam Nat) {α:outParam Type} (k:outParam Nat) (enc:outParam (α→Value)) (xs:outParam (List α)):Prop where
 h:∃p,lk H i=some p∧Rd p k enc v xs
instance {α:Type} {v:Value} {i k:Nat} {enc:α→Value} {xs:List α} : RdI P ((i,Yj k enc v xs) :: H) v i k enc xs:=⟨_,Yn _ _ _,Zh⟩
instance {α:Type} {v:Value} {i k:Nat} {enc:α→Value} {xs:List α} {e:TypeId} [h:EncT P e k enc]:RdI P ((i,Nf k e enc v xs) :: H) v i k enc xs:=⟨_,Yn _ _ _,Xa h.h⟩
instance {β:Type} {v:Value} {i k:Nat} {enc:β→Value} {q:β→Pc} {zs:List β} : RdI P ((i,Mm k enc q v zs) :: H) v i k enc zs:=⟨_,Yn _ _ _,Zp⟩
instance (priority:=low) {α:Type} {v:Value} {i j k:Nat} {p:Pc} {enc:α→Value} {xs:List α} [h:RdI P H v i k enc xs] [hn:TB (neb j i)]:RdI P ((j,p) :: H) v i k enc xs:=
 ⟨by obtain⟨q,h1,h2⟩:=h.h;exact⟨q,by rw [Zs _ _ (Bz hn.h)];exact h1,h2⟩⟩
class BxI (H:Hp) (b:Nat) (i:outParam Nat) (t:outParam TypeId) (l:outParam (List Value)):Prop where h:lk H i=some (box b t l.toArray)
instance {b i:Nat} {t:TypeId} {l:List Value} : BxI ((i,box b t l.toArray) :: H) b i t l:=⟨Yn _ _ _⟩
instance (priority:=low) {b i j:Nat} {t:TypeId} {p:Pc} {l:List Value} [h:BxI H b i t l] [hn:TB (neb j i)]:BxI ((j,p) :: H) b i t l:=⟨by rw [Zs _ _ (Bz hn.h)];exact h.h⟩
class RxI (H:Hp) (b:Nat) (i:outParam Nat) (t:outParam TypeId) (l:outParam (List Value)):Prop where h:lk H i=some (Ge b t l.toArray)
instance {b i:Nat} {t:TypeId} {l:List Value} : RxI ((i,Ge b t l.toArray) :: H) b i t l:=⟨Yn _ _ _⟩
instance (priority:=low) {b i j:Nat} {t:TypeId} {p:Pc} {l:List Value} [h:RxI H b i t l] [hn:TB (neb j i)]:RxI ((j,p) :: H) b i t l:=⟨by rw [Zs _ _ (Bz hn.h)];exact h.h⟩
class DI (P:Program) (N:Nat) (sc:Nat→Prop) (op:Go.Op) (env:Qu) (H:Hp) (v:outParam Value) (s:outParam Prop):Prop where
 h:s→∀{d:Option Tmp} {ty:TypeId} {pos:String} {af:Array Edge} {g:Option (Nat×Bool)},Ma P N sc ⟨d,op,ty,pos,af,g⟩ env H v
section
variable {x y c:Operand} {v u:Value} {t t':TypeId} {k:IntKind} {m n:Int}
instance [h:Som (ev2 env x) v]:DI P N sc (.move x) env H v True:=⟨fun _=>Zox rfl h.e⟩
instance [h:Som (ev2 env x) v]:DI P N sc (.assign x) env H v True:=⟨fun _=>d_as rfl h.e⟩
instance {i:Nat} {vs:List Value} [h:Som (ev2 env x) (.tuple vs.toArray)] [h2:Som (nth vs i) v]:DI P N sc (.extract x i) env H v True:=⟨fun _=>Zqw rfl h.e h2.n⟩
instance {ad:Addr} [h:Som (ev2 env x) (.pointer (some ad))]:DI P N sc (.nilCheck x) env H (.pointer (some ad)) True:=⟨fun _=>d_nc rfl h.e⟩
instance {p:Prop} [Decidable p] [h:Som (ev2 env x) (.bool (decide p))]:DI P N sc (.unOp .not t x) env H (.bool (decide (¬p))) True:=⟨fun _=>Ztj rfl h.e⟩
instance (priority:=low) {b:Bool} [h:Som (ev2 env x) (.bool b)]:DI P N sc (.unOp .not t x) env H (.bool (!b)) True:=⟨fun _=>Xk rfl h.e⟩
instance (priority:=high) [h:Som (ev2 env x) (.bool true)]:DI P N sc (.unOp .not t x) env H (.bool false) True:=⟨fun _=>Xk rfl h.e⟩
instance (priority:=high) [h:Som (ev2 env x) (.bool false)]:DI P N sc (.unOp .not t x) env H (.bool true) True:=⟨fun _=>Xk rfl h.e⟩
instance [h:Som (ev2 env c) (.bool true)] [h1:Som (ev2 env x) v]:DI P N sc (.pick c x y) env H v True:=⟨fun _=>Ydq rfl h.e h1.e⟩
instance [h:Som (ev2 env c) (.bool false)] [h1:Som (ev2 env y) v]:DI P N sc (.pick c x y) env H v True:=⟨fun _=>Ydr rfl h.e h1.e⟩
instance [h:Som (ev2 env x) (.int k m)] [h1:Som (ev2 env y) (.int k n)]:DI P N sc (.binOp .lss t x y t') env H (.bool (decide (m<n))) True:=⟨fun _=>Yaa rfl h.e h1.e⟩
instance [h:Som (ev2 env x) (.int k m)] [h1:Som (ev2 env y) (.int k n)]:DI P N sc (.binOp .leq t x y t') env H (.bool (decide (m≤n))) True:=⟨fun _=>d_leq rfl h.e h1.e⟩
instance [h:Som (ev2 env x) (.int k m)] [h1:Som (ev2 env y) (.int k n)]:DI P N sc (.binOp .gtr t x y t') env H (.bool (decide (n<m))) True:=⟨fun _=>Zj1 rfl h.e h1.e⟩
instance [h:Som (ev2 env x) (.int k m)] [h1:Som (ev2 env y) (.int k n)]:DI P N sc (.binOp .geq t x y t') env H (.bool (decide (n≤m))) True:=⟨fun _=>d_geq rfl h.e h1.e⟩
instance [h:Som (ev2 env x) (.int k m)] [h1:Som (ev2 env y) (.int k n)]:DI P N sc (.binOp .eql t x y t') env H (.bool (decide (m=n))) True:=⟨fun _=>Yae rfl h.e h1.e⟩
instance [h:Som (ev2 env x) (.int k m)] [h1:Som (ev2 env y) (.int k n)]:DI P N sc (.binOp .neq t x y t') env H (.bool (decide (m≠n))) True:=⟨fun _=>d_neq rfl h.e h1.e⟩
instance {a b:Bool} [h:Som (ev2 env x) (.bool a)] [h1:Som (ev2 env y) (.bool b)] [h2:Und P t .bool]:DI P N sc (.binOp .eql t x y t') env H (.bool (a == b)) True:=⟨fun _=>d_eqb rfl h.e h1.e h2.h⟩
instance {a b:Bool} [h:Som (ev2 env x) (.bool a)] [h1:Som (ev2 env y) (.bool b)] [h2:Und P t .bool]:DI P N sc (.binOp .neq t x y t') env H (.bool (a != b)) True:=⟨fun _=>d_neb rfl h.e h1.e h2.h⟩
instance [h:Som (ev2 env x) (.int .i64 m)] [h1:Som (ev2 env y) (.int .i64 n)]:DI P N sc (.binOp .add t x y t') env H (.int .i64 (m+n)) (-9223372036854775808≤m+n∧m+n≤9223372036854775807):=⟨fun s=>Yag rfl h.e h1.e s⟩
instance [h:Som (ev2 env x) (.int .i64 m)] [h1:Som (ev2 env y) (.int .i64 n)]:DI P N sc (.binOp .sub t x y t') env H (.int .i64 (m-n)) (-9223372036854775808≤m-n∧m-n≤9223372036854775807):=⟨fun s=>d_sub rfl h.e h1.e s⟩
instance [h:Som (ev2 env x) (.int .i64 m)] [h1:Som (ev2 env y) (.int .i64 n)]:DI P N sc (.binOp .mul t x y t') env H (.int .i64 (m*n)) (-9223372036854775808≤m*n∧m*n≤9223372036854775807):=⟨fun s=>d_mul rfl h.e h1.e s⟩
instance {i kk:Nat} {α:Type} {enc:α→Value} {xs:List α} {e:TypeId} [h:Som (ev2 env x) v] [h1:RdI P H v i kk enc xs] [h2:Und P t (.slice e)]:DI P N sc (.call { callee:= .builtin .len,args:=#[x],argTypes:=#[t] }) env H (.int .i64 xs.length) True:=
 ⟨fun _=>by obtain⟨p,h3,h4⟩:=h1.h;exact d_len rfl h.e h3 h4 h2.h⟩
instance {s:ByteArray} [h:Som (ev2 env x) (.string s)] [h2:Und P t .string]:DI P N sc (.call { callee:= .builtin .len,args:=#[x],argTypes:=#[t] }) env H (.int .i64 s.size) True:=⟨fun _=>d_lens rfl h.e h2.h⟩
end
@[reducible] def eqb (a b:Nat):Bool:=match Nat.beq a b with
 | true=>true
 | false=>false
theorem eqb_eq{a b:Nat}(h:eqb a b=true):a=b:=by
 unfold eqb at h;cases hb:Nat.beq a b with
 | true=>exact Nat.eq_of_beq_eq_true hb
 | false=>rw [hb]at h;cases h
@[reducible] def lenq {α:Type} : List α→Nat→Bool
 | [],n=>match n with
  | 0=>true
  | _+1=>false
 | _ :: r,n=>match n with
  | 0=>false
  | n+1=>lenq r n
theorem Zdy{α:Type} : ∀{l:List α} {n:Nat},lenq l n=true→l.length=n
 | [],0,_=>rfl
 | [],n+1,h=>by simp [lenq]at h
 | _ :: r,0,h=>by simp [lenq]at h
 | _ :: r,n+1,h=>by
  have:=Zdy (l:=r) (n:=n) (by simpa [lenq]using h)
  simp [this]
@[reducible] def fit0 {α β:Type} : List α→List β→Bool
 | _,[]=>true
 | l,_ :: vs=>match l with
  | []=>false
  | _ :: r=>fit0 r vs
@[reducible] def fits {α β:Type} : List α→Nat→List β→Bool
 | [],j,vs=>match j with
  | 0=>fit0 ([]:List α) vs
  | _+1=>false
 | x :: r,j,vs=>match j with
  | 0=>fit0 (x :: r) vs
  | j+1=>fits r j vs
theorem Zlo{α β:Type} : ∀{vs:List β} {l:List α},fit0 l vs=true→vs.length≤l.length
 | [],_,_=>O5
 | _ :: vs,[],h=>by simp [fit0]at h
 | _ :: vs,_ :: r,h=>by
  have:=Zlo (vs:=vs) (l:=r) (by simpa [fit0]using h)
  simp;omega
theorem Zs5{α β:Type} : ∀{l:List α} {j:Nat} {vs:List β},fits l j vs=true→j+vs.length≤l.length
 | [],0,vs,h=>by have:=Zlo (by simpa [fits]using h);simpa using this
 | [],j+1,vs,h=>by simp [fits]at h
 | x :: r,0,vs,h=>by have:=Zlo (l:=x :: r) (by simpa [fits]using h);simpa using this
 | x :: r,j+1,vs,h=>by
  have:=Zs5 (l:=r) (j:=j) (by simpa [fits]using h)
  simp;omega
@[reducible] def seg {α:Type} : List α→Nat→Nat→List α
 | [],_,_=>[]
 | x :: r,j,k=>match j with
  | j+1=>seg r j k
  | 0=>match k with
   | 0=>[]
   | k+1=>x :: seg r 0 k
theorem Zga{α:Type} : ∀(l:List α) (j k n:Nat) (u:α),(seg l j k)[n]? = some u→l[j+n]? = some u
 | [],_,_,_,_,h=>by simp [seg]at h
 | x :: r,j+1,k,n,u,h=>by
  have:=Zga r j k n u (by simpa [seg]using h)
  rw [show j+1+n=(j+n)+1 by omega];simpa using this
 | x :: r,0,0,n,u,h=>by simp [seg]at h
 | x :: r,0,k+1,0,u,h=>by simpa [seg]using h
 | x :: r,0,k+1,n+1,u,h=>by
  have:=Zga r 0 k n u (by simpa [seg]using h)
  rw [Nat.zero_add]at this ⊢;simpa using this
class LEv {α:Type} (l:List α) (r:outParam (List α)):Prop where h:l=r
instance {α:Type} : LEv ([]:List α) []:=⟨rfl⟩
instance {α:Type} {a:α} {l r:List α} [h:LEv l r]:LEv (a :: l) (a :: r):=⟨by rw [h.h]⟩
class AddN (a b:Nat) (c:outParam Nat):Prop where h:a+b=c
instance (priority:=low) {a b:Nat} : AddN a b (a+b):=⟨rfl⟩
instance {b:Nat} : AddN 0 b b:=⟨Nat.zero_add b⟩
instance {a:Nat} : AddN a 0 a:=⟨rfl⟩
class Df (α:Type) (d:outParam α):Prop where t:True
instance:Df Int 0:=⟨trivial⟩
instance:Df Nat 0:=⟨trivial⟩
section
variable {x y:Operand} {v u:Value} {t tb:TypeId} {b j i k f:Nat} {l vs ws:List Value}
instance [h:Som (ev2 env x) (.pointer (some ⟨b,j,none⟩))] [h1:Agg P t false] [h2:BxI H b i tb l] [h3:Som (nth l j) v]:DI P N sc (.load t x) env H v True:=⟨fun _=>d_lb rfl h.e h2.h h1.h h3.n⟩
instance [h:Som (ev2 env x) (.pointer (some ⟨b,j,none⟩))] [h1:Agg P t true] [h2:BxI H b i tb l] [h4:Siz P t k] [h3:LEv (seg l j k) vs] [h5:TB (lenq vs k)]:DI P N sc (.load t x) env H (.agg vs.toArray) True:=
 ⟨fun _=>Ztm rfl h.e h2.h h1.h h4.h (Zdy h5.h) (fun n u hu=>by rw [←h3.h]at hu;simpa using Zga l j k n u hu)⟩
instance [h:Som (ev2 env x) (.pointer (some ⟨b,j,none⟩))] [h1:Agg P t false] [h2:RxI H b i tb l] [h3:Som (nth l j) v]:DI P N sc (.load t x) env H v True:=⟨fun _=>d_lr rfl h.e h2.h h1.h h3.n⟩
instance [h:Som (ev2 env x) (.pointer (some ⟨b,j,none⟩))] [h1:Agg P t true] [h2:RxI H b i tb l] [h4:Siz P t k] [h3:LEv (seg l j k) vs] [h5:TB (lenq vs k)]:DI P N sc (.load t x) env H (.agg vs.toArray) True:=
 ⟨fun _=>d_lra rfl h.e h2.h h1.h h4.h (Zdy h5.h) (fun n u hu=>by rw [←h3.h]at hu;simpa using Zga l j k n u hu)⟩
instance {fs:List Field} {c q bo:Nat} {nm tag pk:String} {ft:TypeId} {em:Bool} [h:Som (ev2 env x) (.pointer (some ⟨b,j,none⟩))] [h1:Und P t (.struct fs.toArray)] [h2:Som (nth fs f) ⟨nm,ft,q,em,tag,pk,bo⟩] [h3:Siz P ft k] [h5:TB (neb k 0)] [h4:AddN j q c] :
  DI P N sc (.fieldAddr t x f) env H (.pointer (some ⟨b,c,none⟩)) True:=⟨fun _=>by
 obtain⟨k,rfl⟩:=Nat.exists_eq_succ_of_ne_zero (Bz h5.h)
 exact d_fa rfl h.e h1.h h2.n h3.h rfl h4.h⟩
instance {α:Type} {enc:α→Value} {xs:List α} {e:TypeId} {kd:IntKind} {n:Nat} [h:Som (ev2 env x) v] [h1:Som (ev2 env y) (.int kd (n:Int))] [h2:RdI P H v i k enc xs] [h3:Und P t (.slice e)] [h4:Siz P e k] :
  DI P N sc (.indexAddr t x y) env H (.pointer (some (ead v n k))) (n<xs.length):=⟨fun s=>by obtain⟨p,h5,h6⟩:=h2.h;exact Yp rfl h.e h1.e h5 h6 h3.h h4.h rfl s⟩
instance {α:Type} {enc:α→Value} {xs:List α} {e:TypeId} {kd:IntKind} {n:Nat} [h:Som (ev2 env x) v] [h1:Som (ev2 env y) (.int kd (@OfNat.ofNat Int n (@instOfNat n)))] [hl:TB (eqb n n)] [h2:RdI P H v i k enc xs] [h3:Und P t (.slice e)] [h4:Siz P e k] :
  DI P N sc (.indexAddr t x y) env H (.pointer (some (ead v (@OfNat.ofNat Nat n (instOfNatNat n)) k))) (@OfNat.ofNat Nat n (instOfNatNat n)<xs.length):=⟨fun s=>by obtain⟨p,h5,h6⟩:=h2.h;exact Yp rfl h.e h1.e h5 h6 h3.h h4.h rfl s⟩
instance {α:Type} {enc:α→Value} {xs:List α} {n:Nat} {d0:α} [h:Som (ev2 env x) (.pointer (some (ead v n k)))] [h2:RdI P H v i k enc xs] [h3:EncT P t k enc] [h4:Df α d0] :
  DI P N sc (.load t x) env H (enc (xs.getD n d0)) (n<xs.length):=⟨fun s=>by obtain⟨p,h5,h6⟩:=h2.h;exact Od d0 rfl h.e h5 h6 h3.h s⟩
instance {fs:List Field} {q bo:Nat} {nm tag pk:String} {ft:TypeId} {em:Bool} [h:Som (ev2 env x) (.agg l.toArray)] [h1:Und P t (.struct fs.toArray)] [h2:Som (nth fs f) ⟨nm,ft,q,em,tag,pk,bo⟩] [h3:Agg P ft false] [h4:Som (nth l q) v] :
  DI P N sc (.field t x f) env H v True:=⟨fun _=>d_fld rfl h.e h1.h h2.n h3.h h4.n⟩
end
class Adv (n:Nat) (p:Prop) (q:outParam Prop):Prop where h:q→p
theorem go(n:Nat){p q:Prop}[h:Adv n p q](k:q):p:=h.h k
@[reducible] def dsto (l:List Oper) (j:Nat):Option Nat:=match nth l j with
 | some o=>o.dst
 | none=>none
theorem Gy{l:List Oper}{j e:Nat}(h:Som (dsto l j) e):(l.toArray[j]?).bind (·.dst)=some e:=by
 have h:=h.h
 unfold dsto at h
 rw [Zp9]at h
 simp only [List.getElem?_toArray]
 cases hb:l[j]? with
 | none=>rw [hb]at h;cases h
 | some o=>rw [hb]at h;exact h
section
variable {n:Nat} {q r s:Prop} {c x y:Code} {id:Nat} {l:List Oper} {ops:Array Oper} {rest:List Oper} {d j t:Nat} {op:Go.Op} {ty:TypeId} {pos:String} {af:Array Edge} {v:Value} {e:Exit} {b:Bool}
instance {p:Prop} : Adv 0 p p:=⟨fun k=>k⟩
instance [h:Adv n (E P N sc x (Exit.then (y.wp P Q) Q) env H) q]:Adv (n+1) (E P N sc (.seq x y) Q env H) q:=⟨fun k=>e_seq (h.h k)⟩
instance [h:Adv n (L P N sc l.toArray l Q env H) q]:Adv (n+1) (E P N sc (.region id l.toArray false) Q env H) q:=⟨fun k=>e_reg (h.h k)⟩
instance [h:Adv n (X N sc .normal Q env H) q]:Adv (n+1) (E P N sc .skip Q env H) q:=⟨fun k=>e_skip (h.h k)⟩
instance [h:Adv n (E P N sc c (Exit.inBlock id Q) env H) q]:Adv (n+1) (E P N sc (.block id c) Q env H) q:=⟨fun k=>Ydl (h.h k)⟩
instance [h:Adv n (X N sc (.exit id) Q env H) q]:Adv (n+1) (E P N sc (.exit id) Q env H) q:=⟨fun k=>e_exit (h.h k)⟩
instance [h:Adv n (X N sc .ret Q env H) q]:Adv (n+1) (E P N sc .ret Q env H) q:=⟨fun k=>e_ret (h.h k)⟩
instance {o:Operand} [h1:Som (ev2 env o) (.bool true)] [h:Adv n (E P N sc x Q env H) q]:Adv (n+1) (E P N sc (.cond o x y) Q env H) q:=⟨fun k=>Ydj h1.e (h.h k)⟩
instance {o:Operand} [h1:Som (ev2 env o) (.bool false)] [h:Adv n (E P N sc y Q env H) q]:Adv (n+1) (E P N sc (.cond o x y) Q env H) q:=⟨fun k=>Ydk h1.e (h.h k)⟩
instance [h:Adv n (E P N sc y Q env H) q]:Adv (n+1) (X N sc .normal (Exit.then (y.wp P Q) Q) env H) q:=⟨fun k=>x_then (h.h k)⟩
instance {K:Act→World→Prop} [h:Adv n (X N sc .ret Q env H) q]:Adv (n+1) (X N sc .ret (Exit.then K Q) env H) q:=⟨fun k=>x_ret (h.h k)⟩
instance {K:Act→World→Prop} [h:Adv n (X N sc (.exit id) Q env H) q]:Adv (n+1) (X N sc (.exit id) (Exit.then K Q) env H) q:=⟨fun k=>x_exit (h.h k)⟩
instance [h:Adv n (X N sc .normal Q env H) q]:Adv (n+1) (X N sc .normal (Exit.inBlock id Q) env H) q:=⟨fun k=>x_bn (h.h k)⟩
instance [h:Adv n (X N sc .ret Q env H) q]:Adv (n+1) (X N sc .ret (Exit.inBlock id Q) env H) q:=⟨fun k=>x_br (h.h k)⟩
instance [h:Adv n (X N sc .normal Q env H) q]:Adv (n+1) (X N sc (.exit id) (Exit.inBlock id Q) env H) q:=⟨fun k=>x_be (h.h k)⟩
instance (priority:=low) {id':Nat} [hn:TB (neb id' id)] [h:Adv n (X N sc (.exit id') Q env H) q]:Adv (n+1) (X N sc (.exit id') (Exit.inBlock id Q) env H) q:=⟨fun k=>x_bo (Bz hn.h) (h.h k)⟩
instance [h:Adv n (X N sc .normal Q env H) q]:Adv (n+1) (L P N sc ops [] Q env H) q:=⟨fun k=>l_nil (h.h k)⟩
instance [h1:DI P N sc op env H v s] [h2:TB (ltb d N)] [h:Adv n (L P N sc ops rest Q ((d,v) :: env) H) q] [h3:AndO s q r]:Adv (n+1) (L P N sc ops (⟨some d,op,ty,pos,af,none⟩ :: rest) Q env H) r:=
 ⟨fun k=>dt (h1.h (h3.h k).1) (h.h (h3.h k).2) (Of h2.h)⟩
instance [hj:Som (dsto l j) t] [hg:Som (lk2 env t) (.bool b)] [h4:TB (ltb t N)] [h1:DI P N sc op env H v s] [h2:TB (ltb d N)] [h:Adv n (L P N sc l.toArray rest Q ((d,v) :: env) H) q] [h3:AndO s q r]:Adv (n+1) (L P N sc l.toArray (⟨some d,op,ty,pos,af,some (j,b)⟩ :: rest) Q env H) r:=
 ⟨fun k=>Gh (h1.h (h3.h k).1) (Gy hj) hg.l (h.h (h3.h k).2) (Of h4.h) (Of h2.h)⟩
instance [hj:Som (dsto l j) t] [hg:Som (lk2 env t) (.bool false)] [h4:TB (ltb t N)] [h2:TB (ltb d N)] [h:Adv n (L P N sc l.toArray rest Q ((d,undef) :: env) H) q]:Adv (n+1) (L P N sc l.toArray (⟨some d,op,ty,pos,af,some (j,true)⟩ :: rest) Q env H) q:=
 ⟨fun k=>gsk (Gy hj) hg.l rfl (Of h4.h) (Of h2.h) (h.h k)⟩
instance [hj:Som (dsto l j) t] [hg:Som (lk2 env t) (.bool true)] [h4:TB (ltb t N)] [h2:TB (ltb d N)] [h:Adv n (L P N sc l.toArray rest Q ((d,undef) :: env) H) q]:Adv (n+1) (L P N sc l.toArray (⟨some d,op,ty,pos,af,some (j,false)⟩ :: rest) Q env H) q:=
 ⟨fun k=>gsk (Gy hj) hg.l rfl (Of h4.h) (Of h2.h) (h.h k)⟩
instance [hj:Som (dsto l j) t] [hg:Som (lk2 env t) undef] [h2:TB (ltb d N)] [h:Adv n (L P N sc l.toArray rest Q ((d,undef) :: env) H) q]:Adv (n+1) (L P N sc l.toArray (⟨some d,op,ty,pos,af,some (j,b)⟩ :: rest) Q env H) q:=
 ⟨fun k=>gsku (Gy hj) hg.l (Of h2.h) (h.h k)⟩
end
end Go.Sky
namespace Go.Sky
variable {P:Program} {N:Nat} {sc:Nat→Prop} {env env':Qu} {H H':Hp} {Q Q':Exit→Act→World→Prop} {M:Nat→Prop}
class Hw (w0:World) (sc:Nat→Prop):Prop where h:∀b,w0.heap.size≤b→sc b
class EvI (env:Qu) (xs:List Operand) (vs:outParam (List Value)):Prop where h:EvL env xs vs
instance:EvI env [] []:=⟨trivial⟩
instance {x:Operand} {r:List Operand} {v:Value} {vs:List Value} [h:Som (ev2 env x) v] [h2:EvI env r vs]:EvI env (x :: r) (v :: vs):=⟨⟨h.e,h2.h⟩⟩
class CalF (P:Program) (f:FuncId):Prop where h:∀args w,(callFunc f args).run P w= .ok (.enter f args) w
class AddI (n:Nat) (l:List Pc) (H:Hp) (H':outParam Hp):Prop where h:adds n l H=H'
instance {n:Nat} : AddI n [] H H:=⟨rfl⟩
instance {n:Nat} {p:Pc} {r:List Pc} [h:AddI (n+1) r H H']:AddI n (p :: r) H ((n,p) :: H'):=⟨by rw [←h.h]⟩
class PreL (P:Program) (H:Hp) (al:Bool) (ids:List Nat) (pre:outParam (List Pc)):Prop where h:PreOk H al pre
class RoI (p:Pc):Prop where h:p.own=false
instance {α:Type} {k:Nat} {enc:α→Value} {v:Value} {xs:List α} : RoI (Yj k enc v xs):=⟨rfl⟩
instance {β:Type} {k:Nat} {enc:β→Value} {q:β→Pc} {v:Value} {zs:List β} : RoI (Mm k enc q v zs):=⟨rfl⟩
instance {b:Nat} {t:TypeId} {cs:Array Value} : RoI (Ge b t cs):=⟨rfl⟩
class LnI (P:Program) (al:Bool) (i:Nat) (p:Pc) (q:outParam Pc):Prop where
 h:i≠0→∀{H r},lk H i=some p→PreOk H al r→PreOk H al (q :: r)
theorem Zpb{i:Nat}(h:i≠0):Nat.beq i 0=false:=by
 cases hb:Nat.beq i 0 with
 | true=>exact absurd (Nat.eq_of_beq_eq_true hb) h
 | false=>rfl
instance {al:Bool} {i:Nat} {p:Pc} [h:RoI p]:LnI P al i p p:=⟨fun h0 _ _ hi hr=>Zk i hi (Zpb h0) h.h hr⟩
instance {α:Type} {i k:Nat} {e:TypeId} {enc:α→Value} {v:Value} {xs:List α} [h:EncT P e k enc]:LnI P false i (Nf k e enc v xs) (Yj k enc v xs):=⟨fun h0 _ _ hi hr=>Zx4 i hi (Zpb h0) h.h hr⟩
instance {i b:Nat} {t:TypeId} {cs:Array Value} : LnI P false i (box b t cs) (Ge b t cs):=⟨fun h0 _ _ hi hr=>Zeu i hi (Zpb h0) hr⟩
instance {al:Bool} : PreL P H al [] []:=⟨trivial⟩
instance {al:Bool} {i:Nat} {ids:List Nat} {p q:Pc} {r:List Pc} [h:Som (lk2 H i) p] [h0:TB (neb i 0)] [h1:LnI P al i p q] [h2:PreL P H al ids r]:PreL P H al (i :: ids) (q :: r):=⟨h1.h (Bz h0.h) h.l h2.h⟩
theorem T.conv{o:Oper}{G:Type}{φ:G→Prop}{e1:G→Qu}{H1 H2:G→Hp}(h:T P N sc M o env H φ e1 H1)(he:∀g,H1 g=H2 g):T P N sc M o env H φ e1 H2:=by
 rw [show H2=H1 from(funext he).symm];exact h
section
variable {f:FuncId} {xs:List Operand} {ats:Array TypeId} {d:Nat} {vs fs us:List Value} {pre:List Pc} {al:Bool} {G:Type} {φ:G→Prop} {Zw:G→Value} {its:G→List Pc} {w0:World} {M0:Nat→Prop} {ty:TypeId} {pos:String} {af:Array Edge} {g:Option (Nat×Bool)}
theorem Zg(n:Nat)(ids:List Nat)(hc:Cal P f vs.toArray pre al φ Zw its){G':G→Hp}[hx:EvI env xs vs][hf:CalF P f][hp:PreL P H al ids pre][h0:Som (lk2 H 0) (Qf w0 M0)][hN:TB (ltb d N)][hw:Hw w0 sc][ha:∀g,AddI n (its g) H (G' g)] :
  T P N sc M ⟨some d,.call { callee:= .value (.func f),args:=xs.toArray,argTypes:=ats },ty,pos,af,g⟩ env H φ (fun g=>(d,Zw g) :: env) G':=
 (Pt (n:=n) hc rfl rfl (Of hN.h) hx.h hf.h hp.h h0.l hw.h).conv fun g=>(ha g).h
class On1 (P:Program) (N:Nat) (sc:Nat→Prop) (env:Qu) (H:Hp) (v:Value):Prop where h:One N sc env H v
instance {k:IntKind} {n:Int} : On1 P N sc env H (.int k n):=⟨Zo rfl⟩
instance {b:Bool} : On1 P N sc env H (.bool b):=⟨Zo rfl⟩
instance {s:ByteArray} : On1 P N sc env H (.string s):=⟨Zo rfl⟩
instance {a:Option Addr} : On1 P N sc env H (.pointer a):=⟨Zo rfl⟩
instance {a:Option Addr} {m n:Nat} : On1 P N sc env H (.slice a m n):=⟨Zo rfl⟩
instance (priority:=low) {α:Type} {i k:Nat} {v:Value} {enc:α→Value} {ys:List α} [h:RdI P H v i k enc ys]:On1 P N sc env H v:=⟨by obtain⟨p,h1,h2⟩:=h.h;exact Pu h1 h2⟩
class OnL (P:Program) (N:Nat) (sc:Nat→Prop) (env:Qu) (H:Hp) (l:List Value):Prop where h:∀u∈l,One N sc env H u
instance:OnL P N sc env H []:=⟨fun _ h=>nomatch h⟩
instance {v:Value} {l:List Value} [h:On1 P N sc env H v] [h2:OnL P N sc env H l]:OnL P N sc env H (v :: l):=⟨fun u hu=>by
 cases hu with
 | head=>exact h.h
 | tail _ hu=>exact h2.h u hu⟩
class CeI (P:Program) (N:Nat) (sc:Nat→Prop) (env:Qu) (H:Hp) (v:Value) (l:outParam (List Value)):Prop where
 h:∀a w,Sat N sc env H a w→v.cells=l.toArray
 o:∀u∈l,One N sc env H u
instance {l:List Value} [h:OnL P N sc env H l]:CeI P N sc env H (.agg l.toArray) l:=⟨fun _ _ _=>rfl,h.h⟩
instance (priority:=low) {v:Value} [h:On1 P N sc env H v]:CeI P N sc env H v [v]:=⟨fun a w hs=>Yf (h.h a w hs),fun u hu=>by rw [List.mem_singleton.1 hu];exact h.h⟩
class ClI (v:Value) (l:outParam (List Value)):Prop where h:v.cells=l.toArray
instance {l:List Value} : ClI (.agg l.toArray) l:=⟨rfl⟩
instance {k:IntKind} {n:Int} : ClI (.int k n) [.int k n]:=⟨rfl⟩
instance {b:Bool} : ClI (.bool b) [.bool b]:=⟨rfl⟩
instance {s:ByteArray} : ClI (.string s) [.string s]:=⟨rfl⟩
instance {a:Option Addr} : ClI (.pointer a) [.pointer a]:=⟨rfl⟩
instance {a:Option Addr} {m n:Nat} : ClI (.slice a m n) [.slice a m n]:=⟨rfl⟩
class Zer (P:Program) (t:TypeId) (z:outParam Value):Prop where h:∀w,(zeroValue t).run P w= .ok z w
variable {t tb:TypeId} {l l':List Value} {v z:Value} {x y:Operand} {i j k b:Nat}
theorem Zr(n:Nat)[hz:Zer P t z][hc:ClI z l][h0:Som (lk2 H 0) (Qf w0 M0)][hN:TB (ltb d N)][hw:Hw w0 sc] :
  T P N sc M ⟨some d,.alloc t,ty,pos,af,g⟩ env H (G:=Nat) (fun _=>True) (fun b=>(d,.pointer (some ⟨b,0,none⟩)) :: env) (fun b=>(n,box b t l.toArray) :: H):=Gt rfl rfl hz.h hc.h h0.l hw.h (Of hN.h)
theorem Ye(n:Nat)[hx:Som (ev2 env x) v][hc:ClI v l][h0:Som (lk2 H 0) (Qf w0 M0)][hN:TB (ltb d N)][hw:Hw w0 sc] :
  T P N sc M ⟨some d,.box t x,ty,pos,af,g⟩ env H (G:=Nat) (fun _=>True) (fun b=>(d,.pointer (some ⟨b,0,none⟩)) :: env) (fun b=>(n,box b t l.toArray) :: H):=t_box rfl rfl (Of hN.h) hx.e hc.h h0.l hw.h
@[reducible] def lay2 {α:Type} : List α→Nat→List α→List α
 | [],_,_=>[]
 | c :: r,j,vs=>match j with
  | j+1=>c :: lay2 r j vs
  | 0=>match vs with
   | []=>c :: r
   | v :: vs=>v :: lay2 r 0 vs
theorem Zlh{α:Type} : ∀(l:List α) (j:Nat) (vs:List α),j+vs.length≤l.length→lay2 l j vs=l.take j ++ vs ++ l.drop (j+vs.length)
 | [],j,vs,h=>by
  have h1:vs=[]:=List.eq_nil_of_length_eq_zero (by simp only [List.length_nil]at h;omega)
  subst h1;simp [lay2]
 | c :: r,j+1,vs,h=>by
  rw [show j+1+vs.length=(j+vs.length)+1 by omega]
  simp only [lay2,List.take_succ_cons,List.drop_succ_cons,List.cons_append]
  rw [Zlh r j vs (by simp at h;omega)]
 | c :: r,0,[],h=>by simp [lay2]
 | c :: r,0,v :: vs,h=>by
  have h2:0+vs.length≤r.length:=by simp only [List.length_cons]at h;omega
  have:=Zlh r 0 vs h2
  simp only [lay2,this,Nat.zero_add,List.take_zero,List.nil_append,List.length_cons,List.drop_succ_cons,List.cons_append]
theorem Zwq [hx:Som (ev2 env x) (.pointer (some ⟨b,j,none⟩))] [hy:Som (ev2 env y) v] [hB:BxI H b i tb l] [hi:TB (neb i 0)] [hv:CeI P N sc env H v vs] [hk:Siz P t k] [hl:TB (lenq vs k)] [hf:TB (fits l j vs)] [hr:LEv (lay2 l j vs) l']
  [h0:Som (lk2 H 0) (Qf w0 M0)] [hw:Hw w0 sc] (hM:M b):T P N sc M ⟨none,.store t x y,ty,pos,af,g⟩ env H (G:=Unit) (fun _=>True) (fun _=>env) (fun _=>(i,box b tb l'.toArray) :: H):=fun a w hs=>by
 have hle:=Zs5 hf.h
 refine Zi5 rfl rfl hx.e hy.e hB.h (Bz hi.h) (hv.h a w hs) hk.h (Zdy hl.h) (by simpa using hle) hv.o ?_ h0.l hw.h hM a w hs
 unfold Fo
 rw [←hr.h,Zlh l j vs hle]
variable {ops:Array Oper} {rest:List Oper} {op:Go.Op} {genv:G→Qu} {gH:G→Hp} {dd:Option Tmp}
theorem Ya(ht:T P N sc (fun _=>True) ⟨dd,op,ty,pos,af,none⟩ env H φ genv gH)(h:∀g,φ g→L P N sc ops rest Q (genv g) (gH g)):L P N sc ops (⟨dd,op,ty,pos,af,none⟩ :: rest) Q env H:=tt ht h
theorem gt' {ll:List Oper} {e:Nat} {bb:Bool} (ht:T P N sc (fun _=>True) ⟨dd,op,ty,pos,af,some (j,bb)⟩ env H φ genv gH) [hj:Som (dsto ll j) e] [he:Som (lk2 env e) (.bool bb)] [hN:TB (ltb e N)]
  (h:∀g,φ g→L P N sc ll.toArray rest Q (genv g) (gH g)):L P N sc ll.toArray (⟨dd,op,ty,pos,af,some (j,bb)⟩ :: rest) Q env H:=gtt ht rfl (Gy hj) he.l (Of hN.h) h
instance {n:Nat} {q:Prop} [hx:Som (ev2 env x) (.pointer (some ⟨b,j,none⟩))] [hy:Som (ev2 env y) v] [hB:BxI H b i tb l] [hi:TB (neb i 0)] [hv:CeI P N sc env H v vs] [hk:Siz P t k] [hl:TB (lenq vs k)] [hf:TB (fits l j vs)] [hr:LEv (lay2 l j vs) l']
  [h0:Som (lk2 H 0) (Qf w0 M0)] [hw:Hw w0 sc] [h:Adv n (L P N sc ops rest Q env ((i,box b tb l'.toArray) :: H)) q]:Adv (n+1) (L P N sc ops (⟨none,.store t x y,ty,pos,af,none⟩ :: rest) Q env H) q:=
 ⟨fun q=>Ya (Zwq trivial) fun _ _=>h.h q⟩
end
end Go.Sky
namespace Go.Sky
variable {P:Program} {N:Nat} {sc:Nat→Prop} {env env':Qu} {H H' H0:Hp} {Q Q':Exit→Act→World→Prop} {M:Nat→Prop}
@[reducible] def drp2:Nat→Hp→Hp
 | _,[]=>[]
 | k,(i,p) :: r=>match Nat.beq i k with
  | true=>drp2 k r
  | false=>(i,p) :: drp2 k r
theorem Ztd:∀(k:Nat) (H:Hp),drp2 k H=drp k H
 | _,[]=>rfl
 | k,(i,p) :: r=>by unfold drp2 drp;cases Nat.beq i k<;>simp [Ztd k r]
@[reducible] def anyb:List Nat→Nat→Bool
 | [],_=>false
 | k :: r,i=>match Nat.beq i k with
  | true=>true
  | false=>anyb r i
theorem Zmj:∀(ks:List Nat) (i:Nat),anyb ks i=ks.any (Nat.beq i)
 | [],_=>rfl
 | k :: r,i=>by unfold anyb;rw [List.any_cons,←Zmj r i];cases Nat.beq i k<;>rfl
@[reducible] def rst2 (ks:List Nat):Hp→Hp
 | []=>[]
 | (i,p) :: r=>match anyb ks i with
  | true=>(i,p) :: rst2 ks r
  | false=>rst2 ks r
theorem Zr0(ks:List Nat):∀H:Hp,rst2 ks H=rst ks H
 | []=>rfl
 | (i,p) :: r=>by unfold rst2 rst;rw [←Zmj];cases anyb ks i<;>simp [Zr0 ks r]
class AgI (H0 H:Hp) (ks:List Nat):Prop where h:Agr H0 H ks
instance:AgI H0 H []:=⟨trivial⟩
instance {k:Nat} {ks:List Nat} {p:Pc} [h1:Som (lk2 H k) p] [h2:Som (lk2 H0 k) p] [h:AgI H0 H ks]:AgI H0 H (k :: ks):=⟨⟨h1.l.trans h2.l.symm,h.h⟩⟩
class StI (P:Program) (N:Nat) (sc:Nat→Prop) (M:Nat→Prop) (op:Go.Op) (env:Qu) (H:Hp) (v:outParam Value) (s:outParam Prop):Prop where
 h:s→∀{d:Option Tmp} {ty:TypeId} {pos:String} {af:Array Edge} {g:Option (Nat×Bool)},Stb P N sc M ⟨d,op,ty,pos,af,g⟩ env H v
section
variable {op:Go.Op} {v:Value} {s:Prop} {k b:Nat} {t:TypeId} {l:List Value} {ks:List Nat}
instance [h:DI P N sc op env H v s]:StI P N sc (fun _=>False) op env H v s:=⟨fun hs=>Pn (h.h hs)⟩
instance [hb:BxI H b k t l] [h:DI P N sc op env (drp2 k H) v s]:StI P N sc (fun x=>x=b) op env H v s:=⟨fun hs=>st1 k hb.h (by rw [←Ztd];exact h.h hs)⟩
instance [ha:AgI H0 H ks] [h:DI P N sc op env (rst2 ks H) v s]:StI P N sc (Off H0 ks) op env H v s:=⟨fun hs=>stf (by rw [←Zr0];exact h.h hs) ha.h⟩
end
class MI (M:Nat→Prop) (b:Nat):Prop where h:M b
class MS (N:Nat) (sc:Nat→Prop) (M:Nat→Prop) (env:Qu) (H:Hp) (b:Nat):Prop where h:∀a w,Sat N sc env H a w→M b
instance {b:Nat} : MS N sc (fun _=>True) env H b:=⟨fun _ _ _=>trivial⟩
instance {b:Nat} : MS N sc (fun x=>x=b) env H b:=⟨fun _ _ _=>rfl⟩
instance {b:Nat} [h:MI M b]:MS N sc M env H b:=⟨fun _ _ _=>h.h⟩
@[reducible] def nin (ks:List Nat) (i:Nat):Bool:=match anyb ks i with
 | true=>false
 | false=>true
instance (priority:=low) {b i:Nat} {t:TypeId} {l:List Value} {ks:List Nat} [hb:BxI H b i t l] [hn:TB (nin ks i)] [ha:AgI H0 H ks]:MS N sc (Off H0 ks) env H b:=⟨fun a w hs=>fun k hk p hp hf=>by
 rw [←ha.h.mem k hk]at hp
 have hne:i≠k:=fun e=>by
  subst e
  have h1:=hn.h
  unfold nin at h1
  rw [Zmj]at h1
  cases h2:ks.any (Nat.beq i)with
  | true=>rw [h2]at h1;cases h1
  | false=>
   have:=List.any_eq_false.1 h2 i hk
   simp at this
 exact hs.sep i k _ p hne hb.h hp rfl b rfl hf⟩
section
variable {d i j k b e n:Nat} {vs ws l l':List Value} {w0:World} {M0:Nat→Prop} {ty t tb:TypeId} {pos:String} {af:Array Edge} {g:Option (Nat×Bool)} {x y:Operand} {v z:Value} {bb:Bool}
variable {ll:List Oper} {F:Qu→Hp→Prop} {rest:List (Nat×Nat)} {op:Go.Op} {G:Type} {φ:G→Prop} {genv:G→Qu} {gH:G→Hp} {dd:Option Tmp} {q r s:Prop}
theorem t_stm [hx:Som (ev2 env x) (.pointer (some ⟨b,j,none⟩))] [hy:Som (ev2 env y) v] [hB:BxI H b i tb l] [hi:TB (neb i 0)] [hv:CeI P N sc env H v vs] [hk:Siz P t k] [hl:TB (lenq vs k)] [hf:TB (fits l j vs)] [hr:LEv (lay2 l j vs) l']
  [h0:Som (lk2 H 0) (Qf w0 M0)] [hw:Hw w0 sc] [hM:MS N sc M env H b]:T P N sc M ⟨none,.store t x y,ty,pos,af,g⟩ env H (G:=Unit) (fun _=>True) (fun _=>env) (fun _=>(i,box b tb l'.toArray) :: H):=fun a w hs=>Zwq (hM.h a w hs) a w hs
theorem Nb(n:Nat){ks:List Nat}[hz:Zer P t z][hc:ClI z l][h0:Som (lk2 H 0) (Qf w0 M0)][hN:TB (ltb d N)][hw:Hw w0 sc][ha:AgI H0 H ks] :
  T P N sc (Off H0 ks) ⟨some d,.alloc t,ty,pos,af,g⟩ env H (G:=Nat) (fun b=>MI (Off H0 ks) b) (fun b=>(d,.pointer (some ⟨b,0,none⟩)) :: env) (fun b=>(n,box b t l.toArray) :: H):=fun a w hs K Q hK=>
 Zwt (i:=n) rfl rfl (Of hN.h) hz.h hc.h h0.l hw.h ha.h a w hs K Q fun g a' w' hg=>hK g a' w' ⟨hg⟩
theorem Yu(ht:T P N sc M ⟨dd,op,ty,pos,af,none⟩ env H φ genv gH)[ho:Som (nth ll i) ⟨dd,op,ty,pos,af,none⟩](h:∀g,φ g→LD P N sc M ll.toArray F rest (genv g) (gH g)):LD P N sc M ll.toArray F ((i,1) :: rest) env H:=Fi ho.n ht h
theorem r3x(ht:T P N sc (fun _=>True) ⟨dd,op,ty,pos,af,none⟩ env H φ genv gH)[ho:Som (nth ll i) ⟨dd,op,ty,pos,af,none⟩](h:∀g,φ g→LD P N sc M ll.toArray F rest (genv g) (gH g)):LD P N sc M ll.toArray F ((i,3) :: rest) env H:=r3' ho.n ht h
theorem Mc{ts:List Nat}{listed:Array Bool}(ht:T P N sc M ⟨dd,op,ty,pos,af,none⟩ env H φ genv gH)[ho:Som (nth ll i) ⟨dd,op,ty,pos,af,none⟩](h:∀g,φ g→A P N sc M ll.toArray ts Q n (listed.setIfInBounds i true) (genv g) (gH g)):Zmm P N sc M ll.toArray ts Q n listed env H i:=Gi ho.n ht h
instance [ho:Som (nth ll i) ⟨some d,op,ty,pos,af,none⟩] [h1:StI P N sc M op env H v s] [h2:TB (ltb d N)] [h:Adv n (LD P N sc M ll.toArray F rest ((d,v) :: env) H) q] [h3:AndO s q r]:Adv (n+1) (LD P N sc M ll.toArray F ((i,0) :: rest) env H) r:=
 ⟨fun k=>Pf ho.n rfl (h1.h (h3.h k).1) (h.h (h3.h k).2) rfl (Of h2.h)⟩
instance [ho:Som (nth ll i) ⟨some d,op,ty,pos,af,some (j,bb)⟩] [hj:Som (dsto ll j) e] [he:Som (lk2 env e) (.bool bb)] [hN:TB (ltb e N)] [h1:StI P N sc M op env H v s] [h2:TB (ltb d N)] [h:Adv n (LD P N sc M ll.toArray F rest ((d,v) :: env) H) q] [h3:AndO s q r]:Adv (n+1) (LD P N sc M ll.toArray F ((i,0) :: rest) env H) r:=
 ⟨fun k=>r0g (h1.h (h3.h k).1) ho.n rfl (Gy hj) he.l rfl (h.h (h3.h k).2) (Of hN.h) (Of h2.h)⟩
instance [ho:Som (nth ll i) ⟨some d,op,ty,pos,af,some (j,true)⟩] [hj:Som (dsto ll j) e] [he:Som (lk2 env e) (.bool false)] [hN:TB (ltb e N)] [h2:TB (ltb d N)] [h:Adv n (LD P N sc M ll.toArray F rest ((d,undef) :: env) H) q]:Adv (n+1) (LD P N sc M ll.toArray F ((i,2) :: rest) env H) q:=
 ⟨fun k=>r2 ho.n rfl (Gy hj) he.l rfl (Of hN.h) rfl (Of h2.h) (h.h k)⟩
instance [ho:Som (nth ll i) ⟨some d,op,ty,pos,af,some (j,false)⟩] [hj:Som (dsto ll j) e] [he:Som (lk2 env e) (.bool true)] [hN:TB (ltb e N)] [h2:TB (ltb d N)] [h:Adv n (LD P N sc M ll.toArray F rest ((d,undef) :: env) H) q]:Adv (n+1) (LD P N sc M ll.toArray F ((i,2) :: rest) env H) q:=
 ⟨fun k=>r2 ho.n rfl (Gy hj) he.l rfl (Of hN.h) rfl (Of h2.h) (h.h k)⟩
instance [ho:Som (nth ll i) ⟨none,.store t x y,ty,pos,af,none⟩] [hx:Som (ev2 env x) (.pointer (some ⟨b,j,none⟩))] [hy:Som (ev2 env y) v] [hB:BxI H b k tb l] [hi:TB (neb k 0)] [hv:CeI P N sc env H v vs] [hk:Siz P t e] [hl:TB (lenq vs e)] [hf:TB (fits l j vs)] [hr:LEv (lay2 l j vs) l']
  [h0:Som (lk2 H 0) (Qf w0 M0)] [hw:Hw w0 sc] [h:Adv n (LD P N sc M ll.toArray F rest env ((k,box b tb l'.toArray) :: H)) q]:Adv (n+1) (LD P N sc M ll.toArray F ((i,3) :: rest) env H) q:=
 ⟨fun q=>r3' ho.n (Zwq trivial) fun _ _=>h.h q⟩
instance [ho:Som (nth ll i) ⟨none,.store t x y,ty,pos,af,none⟩] [hx:Som (ev2 env x) (.pointer (some ⟨b,j,none⟩))] [hy:Som (ev2 env y) v] [hB:BxI H b k tb l] [hi:TB (neb k 0)] [hM:MS N sc M env H b] [hv:CeI P N sc env H v vs] [hk:Siz P t e] [hl:TB (lenq vs e)] [hf:TB (fits l j vs)] [hr:LEv (lay2 l j vs) l']
  [h0:Som (lk2 H 0) (Qf w0 M0)] [hw:Hw w0 sc] [h:Adv n (LD P N sc M ll.toArray F rest env ((k,box b tb l'.toArray) :: H)) q]:Adv (n+1) (LD P N sc M ll.toArray F ((i,1) :: rest) env H) q:=
 ⟨fun q=>Fi ho.n t_stm fun _ _=>h.h q⟩
instance [ho:Som (nth ll i) ⟨some d,op,ty,pos,af,none⟩] [h1:DI P N sc op env H v s] [h2:TB (ltb d N)] [h:Adv n (LD P N sc M ll.toArray F rest ((d,v) :: env) H) q] [h3:AndO s q r]:Adv (n+1) (LD P N sc M ll.toArray F ((i,1) :: rest) env H) r:=
 ⟨fun k=>Fi ho.n (An (h1.h (h3.h k).1) rfl (Of h2.h)) fun _ _=>h.h (h3.h k).2⟩
instance [ho:Som (nth ll i) ⟨some d,op,ty,pos,af,none⟩] [h1:DI P N sc op env H v s] [h2:TB (ltb d N)] [h:Adv n (LD P N sc M ll.toArray F rest ((d,v) :: env) H) q] [h3:AndO s q r]:Adv (n+1) (LD P N sc M ll.toArray F ((i,3) :: rest) env H) r:=
 ⟨fun k=>r3' ho.n (An (h1.h (h3.h k).1) rfl (Of h2.h)) fun _ _=>h.h (h3.h k).2⟩
instance [h:Adv n (F env H) q] {ops:Array Oper} : Adv (n+1) (LD P N sc M ops F [] env H) q:=⟨fun k=>r_fin (h.h k)⟩
theorem Qb {id:Nat} {l:List Oper} (M:Nat→Prop) (plan:List (Nat×Nat)) (h:LD P N sc M l.toArray (X N sc .normal Q) plan env H) (hm:P.follows .mixedOrders=true:=by kernel_rfl)
  (hp:(Region.noSelect l.toArray && Nat.beq plan.length l.length && Gm l.toArray (Zam plan) plan (Array.replicate l.length false) && (Region.ready .any l.toArray (Lm plan (Array.replicate l.length false))).isEmpty)=true:=by kernel_rfl) :
  E P N sc (.region id l.toArray true) Q env H:=e_dreg M plan hm hp h
end
end Go.Sky
namespace Go.Sky
open Go.RowKit (Below)
variable {P:Program} {N:Nat} {sc:Nat→Prop} {env env':Qu} {H H':Hp} {Q Q':Exit→Act→World→Prop} {M:Nat→Prop}
class EnI (vs:List Value) (env:outParam Qu):Prop where h:Ps 0 vs=env
class PnI (vs:List Pc) (H:outParam Hp):Prop where h:Pa 1 vs=H
section
variable {a b c d e f g i j:Value} {p q r s t u v w x y:Pc}
instance:EnI [] []:=⟨rfl⟩
instance:EnI [a] [(0,a)]:=⟨rfl⟩
instance:EnI [a,b] [(0,a),(1,b)]:=⟨rfl⟩
instance:EnI [a,b,c] [(0,a),(1,b),(2,c)]:=⟨rfl⟩
instance:EnI [a,b,c,d] [(0,a),(1,b),(2,c),(3,d)]:=⟨rfl⟩
instance:EnI [a,b,c,d,e] [(0,a),(1,b),(2,c),(3,d),(4,e)]:=⟨rfl⟩
instance:EnI [a,b,c,d,e,f] [(0,a),(1,b),(2,c),(3,d),(4,e),(5,f)]:=⟨rfl⟩
instance:EnI [a,b,c,d,e,f,g] [(0,a),(1,b),(2,c),(3,d),(4,e),(5,f),(6,g)]:=⟨rfl⟩
instance:PnI [] []:=⟨rfl⟩
instance:PnI [p] [(1,p)]:=⟨rfl⟩
instance:PnI [p,q] [(1,p),(2,q)]:=⟨rfl⟩
instance:PnI [p,q,r] [(1,p),(2,q),(3,r)]:=⟨rfl⟩
instance:PnI [p,q,r,s] [(1,p),(2,q),(3,r),(4,s)]:=⟨rfl⟩
instance:PnI [p,q,r,s,t] [(1,p),(2,q),(3,r),(4,s),(5,t)]:=⟨rfl⟩
instance:PnI [p,q,r,s,t,u] [(1,p),(2,q),(3,r),(4,s),(5,t),(6,u)]:=⟨rfl⟩
instance:PnI [p,q,r,s,t,u,v] [(1,p),(2,q),(3,r),(4,s),(5,t),(6,u),(7,v)]:=⟨rfl⟩
instance:PnI [p,q,r,s,t,u,v,w] [(1,p),(2,q),(3,r),(4,s),(5,t),(6,u),(7,v),(8,w)]:=⟨rfl⟩
instance:PnI [p,q,r,s,t,u,v,w,x] [(1,p),(2,q),(3,r),(4,s),(5,t),(6,u),(7,v),(8,w),(9,x)]:=⟨rfl⟩
instance:PnI [p,q,r,s,t,u,v,w,x,y] [(1,p),(2,q),(3,r),(4,s),(5,t),(6,u),(7,v),(8,w),(9,x),(10,y)]:=⟨rfl⟩
end
class RoL (l:List Pc):Prop where h:AllRo l
instance:RoL []:=⟨trivial⟩
instance {p:Pc} {r:List Pc} [h:RoI p] [h2:RoL r]:RoL (p :: r):=⟨⟨h.h,h2.h⟩⟩
theorem Zd {f:FuncId} {fn:Func} {c:Code} {vs:List Value} {pre:List Pc} {al:Bool} {G:Type} {φ:G→Prop} {Zw:G→Value} {its:G→List Pc} {N:Nat} (hf:P.funcs[f]? = some fn) (hN:fn.ntmps=N)
  [he:EnI vs env] [hp:PnI pre H] [hro:RoL pre] (h:∀w0 (sc:Nat→Prop),Hw w0 sc→(∀b,sc b→w0.heap.size≤b∨∃q∈pre,q.fp b)→E P N sc c (Zil P fn w0 pre al φ Zw its) env ((0,Qf w0 (fun _=>False)) :: H))
  (hb:fn.body=some c:=by rfl) (hle:Nat.ble vs.length N=true:=by rfl):Cal P f vs.toArray pre al φ Zw its:=
 cal_in hf hb hN hle hro.h fun w0 sc hw hsc=>by rw [he.h,hp.h];exact h w0 sc ⟨hw⟩ hsc
class RvI (P:Program) (N:Nat) (sc:Nat→Prop) (env:Qu) (H:Hp) (r:ResultVar) (v:outParam Value):Prop where h:RV P N sc env H r v
instance {t:Nat} {v:Value} [h:Som (lk2 env t) v]:RvI P N sc env H (.tmp t) v:=⟨h.l⟩
instance {c b i k:Nat} {t tb:TypeId} {l:List Value} [h:Som (lk2 env c) (.pointer (some ⟨b,0,none⟩))] [h1:Agg P t true] [h2:BxI H b i tb l] [h3:Siz P t k] [h4:TB (lenq l k)]:RvI P N sc env H (.cell c t) (.agg l.toArray):=⟨Ii h.l h2.h h1.h h3.h (Zdy h4.h)⟩
instance {c b i:Nat} {t tb:TypeId} {v:Value} [h:Som (lk2 env c) (.pointer (some ⟨b,0,none⟩))] [h1:Agg P t false] [h2:BxI H b i tb [v]]:RvI P N sc env H (.cell c t) v:=⟨Zai h.l h2.h h1.h⟩
section
variable {fn:Func} {pre:List Pc} {al:Bool} {G:Type} {φ:G→Prop} {Zw:G→Value} {its:G→List Pc} {w0:World} {r1 r2 r3:ResultVar} {v1 v2 v3:Value}
theorem Xi(hsc:∀b,sc b→w0.heap.size≤b∨∃q∈pre,q.fp b)(g:G)(hf:fn.results=#[r1])[h1:RvI P N sc env H r1 v1][h0:Som (lk2 H 0) (Qf w0 (fun _=>False))](hv:Zw g=v1)(hg:φ g)(hgive:Give H al (its g)) :
  X N sc .ret (Zil P fn w0 pre al φ Zw its) env H:=Zmo (.inl rfl) hsc g v1 (fun a w hs=>Zeq hs hf h1.h) hv hg h0.l hgive
theorem Mb(hsc:∀b,sc b→w0.heap.size≤b∨∃q∈pre,q.fp b)(g:G)(hf:fn.results=#[r1,r2])[h1:RvI P N sc env H r1 v1][h2:RvI P N sc env H r2 v2][h0:Som (lk2 H 0) (Qf w0 (fun _=>False))](hv:Zw g= .tuple #[v1,v2])(hg:φ g)(hgive:Give H al (its g)) :
  X N sc .ret (Zil P fn w0 pre al φ Zw its) env H:=Zmo (.inl rfl) hsc g (.tuple #[v1,v2]) (fun a w hs=>Zxu hs hf h1.h h2.h) hv hg h0.l hgive
theorem xe3(hsc:∀b,sc b→w0.heap.size≤b∨∃q∈pre,q.fp b)(g:G)(hf:fn.results=#[r1,r2,r3])[h1:RvI P N sc env H r1 v1][h2:RvI P N sc env H r2 v2][h3:RvI P N sc env H r3 v3][h0:Som (lk2 H 0) (Qf w0 (fun _=>False))](hv:Zw g= .tuple #[v1,v2,v3])(hg:φ g)(hgive:Give H al (its g)) :
  X N sc .ret (Zil P fn w0 pre al φ Zw its) env H:=Zmo (.inl rfl) hsc g (.tuple #[v1,v2,v3]) (fun a w hs=>res3 hs hf h1.h h2.h h3.h) hv hg h0.l hgive
end
class EncE {α:Type} (k:Nat) (enc:α→Value):Prop where h:∃(P:Program) (t:TypeId),Enc P t k enc
theorem Oq{p p':Pc}{r:List Pc}(i:Nat)[hi:Som (lk2 H i) p'][h0:TB (neb i 0)][ho:RoI p'](h:Give H true r)(e:p'=p:=by rfl):Give H true (p :: r):=e▸Zez i hi.l (Zpb (Bz h0.h)) ho.h h
section
variable {α:Type} {k i:Nat} {e:TypeId} {enc:α→Value} {v v':Value} {xs ys:List α} {al:Bool} {r:List Pc}
theorem gow(i:Nat)[hi:Som (lk2 H i) (Nf k e enc v xs)][h0:TB (neb i 0)][he:EncE k enc](h:Give H al r)(heq:xs=ys:=by rfl):Give H al (Yj k enc v ys :: r):=by
 obtain⟨_,_,h1⟩:=he.h
 exact Zvy i hi.l (Zpb (Bz h0.h)) h1 heq h
end
section
variable {n:Nat} {x b:Bool} {d e j:Nat} {op:Go.Op} {ty:TypeId} {pos:String} {af:Array Edge} {rest:List Oper} {ops:Array Oper} {ll:List Oper}
theorem kf [h1:DI P N sc op env H (.bool x) True][h2:TB (ltb d N)](e:x=false)(h:L P N sc ops rest Q ((d,.bool false) :: env) H):L P N sc ops (⟨some d,op,ty,pos,af,none⟩ :: rest) Q env H:=dt (Zv (h1.h trivial) (congrArg _ e)) h (Of h2.h)
theorem kt [h1:DI P N sc op env H (.bool x) True][h2:TB (ltb d N)](e:x=true)(h:L P N sc ops rest Q ((d,.bool true) :: env) H):L P N sc ops (⟨some d,op,ty,pos,af,none⟩ :: rest) Q env H:=dt (Zv (h1.h trivial) (congrArg _ e)) h (Of h2.h)
theorem kfg [h1:DI P N sc op env H (.bool x) True][hj:Som (dsto ll j) e][hg:Som (lk2 env e) (.bool b)][h4:TB (ltb e N)][h2:TB (ltb d N)](e:x=false)(h:L P N sc ll.toArray rest Q ((d,.bool false) :: env) H):L P N sc ll.toArray (⟨some d,op,ty,pos,af,some (j,b)⟩ :: rest) Q env H:=Gh (Zv (h1.h trivial) (congrArg _ e)) (Gy hj) hg.l h (Of h4.h) (Of h2.h)
theorem ktg [h1:DI P N sc op env H (.bool x) True][hj:Som (dsto ll j) e][hg:Som (lk2 env e) (.bool b)][h4:TB (ltb e N)][h2:TB (ltb d N)](e:x=true)(h:L P N sc ll.toArray rest Q ((d,.bool true) :: env) H):L P N sc ll.toArray (⟨some d,op,ty,pos,af,some (j,b)⟩ :: rest) Q env H:=Gh (Zv (h1.h trivial) (congrArg _ e)) (Gy hj) hg.l h (Of h4.h) (Of h2.h)
end
section
variable {f:FuncId} {xs:List Operand} {ats:Array TypeId} {d i j e n:Nat} {vs:List Value} {pre:List Pc} {al b:Bool} {G:Type} {φ:G→Prop} {Zw:G→Value} {its:G→List Pc} {w0:World} {M0:Nat→Prop} {ty:TypeId} {pos:String} {af:Array Edge} {G':G→Hp} {ops:Array Oper} {rest ll:List Oper}
theorem cl (n:Nat) (ids:List Nat) (hc:Cal P f vs.toArray pre al φ Zw its) [hx:EvI env xs vs] [hf:CalF P f] [hp:PreL P H al ids pre] [h0:Som (lk2 H 0) (Qf w0 M0)] [hN:TB (ltb d N)] [hw:Hw w0 sc] [ha:∀g,AddI n (its g) H (G' g)]
  (h:∀g,φ g→L P N sc ops rest Q ((d,Zw g) :: env) (G' g)):L P N sc ops (⟨some d,.call { callee:= .value (.func f),args:=xs.toArray,argTypes:=ats },ty,pos,af,none⟩ :: rest) Q env H:=Ya (Zg n ids hc) h
theorem Hc (n:Nat) (ids:List Nat) (hc:Cal P f vs.toArray pre al φ Zw its) [hx:EvI env xs vs] [hf:CalF P f] [hp:PreL P H al ids pre] [h0:Som (lk2 H 0) (Qf w0 M0)] [hN:TB (ltb d N)] [hw:Hw w0 sc] [ha:∀g,AddI n (its g) H (G' g)] [hj:Som (dsto ll j) e] [he:Som (lk2 env e) (.bool b)] [hN2:TB (ltb e N)]
  (h:∀g,φ g→L P N sc ll.toArray rest Q ((d,Zw g) :: env) (G' g)):L P N sc ll.toArray (⟨some d,.call { callee:= .value (.func f),args:=xs.toArray,argTypes:=ats },ty,pos,af,some (j,b)⟩ :: rest) Q env H:=gt' (Zg n ids hc) h
end
class SeI (l:List Nat) (env:Qu) (cs:outParam Qu):Prop where h:Sub cs env
instance:SeI [] env []:=⟨trivial⟩
instance {t:Nat} {l:List Nat} {v:Value} {cs:Qu} [h:Som (lk2 env t) v] [h2:SeI l env cs]:SeI (t :: l) env ((t,v) :: cs):=⟨⟨h.l,h2.h⟩⟩
class SeH (l:List Nat) (H:Hp) (ch:outParam Hp):Prop where h:HSub ch H
instance:SeH [] H []:=⟨trivial⟩
instance {t:Nat} {l:List Nat} {v:Pc} {cs:Hp} [h:Som (lk2 H t) v] [h2:SeH l H cs]:SeH (t :: l) H ((t,v) :: cs):=⟨⟨h.l,h2.h⟩⟩
class ApI {α:Type _} (a b:List α) (c:outParam (List α)):Prop where h:a ++ b=c
instance {α:Type _} {b:List α} : ApI [] b b:=⟨rfl⟩
instance {α:Type _} {x:α} {a b c:List α} [h:ApI a b c]:ApI (x :: a) b (x :: c):=⟨by rw [←h.h];rfl⟩
class SbI (cs env:Qu):Prop where h:Sub cs env
instance:SbI [] env:=⟨trivial⟩
instance {t:Nat} {v:Value} {cs:Qu} [h:Som (lk2 env t) v] [h2:SbI cs env]:SbI ((t,v) :: cs) env:=⟨⟨h.l,h2.h⟩⟩
class HbI (ch H:Hp):Prop where h:HSub ch H
instance:HbI [] H:=⟨trivial⟩
instance {t:Nat} {v:Pc} {cs:Hp} [h:Som (lk2 H t) v] [h2:HbI cs H]:HbI ((t,v) :: cs) H:=⟨⟨h.l,h2.h⟩⟩
theorem Sub.app:∀{a b e:Qu},Sub a e→Sub b e→Sub (a ++ b) e
 | [],_,_,_,h=>h
 | (_,_) :: _,_,_,h1,h=>⟨h1.1,Sub.app h1.2 h⟩
theorem HSub.app:∀{a b e:Hp},HSub a e→HSub b e→HSub (a ++ b) e
 | [],_,_,_,h=>h
 | (_,_) :: _,_,_,h1,h=>⟨h1.1,HSub.app h1.2 h⟩
section
variable {c x y:Code} {G:Type} {cs:Qu} {ch:Hp} {e1:G→Qu} {H1:G→Hp} {ov:G→Qu} {oh:G→Hp} {inv:G→Prop} {μ:G→Nat} {g:G}
theorem lp (l lh:List Nat) (ov:G→Qu) (oh:G→Hp) (inv:G→Prop) (μ:G→Nat) (g₀:G) (h₀:inv g₀) (hs:Sub (ov g₀) env) (hh:HSub (oh g₀) H) [h1:SeI l env cs] [h2:SeH lh H ch] [h3:∀g,ApI (ov g) cs (e1 g)] [h4:∀g,ApI (oh g) ch (H1 g)]
  (round:∀g,inv g→E P N sc c (Exit.then (Yel N sc cs ch ov oh inv μ g) Q) (e1 g) (H1 g)):E P N sc (.loop c) Q env H:=
 e_lp cs ch ov oh inv μ g₀ h₀ (hs.app h1.h) (hh.app h2.h) fun g hg=>by rw [(h3 g).h,(h4 g).h];exact round g hg
theorem Xd(g':G)(h1:inv g')(h2:μ g'<μ g)(hs:Sub (ov g') env)(hh:HSub (oh g') H)[k1:SbI cs env][k2:HbI ch H]:X N sc .normal (Exit.then (Yel N sc cs ch ov oh inv μ g) Q) env H:=x_rnd g' h1 h2 (hs.app k1.h) (hh.app k2.h)
theorem jn (l lh:List Nat) (ov:G→Qu) (oh:G→Hp) (inv:G→Prop) [h1:SeI l env cs] [h2:SeH lh H ch] [h3:∀g,ApI (ov g) cs (e1 g)] [h4:∀g,ApI (oh g) ch (H1 g)]
  (hx:E P N sc x (Exit.then (JnK N sc cs ch ov oh inv) Q) env H) (hy:∀g,inv g→E P N sc y Q (e1 g) (H1 g)):E P N sc (.seq x y) Q env H:=
 e_jn cs ch ov oh inv h1.h h2.h hx fun g hg=>by rw [(h3 g).h,(h4 g).h];exact hy g hg
theorem Oo(g':G)(h1:inv g')(hs:Sub (ov g') env)(hh:HSub (oh g') H)[k1:SbI cs env][k2:HbI ch H]:X N sc .normal (Exit.then (JnK N sc cs ch ov oh inv) Q) env H:=x_jn g' h1 (hs.app k1.h) (hh.app k2.h)
end
end Go.Sky
namespace Go.Sky
open Go.Proofs
set_option linter.all false
set_option synthInstance.maxHeartbeats 0
@[reducible,instance] def iUnd3:=Und.mk Tryz.underlying3
@[reducible,instance] def iUnd4:=Und.mk Tryz.underlying4
@[reducible,instance] def iUnd5:=Und.mk Tryz.underlying5
@[reducible,instance] def iUnd9:=Und.mk Tryz.underlying9
@[reducible,instance] def iUnd22:=Und.mk Tryz.underlying22
@[reducible,instance] def iUnd38:=Und.mk Tryz.underlying38
@[reducible,instance] def iUnd39:=Und.mk Tryz.underlying39
@[reducible,instance] def iUnd46:=Und.mk Tryz.underlying46
@[reducible,instance] def iUnd77:=Und.mk Tryz.underlying77
@[reducible,instance] def iUnd87:=Und.mk Tryz.underlying87
@[reducible,instance] def iUnd93:=Und.mk Tryz.underlying93
@[reducible,instance] def iUnd111:=Und.mk Tryz.underlying111
@[reducible,instance] def iUnd129:=Und.mk Tryz.underlying129
@[reducible,instance] def iUnd142:=Und.mk Tryz.underlying142
@[reducible,instance] def iUnd155:=Und.mk Tryz.underlying155
@[reducible,instance] def iUnd168:=Und.mk Tryz.underlying168
@[reducible,instance] def iUnd171:=Und.mk Tryz.underlying171
@[reducible,instance] def iUnd219:=Und.mk Tryz.underlying219
@[reducible,instance] def iUnd221:=Und.mk Tryz.underlying221
@[reducible,instance] def iUnd230:=Und.mk Tryz.underlying230
@[reducible,instance] def iUnd232:=Und.mk Tryz.underlying232
@[reducible,instance] def iUnd236:=Und.mk Tryz.underlying236
@[reducible,instance] def iUnd238:=Und.mk Tryz.underlying238
@[reducible,instance] def iUnd242:=Und.mk Tryz.underlying242
@[reducible,instance] def iUnd262:=Und.mk Tryz.underlying262
@[reducible,instance] def iUnd275:=Und.mk Tryz.underlying275
@[reducible,instance] def iSiz3:=Siz.mk Tryz.sizeOf3
@[reducible,instance] def iSiz4:=Siz.mk Tryz.sizeOf4
@[reducible,instance] def iSiz5:=Siz.mk Tryz.sizeOf5
@[reducible,instance] def iSiz9:=Siz.mk Tryz.sizeOf9
@[reducible,instance] def iSiz22:=Siz.mk Tryz.sizeOf22
@[reducible,instance] def iSiz31:=Siz.mk Tryz.sizeOf31
@[reducible,instance] def iSiz39:=Siz.mk Tryz.sizeOf39
@[reducible,instance] def iSiz46:=Siz.mk Tryz.sizeOf46
@[reducible,instance] def iSiz77:=Siz.mk Tryz.sizeOf77
@[reducible,instance] def iSiz87:=Siz.mk Tryz.sizeOf87
@[reducible,instance] def iSiz93:=Siz.mk Tryz.sizeOf93
@[reducible,instance] def iSiz111:=Siz.mk Tryz.sizeOf111
@[reducible,instance] def iSiz129:=Siz.mk Tryz.sizeOf129
@[reducible,instance] def iSiz168:=Siz.mk Tryz.sizeOf168
@[reducible,instance] def iSiz171:=Siz.mk Tryz.sizeOf171
@[reducible,instance] def iSiz219:=Siz.mk Tryz.sizeOf219
@[reducible,instance] def iSiz230:=Siz.mk Tryz.sizeOf230
@[reducible,instance] def iSiz232:=Siz.mk Tryz.sizeOf232
@[reducible,instance] def iSiz238:=Siz.mk Tryz.sizeOf238
@[reducible,instance] def iAgg4:=Agg.mk Tryz.isAgg4
@[reducible,instance] def iAgg9:=Agg.mk Tryz.isAgg9
@[reducible,instance] def iAgg22:=Agg.mk Tryz.isAgg22
@[reducible,instance] def iAgg31:=Agg.mk Tryz.isAgg31
@[reducible,instance] def iAgg77:=Agg.mk Tryz.isAgg77
@[reducible,instance] def iAgg87:=Agg.mk Tryz.isAgg87
@[reducible,instance] def iAgg93:=Agg.mk Tryz.isAgg93
@[reducible,instance] def iAgg129:=Agg.mk Tryz.isAgg129
@[reducible,instance] def iAgg168:=Agg.mk Tryz.isAgg168
@[reducible,instance] def iAgg171:=Agg.mk Tryz.isAgg171
@[reducible,instance] def iAgg230:=Agg.mk Tryz.isAgg230
@[reducible,instance] def iAgg232:=Agg.mk Tryz.isAgg232
@[reducible,instance] def iAgg238:=Agg.mk Tryz.isAgg238
@[reducible,instance] def iZer77:=Zer.mk Tryz.zeroValue77
@[reducible,instance] def iZer87:=Zer.mk Tryz.zeroValue87
@[reducible,instance] def iZer93:=Zer.mk Tryz.zeroValue93
@[reducible,instance] def iZer111:=Zer.mk Tryz.zeroValue111
@[reducible,instance] def iZer129:=Zer.mk Tryz.zeroValue129
@[reducible,instance] def iZer171:=Zer.mk Tryz.zeroValue171
@[reducible,instance] def iZer221:=Zer.mk Tryz.zeroValue221
@[reducible,instance] def iZer232:=Zer.mk Tryz.zeroValue232
@[reducible,instance] def iZer236:=Zer.mk Tryz.zeroValue236
@[reducible,instance] def iZer238:=Zer.mk Tryz.zeroValue238
@[reducible,instance] def iCalF38:=CalF.mk Tryz.call38
@[reducible,instance] def iCalF39:=CalF.mk Tryz.call39
@[reducible,instance] def iCalF42:=CalF.mk Tryz.call42
@[reducible,instance] def iCalF43:=CalF.mk Tryz.call43
@[reducible,instance] def iCalF44:=CalF.mk Tryz.call44
@[reducible,instance] def iCalF45:=CalF.mk Tryz.call45
@[reducible,instance] def iCalF50:=CalF.mk Tryz.call50
@[reducible,instance] def iCalF71:=CalF.mk Tryz.call71
@[reducible,instance] def iCalF76:=CalF.mk Tryz.call76
@[reducible,instance] def iCalF77:=CalF.mk Tryz.call77
@[reducible,instance] def iCalF78:=CalF.mk Tryz.call78
@[reducible,instance] def iCalF79:=CalF.mk Tryz.call79
@[reducible,instance] def iCalF80:=CalF.mk Tryz.call80
@[reducible,instance] def iCalF82:=CalF.mk Tryz.call82
@[reducible,instance] def iCalF83:=CalF.mk Tryz.call83
@[reducible,instance] def iCalF87:=CalF.mk Tryz.call87
@[reducible,instance] def iCalF88:=CalF.mk Tryz.call88
@[reducible,instance] def iCalF89:=CalF.mk Tryz.call89
@[reducible,instance] def iCalF91:=CalF.mk Tryz.call91
@[reducible,instance] def iCalF92:=CalF.mk Tryz.call92
@[reducible,instance] def iCalF93:=CalF.mk Tryz.call93
@[reducible,instance] def iCalF94:=CalF.mk Tryz.call94
@[reducible,instance] def iCalF112:=CalF.mk Tryz.call112
@[reducible,instance] def iCalF113:=CalF.mk Tryz.call113
@[reducible,instance] def iCalF118:=CalF.mk Tryz.call118
@[reducible,instance] def iCalF120:=CalF.mk Tryz.call120
@[reducible,instance] def iCalF122:=CalF.mk Tryz.call122
@[reducible,instance] def iCalF123:=CalF.mk Tryz.call123
@[reducible,instance] def iCalF124:=CalF.mk Tryz.call124
@[reducible,instance] def iCalF125:=CalF.mk Tryz.call125
@[reducible,instance] def iCalF126:=CalF.mk Tryz.call126
@[reducible,instance] def iCalF127:=CalF.mk Tryz.call127
@[reducible,instance] def iCalF128:=CalF.mk Tryz.call128
@[reducible,instance] def iCalF129:=CalF.mk Tryz.call129
@[reducible,instance] def iCalF130:=CalF.mk Tryz.call130
@[reducible,instance] def iCalF131:=CalF.mk Tryz.call131
@[reducible,instance] def iCalF134:=CalF.mk Tryz.call134
@[reducible,instance] def iCalF135:=CalF.mk Tryz.call135
@[reducible,instance] def iCalF136:=CalF.mk Tryz.call136
@[reducible,instance] def iCalF137:=CalF.mk Tryz.call137
@[reducible,instance] def iCalF141:=CalF.mk Tryz.call141
@[reducible,instance] def iCalF142:=CalF.mk Tryz.call142
@[reducible,instance] def iCalF143:=CalF.mk Tryz.call143
@[reducible,instance] def iCalF144:=CalF.mk Tryz.call144
@[reducible,instance] def iCalF151:=CalF.mk Tryz.call151
@[reducible,instance] def iCalF152:=CalF.mk Tryz.call152
@[reducible,instance] def iCalF153:=CalF.mk Tryz.call153
@[reducible,instance] def iCalF154:=CalF.mk Tryz.call154
@[reducible,instance] def iCalF155:=CalF.mk Tryz.call155
@[reducible,instance] def iCalF156:=CalF.mk Tryz.call156
@[reducible,instance] def iCalF157:=CalF.mk Tryz.call157
@[reducible,instance] def iCalF158:=CalF.mk Tryz.call158
@[reducible,instance] def iCalF159:=CalF.mk Tryz.call159
@[reducible,instance] def iCalF160:=CalF.mk Tryz.call160
@[reducible,instance] def iCalF161:=CalF.mk Tryz.call161
@[reducible,instance] def iCalF162:=CalF.mk Tryz.call162
@[reducible,instance] def iCalF163:=CalF.mk Tryz.call163
@[reducible,instance] def iCalF164:=CalF.mk Tryz.call164
@[reducible,instance] def iCalF165:=CalF.mk Tryz.call165
@[reducible,instance] def iCalF166:=CalF.mk Tryz.call166
@[reducible,instance] def iCalF167:=CalF.mk Tryz.call167
@[reducible,instance] def iCalF168:=CalF.mk Tryz.call168
@[reducible,instance] def iCalF169:=CalF.mk Tryz.call169
@[reducible,instance] def iCalF170:=CalF.mk Tryz.call170
@[reducible,instance] def iCalF171:=CalF.mk Tryz.call171
@[reducible,instance] def iCalF172:=CalF.mk Tryz.call172
@[reducible,instance] def iCalF175:=CalF.mk Tryz.call175
@[reducible,instance] def iCalF176:=CalF.mk Tryz.call176
@[reducible,instance] def iCalF177:=CalF.mk Tryz.call177
@[reducible,instance] def iCalF178:=CalF.mk Tryz.call178
@[reducible,instance] def iCalF179:=CalF.mk Tryz.call179
@[reducible,instance] def iCalF180:=CalF.mk Tryz.call180
@[reducible,instance] def iCalF181:=CalF.mk Tryz.call181
@[reducible,instance] def iCalF182:=CalF.mk Tryz.call182
@[reducible,instance] def iCalF183:=CalF.mk Tryz.call183
@[reducible,instance] def iCalF184:=CalF.mk Tryz.call184
@[reducible,instance] def iCalF187:=CalF.mk Tryz.call187
@[reducible,instance] def iCalF188:=CalF.mk Tryz.call188
@[reducible,instance] def iCalF189:=CalF.mk Tryz.call189
@[reducible,instance] def iCalF190:=CalF.mk Tryz.call190
@[reducible,instance] def iCalF191:=CalF.mk Tryz.call191
@[reducible,instance] def iCalF192:=CalF.mk Tryz.call192
@[reducible,instance] def iCalF193:=CalF.mk Tryz.call193
@[reducible,instance] def iCalF194:=CalF.mk Tryz.call194
@[reducible,instance] def iCalF195:=CalF.mk Tryz.call195
@[reducible,instance] def iCalF196:=CalF.mk Tryz.call196
@[reducible,instance] def iCalF197:=CalF.mk Tryz.call197
@[reducible,instance] def iCalF198:=CalF.mk Tryz.call198
@[reducible,instance] def iCalF199:=CalF.mk Tryz.call199
@[reducible,instance] def iCalF200:=CalF.mk Tryz.call200
@[reducible,instance] def iCalF201:=CalF.mk Tryz.call201
@[reducible,instance] def iCalF202:=CalF.mk Tryz.call202
@[reducible,instance] def iCalF203:=CalF.mk Tryz.call203
@[reducible,instance] def iCalF204:=CalF.mk Tryz.call204
@[reducible,instance] def iCalF205:=CalF.mk Tryz.call205
@[reducible,instance] def iCalF206:=CalF.mk Tryz.call206
@[reducible,instance] def iCalF207:=CalF.mk Tryz.call207
@[reducible,instance] def iCalF208:=CalF.mk Tryz.call208
@[reducible,instance] def iCalF209:=CalF.mk Tryz.call209
@[reducible,instance] def iCalF210:=CalF.mk Tryz.call210
@[reducible,instance] def iCalF211:=CalF.mk Tryz.call211
@[reducible,instance] def iCalF212:=CalF.mk Tryz.call212
@[reducible,instance] def iCalF213:=CalF.mk Tryz.call213
@[reducible,instance] def iCalF214:=CalF.mk Tryz.call214
@[reducible,instance] def iCalF215:=CalF.mk Tryz.call215
@[reducible,instance] def iCalF218:=CalF.mk Tryz.call218
@[reducible,instance] def iCalF219:=CalF.mk Tryz.call219
@[reducible,instance] def iCalF220:=CalF.mk Tryz.call220
@[reducible,instance] def iCalF221:=CalF.mk Tryz.call221
@[reducible,instance] def iCalF222:=CalF.mk Tryz.call222
@[reducible,instance] def iCalF223:=CalF.mk Tryz.call223
@[reducible,instance] def iCalF224:=CalF.mk Tryz.call224
@[reducible,instance] def iCalF225:=CalF.mk Tryz.call225
@[reducible,instance] def iCalF226:=CalF.mk Tryz.call226
@[reducible,instance] def iCalF227:=CalF.mk Tryz.call227
@[reducible,instance] def iCalF228:=CalF.mk Tryz.call228
@[reducible,instance] def iCalF229:=CalF.mk Tryz.call229
@[reducible,instance] def iCalF230:=CalF.mk Tryz.call230
@[reducible,instance] def iCalF231:=CalF.mk Tryz.call231
@[reducible,instance] def iCalF232:=CalF.mk Tryz.call232
@[reducible,instance] def iCalF233:=CalF.mk Tryz.call233
@[reducible,instance] def iCalF234:=CalF.mk Tryz.call234
@[reducible,instance] def iCalF235:=CalF.mk Tryz.call235
@[reducible,instance] def iCalF236:=CalF.mk Tryz.call236
@[reducible,instance] def iCalF237:=CalF.mk Tryz.call237
@[reducible,instance] def iCalF238:=CalF.mk Tryz.call238
@[reducible,instance] def iCalF239:=CalF.mk Tryz.call239
@[reducible,instance] def iCalF240:=CalF.mk Tryz.call240
@[reducible,instance] def iCalF241:=CalF.mk Tryz.call241
@[reducible,instance] def iCalF242:=CalF.mk Tryz.call242
@[reducible,instance] def iCalF243:=CalF.mk Tryz.call243
@[reducible,instance] def iCalF244:=CalF.mk Tryz.call244
@[reducible,instance] def iCalF245:=CalF.mk Tryz.call245
@[reducible,instance] def iCalF246:=CalF.mk Tryz.call246
@[reducible,instance] def iCalF247:=CalF.mk Tryz.call247
@[reducible,instance] def iCalF248:=CalF.mk Tryz.call248
@[reducible,instance] def iCalF249:=CalF.mk Tryz.call249
instance:EncT Tryz.prog 111 1 Nc:=⟨pU⟩
instance:EncE 1 Nc:=⟨_,_,pU⟩
instance:EncT Tryz.prog 5 1 Zf1:=⟨pB⟩
instance:EncE 1 Zf1:=⟨_,_,pB⟩
instance:EncT Tryz.prog 3 1 Ka:=⟨pN⟩
instance:EncE 1 Ka:=⟨_,_,pN⟩
instance:EncT Tryz.prog 3 1 Ym:=⟨pZ⟩
instance:EncE 1 Ym:=⟨_,_,pZ⟩
instance:EncT Tryz.prog 93 2 Zqr:=⟨pW⟩
instance:EncE 2 Zqr:=⟨_,_,pW⟩
instance:EncT Tryz.prog 93 2 wv:=⟨pV⟩
instance:EncE 2 wv:=⟨_,_,pV⟩
instance:EncT Tryz.prog 77 2 Kn:=⟨pI⟩
instance:EncE 2 Kn:=⟨_,_,pI⟩
instance {α:Type} : EncT Tryz.prog 39 1 (Hb (α:=α)):=⟨pS⟩
instance {α:Type} : EncE 1 (Hb (α:=α)):=⟨_,_,pS⟩
instance:EncT Tryz.prog 238 8 iq:=⟨pY⟩
instance:EncE 8 iq:=⟨_,_,pY⟩
instance:EncT Tryz.prog 129 4 rq:=⟨pQ⟩
instance:EncE 4 rq:=⟨_,_,pQ⟩
instance:EncT Tryz.prog 129 4 encQ:=⟨pR⟩
instance:EncE 4 encQ:=⟨_,_,pR⟩
@[reducible,instance] def iUnd24:=Und.mk Tryz.underlying24
@[reducible,instance] def iUnd26:=Und.mk Tryz.underlying26
@[reducible,instance] def iUnd29:=Und.mk Tryz.underlying29
@[reducible,instance] def iUnd45:=Und.mk Tryz.underlying45
@[reducible,instance] def iUnd64:=Und.mk Tryz.underlying64
@[reducible,instance] def iUnd80:=Und.mk Tryz.underlying80
@[reducible,instance] def iUnd90:=Und.mk Tryz.underlying90
@[reducible,instance] def iUnd106:=Und.mk Tryz.underlying106
@[reducible,instance] def iUnd124:=Und.mk Tryz.underlying124
@[reducible,instance] def iUnd130:=Und.mk Tryz.underlying130
@[reducible,instance] def iUnd173:=Und.mk Tryz.underlying173
@[reducible,instance] def iUnd174:=Und.mk Tryz.underlying174
@[reducible,instance] def iUnd227:=Und.mk Tryz.underlying227
@[reducible,instance] def iSiz24:=Siz.mk Tryz.sizeOf24
@[reducible,instance] def iSiz26:=Siz.mk Tryz.sizeOf26
@[reducible,instance] def iSiz29:=Siz.mk Tryz.sizeOf29
@[reducible,instance] def iSiz52:=Siz.mk Tryz.sizeOf52
@[reducible,instance] def iSiz90:=Siz.mk Tryz.sizeOf90
@[reducible,instance] def iSiz124:=Siz.mk Tryz.sizeOf124
@[reducible,instance] def iSiz130:=Siz.mk Tryz.sizeOf130
@[reducible,instance] def iSiz151:=Siz.mk Tryz.sizeOf151
@[reducible,instance] def iSiz173:=Siz.mk Tryz.sizeOf173
@[reducible,instance] def iSiz174:=Siz.mk Tryz.sizeOf174
@[reducible,instance] def iAgg3:=Agg.mk Tryz.isAgg3
@[reducible,instance] def iAgg24:=Agg.mk Tryz.isAgg24
@[reducible,instance] def iAgg26:=Agg.mk Tryz.isAgg26
@[reducible,instance] def iAgg29:=Agg.mk Tryz.isAgg29
@[reducible,instance] def iAgg52:=Agg.mk Tryz.isAgg52
@[reducible,instance] def iAgg90:=Agg.mk Tryz.isAgg90
@[reducible,instance] def iAgg124:=Agg.mk Tryz.isAgg124
@[reducible,instance] def iAgg130:=Agg.mk Tryz.isAgg130
@[reducible,instance] def iAgg151:=Agg.mk Tryz.isAgg151
@[reducible,instance] def iAgg174:=Agg.mk Tryz.isAgg174
@[reducible,instance] def iZer4:=Zer.mk Tryz.zeroValue4
@[reducible,instance] def iZer24:=Zer.mk Tryz.zeroValue24
@[reducible,instance] def iZer26:=Zer.mk Tryz.zeroValue26
@[reducible,instance] def iZer31:=Zer.mk Tryz.zeroValue31
@[reducible,instance] def iZer52:=Zer.mk Tryz.zeroValue52
@[reducible,instance] def iZer90:=Zer.mk Tryz.zeroValue90
@[reducible,instance] def iZer124:=Zer.mk Tryz.zeroValue124
@[reducible,instance] def iZer130:=Zer.mk Tryz.zeroValue130
@[reducible,instance] def iZer151:=Zer.mk Tryz.zeroValue151
@[reducible,instance] def iZer174:=Zer.mk Tryz.zeroValue174
@[reducible,instance] def iZer227:=Zer.mk Tryz.zeroValue227
@[reducible,instance] def iCalF9:=CalF.mk Tryz.call9
@[reducible,instance] def iCalF10:=CalF.mk Tryz.call10
@[reducible,instance] def iCalF11:=CalF.mk Tryz.call11
@[reducible,instance] def iCalF12:=CalF.mk Tryz.call12
@[reducible,instance] def iCalF13:=CalF.mk Tryz.call13
@[reducible,instance] def iCalF14:=CalF.mk Tryz.call14
@[reducible,instance] def iCalF15:=CalF.mk Tryz.call15
@[reducible,instance] def iCalF16:=CalF.mk Tryz.call16
@[reducible,instance] def iCalF17:=CalF.mk Tryz.call17
@[reducible,instance] def iCalF18:=CalF.mk Tryz.call18
@[reducible,instance] def iCalF19:=CalF.mk Tryz.call19
@[reducible,instance] def iCalF20:=CalF.mk Tryz.call20
@[reducible,instance] def iCalF21:=CalF.mk Tryz.call21
@[reducible,instance] def iCalF22:=CalF.mk Tryz.call22
@[reducible,instance] def iCalF23:=CalF.mk Tryz.call23
@[reducible,instance] def iCalF24:=CalF.mk Tryz.call24
@[reducible,instance] def iCalF27:=CalF.mk Tryz.call27
@[reducible,instance] def iCalF32:=CalF.mk Tryz.call32
@[reducible,instance] def iCalF33:=CalF.mk Tryz.call33
@[reducible,instance] def iCalF34:=CalF.mk Tryz.call34
@[reducible,instance] def iCalF35:=CalF.mk Tryz.call35
@[reducible,instance] def iCalF36:=CalF.mk Tryz.call36
@[reducible,instance] def iCalF37:=CalF.mk Tryz.call37
@[reducible,instance] def iCalF40:=CalF.mk Tryz.call40
@[reducible,instance] def iCalF41:=CalF.mk Tryz.call41
@[reducible,instance] def iCalF46:=CalF.mk Tryz.call46
@[reducible,instance] def iCalF47:=CalF.mk Tryz.call47
@[reducible,instance] def iCalF48:=CalF.mk Tryz.call48
@[reducible,instance] def iCalF49:=CalF.mk Tryz.call49
@[reducible,instance] def iCalF51:=CalF.mk Tryz.call51
@[reducible,instance] def iCalF52:=CalF.mk Tryz.call52
@[reducible,instance] def iCalF53:=CalF.mk Tryz.call53
@[reducible,instance] def iCalF57:=CalF.mk Tryz.call57
@[reducible,instance] def iCalF58:=CalF.mk Tryz.call58
@[reducible,instance] def iCalF69:=CalF.mk Tryz.call69
@[reducible,instance] def iCalF70:=CalF.mk Tryz.call70
@[reducible,instance] def iCalF72:=CalF.mk Tryz.call72
@[reducible,instance] def iCalF73:=CalF.mk Tryz.call73
@[reducible,instance] def iCalF74:=CalF.mk Tryz.call74
@[reducible,instance] def iCalF75:=CalF.mk Tryz.call75
@[reducible,instance] def iCalF81:=CalF.mk Tryz.call81
@[reducible,instance] def iCalF84:=CalF.mk Tryz.call84
@[reducible,instance] def iCalF85:=CalF.mk Tryz.call85
@[reducible,instance] def iCalF86:=CalF.mk Tryz.call86
@[reducible,instance] def iCalF90:=CalF.mk Tryz.call90
@[reducible,instance] def iCalF95:=CalF.mk Tryz.call95
@[reducible,instance] def iCalF96:=CalF.mk Tryz.call96
@[reducible,instance] def iCalF97:=CalF.mk Tryz.call97
@[reducible,instance] def iCalF114:=CalF.mk Tryz.call114
@[reducible,instance] def iCalF115:=CalF.mk Tryz.call115
@[reducible,instance] def iCalF116:=CalF.mk Tryz.call116
@[reducible,instance] def iCalF117:=CalF.mk Tryz.call117
@[reducible,instance] def iCalF119:=CalF.mk Tryz.call119
@[reducible,instance] def iCalF121:=CalF.mk Tryz.call121
@[reducible,instance] def iCalF132:=CalF.mk Tryz.call132
@[reducible,instance] def iCalF133:=CalF.mk Tryz.call133
@[reducible,instance] def iCalF138:=CalF.mk Tryz.call138
@[reducible,instance] def iCalF139:=CalF.mk Tryz.call139
@[reducible,instance] def iCalF140:=CalF.mk Tryz.call140
@[reducible,instance] def iCalF150:=CalF.mk Tryz.call150
@[reducible,instance] def iCalF173:=CalF.mk Tryz.call173
@[reducible,instance] def iCalF174:=CalF.mk Tryz.call174
end Go.Sky

