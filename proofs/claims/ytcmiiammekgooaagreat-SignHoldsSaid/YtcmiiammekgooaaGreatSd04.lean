/- rules, arithmetic and contracts: part 5
   Proved without conditions of its own: each theorem bears its own. -/
import Derived.Test.YtcmiiammekgooaaGreatSd03
import Derived.Test.YtcmiiammekgooaaGreatSd02
set_option linter.all false
namespace Go.Sky
def Psim(a b:List Int):Prop:=∃m n:Int,0<m∧0<n∧∀i,m*cf a i=n*cf b i
theorem Psim.refl(a:List Int):Psim a a:=⟨1,1,by decide,by decide,fun _=>rfl⟩
theorem Psim.symm{a b:List Int} : Psim a b→Psim b a:=fun⟨m,n,hm,hn,h⟩=>⟨n,m,hn,hm,fun i=>(h i).symm⟩
theorem Psim.trans{a b c:List Int} : Psim a b→Psim b c→Psim a c:=fun⟨m,n,hm,hn,h⟩ ⟨u,v,hu,hv,k⟩=>
 ⟨m*u,n*v,Int.mul_pos hm hu,Int.mul_pos hn hv,fun i=>by have h1:=h i;have h2:=k i;grind⟩
theorem Psim.sim{a b:List Int} : Psim a b→Sim a b:=fun⟨m,n,hm,hn,h⟩=>⟨m,n,by omega,by omega,h⟩
theorem Za9{p:List Int}(h:Tr p):Psim (Xg p) p:=by
 by_cases h0:p=[]
 ·subst h0;exact Psim.refl _
 ·exact⟨Ql p,1,by have:=Nf p;have:=Cz h h0;omega,by decide,fun i=>by rw [Int.one_mul,Int.mul_comm];exact Hb p i⟩
theorem Zfp{a b:List Int}(ha:Tr a)(hb:Tr b)(h:Psim a b):Xg a=Xg b:=by
 by_cases h0:a=[]
 ·rw [h.sim.nil hb h0,h0]
 ·have h0':b≠[]:=fun e=>h0 (h.sim.symm.nil ha e)
  obtain⟨m,n,hm,hn,e⟩:=(Za9 ha).trans (h.trans (Za9 hb).symm)
  have hx:=Xn ha
  have hy:=Xn hb
  have hs:Sim (Xg a) (Xg b):=⟨m,n,by omega,by omega,e⟩
  have hx0:Xg a≠[]:=fun e=>h0 (List.eq_nil_of_length_eq_zero (by rw [←Ym,e];rfl))
  rcases Zgl hx hy hx0 (Mu ha h0) (Mu hb h0') hs with h1 | h1
  ·exact h1
  ·exfalso
   have h2:=hx.mem hx0
   have h3:=e ((Xg a).length-1)
   have h4:=h1 ((Xg a).length-1)
   rw [h4]at h3 h2
   generalize cf (Xg b) ((Xg a).length-1)=z at h3 h2
   rw [Int.mul_neg]at h3
   have h5:(m+n)*z=0:=by rw [Int.add_mul];omega
   rcases Int.mul_eq_zero.1 h5 with h6 | h6<;>omega
def Zg1(y:List Int):Int:=if cf y (y.length-1)<0 then-cf y (y.length-1)else cf y (y.length-1)
def rb(x y:List Int):Int:=if cf y (y.length-1)<0 then-cf x (x.length-1)else cf x (x.length-1)
def Zdw(x y:List Int):List Int:=Zoi (Xr x (Zg1 y)) (shm y (rb x y) (x.length-y.length) y.length)
def Zfl:Nat→List Int→List Int→List Int
 | 0,x,_=>x
 | f+1,x,y=>if x.length<y.length then x else Zfl f (Zdw x y) y
theorem Ziw{x y:List Int}(hx:Tr x)(hy:0<y.length)(hl:y.length≤x.length):(Zdw x y).length<x.length:=by
 have h:=Cn (p:=Zdw x y) (n:=x.length-1) fun i hi=>by
  unfold Zdw
  rw [Ci,Qh,cf_shm]
  by_cases he:i=x.length-1
  ·subst he
   rw [if_pos (by omega),show x.length-1-(x.length-y.length)=y.length-1 by omega]
   unfold Zg1 rb
   split
   ·grind
   ·grind
  ·rw [Qe (p:=x) (by omega),if_neg (by omega)];omega
 rw [show tzl (Zdw x y)=Zdw x y from Zbv (Zpj _ _)]at h
 omega
theorem Zuy(x:List Int){y:List Int}(t:Nat):Zg1 y*cf x t=(ps (mono (x.length-y.length) (rb x y))*ps y).c t+cf (Zdw x y) t:=by
 unfold Zdw
 rw [Zha,Ci,Qh,cf_shm,Ip]
 by_cases h1:x.length-y.length≤t
 ·rw [if_pos h1]
  by_cases h2:t<x.length-y.length+y.length
  ·rw [if_pos ⟨h1,h2⟩,Int.mul_comm (cf x t)];omega
  ·rw [if_neg (by omega),Qe (p:=y) (by omega),Int.mul_comm (cf x t)];omega
 ·rw [if_neg h1,if_neg (by omega),Int.mul_comm (cf x t)];omega
theorem Zcp{y:List Int}(hy:Tr y)(h0:y≠[]):0<Zg1 y:=by
 have:=hy.mem h0
 unfold Zg1;split<;>omega
theorem Zdv{y:List Int}(hy:Tr y)(h0:y≠[]):∀(f:Nat) (x:List Int),Tr x→x.length<y.length+f→Tr (Zfl f x y)∧(Zfl f x y).length<y.length∧∃(k:Nat) (s:List Int),∀t,Zg1 y^k*cf x t=(ps s*ps y).c t+cf (Zfl f x y) t
 | 0,x,hx,hl=>⟨hx,hl,0,[],fun t=>by rw [La (fun t=>Qe (Nat.zero_le _)),Int.pow_zero];unfold Zfl;omega⟩
 | f+1,x,hx,hl=>by
  unfold Zfl
  by_cases h:x.length<y.length
  ·rw [if_pos h]
   exact⟨hx,h,0,[],fun t=>by rw [La (fun t=>Qe (Nat.zero_le _)),Int.pow_zero];omega⟩
  ·rw [if_neg h]
   have h1:=Ziw hx (List.length_pos_iff.2 h0) (by omega)
   obtain⟨h2,h3,k,s,hs⟩:=Zdv hy h0 f (Zdw x y) (Zpj _ _) (by omega)
   refine⟨h2,h3,k+1,Zoi (Xr s 1) (Xr (mono (x.length-y.length) (rb x y)) (-(Zg1 y^k))),fun t=>?_⟩
   have h4:=hs t
   have h5:=Zuy x (y:=y) t
   rw [Zg9,Int.pow_succ]
   generalize Zg1 y^k=K at *
   generalize Zg1 y=a at *
   generalize (ps (mono (x.length-y.length) (rb x y))*ps y).c t=M at *
   generalize (ps s*ps y).c t=S at *
   generalize cf (Zdw x y) t=X at *
   generalize cf (Zfl f (Zdw x y) y) t=Z at *
   have:K*a*cf x t=K*(a*cf x t):=by grind
   rw [this,h5];grind
theorem Zmj(l:Int)(h:l≠0):∀n:Nat,(l<0∧n%2=1→l^n<0)∧(¬(l<0∧n%2=1)→0<l^n)
 | 0=>⟨fun h=>by omega,fun _=>by rw [Int.pow_zero];decide⟩
 | n+1=>by
  have ih:=Zmj l h n
  rw [Int.pow_succ]
  by_cases h1:l<0
  ·by_cases h2:n%2=1
   ·have h3:=ih.1 ⟨h1,h2⟩
    exact⟨fun h=>by omega,fun _=>Int.mul_pos_of_neg_of_neg h3 h1⟩
   ·have h3:=ih.2 (by omega)
    exact⟨fun _=>Int.mul_neg_of_pos_of_neg h3 h1,fun h=>by omega⟩
  ·have h3:=ih.2 (by omega)
   exact⟨fun h=>by omega,fun _=>Int.mul_pos h3 (by omega)⟩
def Zka(p:List Int):List Int:=Xr p (-1)
theorem Fi(p:List Int)(i:Nat):cf (Zka p) i=- cf p i:=by unfold Zka;rw [Qh];omega
theorem Zoj{p:List Int}(h:Tr p):Xg (Zka p)=Zka (Xg p):=by
 have hc:Ql (Zka p)=Ql p:=by
  have d1:Ql (Zka p)∣Ql p:=He fun i=>by
   have h:=Ml (Zka p) i
   rw [Fi]at h;exact Int.dvd_neg.1 h
  have d2:Ql p∣Ql (Zka p):=He fun i=>by rw [Fi];exact Int.dvd_neg.2 (Ml p i)
  exact Int.dvd_antisymm (Nf _) (Nf _) d1 d2
 refine(Xn (Qu _ _)).ext (Qu _ _) fun i=>?_
 show cf (Xg (Zka p)) i=cf (Zka (Xg p)) i
 rw [Fi,Bf,Fi,hc,Bf]
 exact Int.neg_ediv_of_dvd (Ml p i)
theorem Zdm{x y:List Int}{f:Nat}(hx:Tr x)(hy:Tr y)(h0:y≠[])(hl:y.length≤x.length)(hf:x.length<y.length+f):Xg (Zka (Zfl f x y))=Ld x y:=by
 obtain⟨tr,lr,k,s,hs⟩:=Zdv hy h0 f x hx hf
 have ly:=List.length_pos_iff.2 h0
 obtain⟨s2,hs2⟩:=Zdt (p:=x) ly hl _ (Nat.le_refl _)
 have hp:∀t,cf (Oc x y (x.length-y.length+1)) t=cf (Pz x y) t:=fun t=>by
  unfold Pz;rw [if_neg (by omega),Kq]
 have lp:=Pp x h0
 have htp:=Ke (q:=y) hx
 have hlead:=hy.mem h0
 have hK:0<Zg1 y^k:=Int.pow_pos (Zcp hy h0)
 have hsg:=Zmj (cf y (y.length-1)) hlead (x.length-y.length+1)
 generalize hL:cf y (y.length-1)^(x.length-y.length+1)=L at hs2 hsg
 have hL0:L≠0:=by rw [←hL];exact Lb hlead _
 generalize Zg1 y^k=K at hs hK
 have key:∀t,(ps (Zoi (Xr s2 K) (Xr s L))*ps y).c t=cf (Zoi (Xr (Zfl f x y) L) (Xr (Pz x y) K)) t:=fun t=>by
  rw [Zg9,Ci,Qh,Qh,←hp t]
  have h1:=hs t
  have h2:=hs2 t
  generalize cf (Oc x y (x.length-y.length+1)) t=A at *
  grind
 have z:=mul_low hy h0 key fun t ht=>by
  rw [Ci,Qh,Qh,Qe (p:=Zfl f x y) (by omega),Qe (p:=Pz x y) (by omega)];omega
 have e:∀t,L*cf (Zfl f x y) t=K*cf (Pz x y) t:=fun t=>by
  have h1:=key t
  rw [La z,Ci,Qh,Qh]at h1
  grind
 unfold Ld
 by_cases hc:cf y (y.length-1)<0∧(x.length-y.length+1)%2=1
 ·rw [if_pos hc]
  have hn:=hsg.1 hc
  exact Zfp (Qu _ _) htp ⟨-L,K,by omega,hK,fun t=>by rw [Fi,←e];grind⟩
 ·rw [if_neg hc]
  have hn:=hsg.2 hc
  rw [show Xr (Xg (Pz x y)) (-1)=Zka (Xg (Pz x y))from rfl,←Zoj htp]
  exact Zfp (Qu _ _) (Qu _ _) ⟨L,K,hn,hK,fun t=>by
   rw [Fi,Fi,Int.mul_neg,e,Int.mul_neg]⟩
theorem Ao{x y:List Int}(hx:Tr x):Tr (Ld x y):=by
 unfold Ld;split
 ·exact Xn (Ke hx)
 ·exact Qu _ _
theorem Dw{x y:List Int}(hx:Tr x):(Ld x y).length=(Pz x y).length:=by
 unfold Ld
 have h:Tr (Xg (Pz x y)):=Xn (Ke hx)
 split
 ·exact Ym _
 ·rw [←Ym (Pz x y)]
  exact((Za5 (Xg (Pz x y)) (by decide:(-1:Int)≠0)).len h (Qu _ _)).symm
theorem Zpm{n:Nat}{p:List Int}(h:Sz n p):Sz n (nrm p):=fun i=>by
 unfold nrm;rw [Hq];split
 ·rw [Int.natAbs_neg];exact Gq h i
 ·exact Gq h i
theorem Ziq{p:List Int}(h:Tr p)(h0:p≠[]):nrm p≠[]:=fun e=>h0 (List.eq_nil_of_length_eq_zero (by rw [←Pk h,e];rfl))
theorem Ee{g:List Int}(h:Tr g)(h0:g≠[]):0<cf (Gb g) ((Gb g).length-1):=by
 have h1:=h.mem h0
 rw [Dx h,Hq]
 have:g.length≠0:=fun e=>h0 (List.eq_nil_of_length_eq_zero e)
 split<;>omega
theorem Dt{p:List Int}(h:Tr p)(h0:p≠[]):Ql (nrm p)=1:=by unfold nrm;rw [Zd3];exact Mu h h0
theorem Zq7{p:List Int}(h:Tr p)(h1:Ql p=1)(h2:0<cf p (p.length-1)):nrm p=p:=by
 unfold nrm;rw [Zb3 h1];unfold Gb;rw [if_neg (by omega)]
theorem Ou{xs:List Int}{F:Nat}(hx:Tr xs)(h0:xs≠[])(hok:eok F (gA (nrm xs) (Pi (nrm xs))) (gB (nrm xs) (Pi (nrm xs)))) :
  pdv (nrm xs) (Hc F (nrm xs) (Pi (nrm xs)))∧Tr (sqf F xs)∧sqf F xs≠[]∧nrm xs=Nr (sqf F xs) (Hc F (nrm xs) (Pi (nrm xs)))∧Hc F (nrm xs) (Pi (nrm xs))≠[]∧nrm (sqf F xs)=sqf F xs:=by
 have hs:Tr (nrm xs):=Ox (Xn hx)
 have hd:Tr (Pi (nrm xs)):=Mh hs
 have hs0:=Ziq hx h0
 have hdv:=(Zba hs hd hok).1
 have htg:=Zdb (F:=F) hs hd
 have hg0:Hc F (nrm xs) (Pi (nrm xs))≠[]:=fun e=>hs0 ((e▸hdv).zero hs)
 have hc:=Zfs hs hd hg0
 obtain⟨k,s,hk,h⟩:=hdv
 obtain⟨q,hq⟩:=gauss hc _ k s rfl hk h
 have hqe:nrm xs=Nr (tzl q) (Hc F (nrm xs) (Pi (nrm xs))):=hs.ext (Qv _ _) fun i=>by
  rw [Kz,hq,ps_tzl]
 obtain⟨p1,p2⟩:=Zkd (Om q) htg hg0
 have hsq:sqf F xs=tzl q:=by
  unfold sqf
  have p2':=p2
  rw [←hqe]at p2'
  exact p2'
 rw [←hqe]at p1
 have hq0:tzl q≠[]:=fun e=>hs0 (by rw [hqe,e,Km])
 refine⟨p1,by rw [hsq];exact Om q,by rw [hsq];exact hq0,by rw [hsq];exact hqe,hg0,?_⟩
 rw [hsq]
 refine Zq7 (Om q) ?_ ?_
 ·have h1:=Dt hx h0
  have h2:Ql (tzl q)∣Ql (nrm xs):=He fun i=>by
   rw [hqe,Kz,PS.mul_c]
   have key:∀m,Ql (tzl q)∣Qa (fun k=>(ps (tzl q)).c k*(ps (Hc F (nrm xs) (Pi (nrm xs)))).c (i-k)) m:=fun m=>by
    induction m with
    | zero=>exact Int.dvd_zero _
    | succ m ih=>rw [Xj];exact Int.dvd_add ih (Int.dvd_trans (Ml (tzl q) m) (Int.dvd_mul_right _ _))
   exact key _
  rw [h1]at h2
  have h3:=Nf (tzl q)
  have h4:=Int.le_of_dvd (by decide) h2
  have h5:Ql (tzl q)≠0:=Cz (Om q) hq0
  omega
 ·have l1:=List.length_pos_iff.2 hq0
  have l2:=List.length_pos_iff.2 hg0
  have h1:0<cf (nrm xs) ((nrm xs).length-1):=Ee (Xn hx) (fun e=>h0 (List.eq_nil_of_length_eq_zero (by rw [←Ym,e];rfl)))
  have h2:0<cf (Hc F (nrm xs) (Pi (nrm xs))) ((Hc F (nrm xs) (Pi (nrm xs))).length-1):=Ee (Zsb F (Zjp hs hd) (Zjo hs hd)) (fun e=>hg0 (by unfold Hc;rw [e];rfl))
  have h3:=Pw (Om q) htg hq0 hg0
  rw [←hqe]at h3
  have h4:cf (nrm xs) ((nrm xs).length-1)=cf (tzl q) ((tzl q).length-1)*cf (Hc F (nrm xs) (Pi (nrm xs))) ((Hc F (nrm xs) (Pi (nrm xs))).length-1):=by
   rw [h3,hqe,Kz,←hqe,show(tzl q).length+(Hc F (nrm xs) (Pi (nrm xs))).length-1-1=((tzl q).length-1)+((Hc F (nrm xs) (Pi (nrm xs))).length-1) by omega]
   exact Dd (fun i hi=>Qe (by omega)) (fun i hi=>Qe (by omega))
  rw [h4]at h1
  rcases Int.lt_or_le 0 (cf (tzl q) ((tzl q).length-1))with h5 | h5
  ·exact h5
  ·exfalso
   have:=Int.mul_nonpos_of_nonpos_of_nonneg h5 (Int.le_of_lt h2)
   omega
theorem Nm(p:List Int):(Pi p).length=p.length-1:=Xi _ _
theorem Zsu{p:List Int}{n:Nat}(hp:Sz n p)(hl:p.length≤25)(i:Nat):bl (cf p (i+1)*((i:Int)+1)).natAbs≤n+5:=by
 rcases Nat.lt_or_ge (i+1) p.length with h | h
 ·have h1:=Qb (cf p (i+1)) ((i:Int)+1)
  have h2:=hp (i+1)
  have h3:bl ((i:Int)+1).natAbs≤5:=(Md 5 _).2 (by omega)
  omega
 ·rw [Qe h];simp [Lf]
theorem Zc0(p:List Int)(i:Nat):cf (Pi p) i=cf p (i+1)*((i:Int)+1):=by
 unfold Pi
 rw [Ib]
 split
 ·rfl
 ·rw [Qe (by omega),Int.zero_mul]
theorem Co{p:List Int}{n:Nat}(hp:Sz n p)(hl:p.length≤25):Sz (n+5) (Pi p):=fun i=>by rw [Zc0];exact Zsu hp hl i
theorem Zc6{p:List Int}(h:Vp p)(hz:∀i,i<p.length→bl (cf p (i+1)*((i:Int)+1)).natAbs≤65536):Vp (Pi p):=by
 refine⟨fun i=>?_,Mh h.tr,by rw [Nm];have:=h.len;omega⟩
 rw [Zc0]
 by_cases hi:i<p.length
 ·exact hz i hi
 ·rw [Qe (by omega)];simp [Lf]
theorem sf_t{xs:List Int}(h:xs.length=0):Value.bool (decide (Za6 xs))= .bool true:=congrArg Value.bool (decide_eq_true (.inl h))
theorem sf_i{xs:List Int}{n:Int}(h:xs.length≠0)(hn:n=(((xs.length+2)*(xs.length+2)*(msz xs+16):Nat):Int)):Value.bool (decide (Za6 xs))= .bool (decide (n≤65536)):=congrArg Value.bool (decide_eq_decide.2 (by
 subst hn
 show(xs.length=0∨(xs.length+2)*(xs.length+2)*(msz xs+16)≤65536)↔_
 constructor
 ·intro h1;rcases h1 with h1 | h1
  ·exact absurd h1 h
  ·exact Int.ofNat_le.2 h1
 ·intro h1;exact .inr (Int.ofNat_le.1 h1)))
theorem Zps{x y:List Int}(h:(Pz x y).length=0):Ld x y=[]:=by
 have h1:Pz x y=[]:=List.eq_nil_of_length_eq_zero h
 unfold Ld;rw [h1];split<;>rfl
theorem snext_a{x y:List Int}(hl:y.length≤x.length)(h1:(cf y (y.length-1)).sign<0)(h2:((x.length:Int)-(y.length:Int)+1)%2=1):Ld x y=Xg (Pz x y):=by
 unfold Ld;rw [if_pos ⟨(Ph _).1 h1,by omega⟩]
theorem Zpu{x y:List Int}(h1:¬(cf y (y.length-1)).sign<0):Ld x y=Xr (Xg (Pz x y)) (-1):=by
 unfold Ld;rw [if_neg (fun h=>h1 ((Ph _).2 h.1))]
theorem Zpt{x y:List Int}(hl:y.length≤x.length)(h2:¬((x.length:Int)-(y.length:Int)+1)%2=1):Ld x y=Xr (Xg (Pz x y)) (-1):=by
 unfold Ld;rw [if_neg (fun h=>h2 (by omega))]
theorem Zpd{xs:List Int}{F:Nat}(hv:Vp xs)(h0:xs≠[])(h:sqOK F xs):Vp (sqf F xs):=by
 obtain⟨_,_,_,h4,h5⟩:=h
 have hn:=vp_nrm hv
 unfold sqf Iq
 split
 ·exact⟨Sz.nil _,Tr.nil,by simp⟩
 ·rename_i h6
  rcases h5 with h5 | h5
  ·exact absurd h5 h6
  ·have h7:=(Zbn h4).2 h5.1
   refine⟨?_,Om _,?_⟩
   ·rw [←Zcx];exact(Zpl h7 h5.2.1 _).tzl
   ·have h8:=Gp (Zox (nrm xs) (Hc F (nrm xs) (Pi (nrm xs))) ((nrm xs).length-(Hc F (nrm xs) (Pi (nrm xs))).length+1))
    rw [Zcx,Bv]at h8
    have:=hn.len
    have:=(Zbn h4).1
    omega
theorem Zfv{xs:List Int}{F:Nat}(hv:Vp xs)(h:sqOK F xs):(sqf F xs).length≤xs.length:=by
 obtain⟨_,_,_,h4,h5⟩:=h
 have hl:=Pk hv.tr
 unfold sqf Iq
 split
 ·exact Nat.zero_le _
 ·rename_i h6
  rcases h5 with h5 | h5
  ·exact absurd h5 h6
  ·have h8:=Gp (Zox (nrm xs) (Hc F (nrm xs) (Pi (nrm xs))) ((nrm xs).length-(Hc F (nrm xs) (Pi (nrm xs))).length+1))
   rw [Zcx,Bv]at h8
   have:=(Zbn h4).1
   have:=h5.1
   omega
theorem Zwm{L:List Int}{i:Nat}{n l s:Int}(hi:i<L.length)(h:(n,l)=(L.take i).foldl Hf (0,0))(hs:L.getD i 0=s)(h0:s=0):(n,l)=(L.take (i+1)).foldl Hf (0,0):=by
 rw [On 0 L i hi,Zbh,←h,hs];unfold Hf;rw [if_pos h0]
theorem Zwl{L:List Int}{i:Nat}{n l s:Int}(hi:i<L.length)(h:(n,l)=(L.take i).foldl Hf (0,0))(hs:L.getD i 0=s)(h0:s≠0)(h1:s=-l):(n+1,s)=(L.take (i+1)).foldl Hf (0,0):=by
 rw [On 0 L i hi,Zbh,←h,hs];unfold Hf;rw [if_neg h0];dsimp only;rw [if_pos h1]
theorem Zwk{L:List Int}{i:Nat}{n l s:Int}(hi:i<L.length)(h:(n,l)=(L.take i).foldl Hf (0,0))(hs:L.getD i 0=s)(h0:s≠0)(h1:¬s=-l):(n,s)=(L.take (i+1)).foldl Hf (0,0):=by
 rw [On 0 L i hi,Zbh,←h,hs];unfold Hf;rw [if_neg h0];dsimp only;rw [if_neg h1]
theorem chg_end{L:List Int}{i:Nat}{n l:Int}(hi:L.length≤i)(h:(n,l)=(L.take i).foldl Hf (0,0)):n=chg L:=by
 rw [List.take_of_length_le hi]at h
 unfold chg;rw [←h]
theorem Zus(z:Int):-1≤z.sign∧z.sign≤1:=by
 rcases Int.lt_trichotomy z 0 with h | h | h
 ·rw [Int.sign_eq_neg_one_of_neg h];omega
 ·subst h;simp
 ·rw [Int.sign_eq_one_of_pos h];omega
theorem Zvs{α:Type}(d:α)(f:α→Int)(ls:List α){i:Nat}(h:i<ls.length):(ls.map f).getD i 0=f (ls.getD i d):=by
 simp [List.getD_eq_getElem?_getD,h]
def sgx(ls:List (SL×List Int))(f:List Int→Int):List Int:=ls.map fun z=>f z.2
theorem Zl3(ls:List (SL×List Int))(f:List Int→Int){i:Nat}(h:i<ls.length):(sgx ls f).getD i 0=f (ls.getD i ((none,0,0),[])).2:=Zvs _ _ _ h
theorem Zfw(ls:List (SL×List Int))(f:List Int→Int):(sgx ls f).length=ls.length:=List.length_map ..
def fr(p:List Int):Int:=(cf p (p.length-1)).sign
def fl(p:List Int):Int:=if p.length%2=0 then-(cf p (p.length-1)).sign else(cf p (p.length-1)).sign
def fat(x y:Int)(p:List Int):Int:=(pev p x y).sign
theorem fat_r(x y:Int)(p:List Int):-1≤fat x y p∧fat x y p≤1:=Zus _
theorem Zh1:∀(f:Nat) {x y:List Int},Vp x→Vp y→cok f x y→∀p∈Mx f x y,Vp p
 | 0,x,y,hx,_,_,p,hp=>by rw [List.mem_singleton.1 hp];exact hx
 | f+1,x,y,hx,hy,h,p,hp=>by
  unfold Mx at hp
  split at hp
  ·rw [List.mem_singleton.1 hp];exact hx
  ·rcases h with h | h
   ·contradiction
   ·rcases List.mem_cons.1 hp with rfl | hp
    ·exact hx
    ·exact Zh1 f hy (Zlt hx h.1) h.2.2 p hp
theorem vp_chn{xs:List Int}{F:Nat}(hv:Vp xs)(h0:xs≠[])(hC:Ze8 F xs):∀p∈chn F xs,Vp p:=by
 obtain⟨h1,h2,h3⟩:=hC
 have hq:=Zpd hv h0 h1
 exact Zh1 F hq (Ku (Zc6 hq (fun i hi=>h2 i (by have:=Zfv hv h1;omega)))) h3
def cnt(F:Nat)(xs:List Int)(x y:Int):Int:=chg ((chn F xs).map (fat x y))
def sright(F:Nat)(xs:List Int):Int:=chg ((chn F xs).map fr)
def sleft(F:Nat)(xs:List Int):Int:=chg ((chn F xs).map fl)
theorem Zp0{ls:List (SL×List Int)}{C:List (List Int)}(h:ls.map Prod.snd=C)(f:List Int→Int):sgx ls f=C.map f:=by
 rw [←h,List.map_map];rfl
theorem Xs{ls:List (SL×List Int)}{C:List (List Int)}{p:List Int→Prop}(h:ls.map Prod.snd=C)(hp:∀q∈C,p q):∀z∈ls,p z.2:=fun z hz=>hp _ (h▸List.mem_map_of_mem hz)
theorem Zeo(L:List Int):0≤chg L∧chg L≤L.length:=by
 unfold chg
 suffices h:∀(l:List Int) (s:Int×Int),s.1≤(l.foldl Hf s).1∧(l.foldl Hf s).1≤s.1+l.length by
  have:=h L (0,0);simpa using this
 intro l
 induction l with
 | nil=>intro s;simp
 | cons x l ih=>
  intro s
  have h1:=ih (Hf s x)
  have h2:=chg1_n s x
  simp only [List.foldl_cons,List.length_cons]
  omega
theorem Zag:∀(f:Nat) (x y:List Int),(Mx f x y).length≤f+1
 | 0,x,y=>Nat.le_refl _
 | f+1,x,y=>by
  unfold Mx;split
  ·simp
  ·have:=Zag f y (Ld x y);simp;omega
def sm(xs:List Int)(i:Nat):Nat:=(xs.take i).foldl (fun m c=>max m c.natAbs) 0
theorem Zd7{x y:Int}(h:¬Ik x y):Zcn x y=x/Ga x y∧Zb0 x y=y/Ga x y∧rerr x y=0:=⟨if_neg h,if_neg h,if_neg h⟩
theorem nr_bl{x y:Int}(h:¬Ik x y):bl (Zcn x y).natAbs≤65536∧bl (Zb0 x y).natAbs≤65536:=by
 obtain⟨h1,h2,_⟩:=Zd7 h
 rw [h1,h2]
 unfold Ik at h
 omega
theorem Zq8{x y:Int}(h:¬Ik x y)(hy:0<y):0<Zb0 x y:=by
 rw [(Zd7 h).2.1];exact Zrq hy
abbrev R2:=Int×Int
def Mi(a b:R2):R2:=(Zcn (Zcn (a.1*b.2+b.1*a.2) (a.2*b.2)*1) (Zb0 (a.1*b.2+b.1*a.2) (a.2*b.2)*2),Zb0 (Zcn (a.1*b.2+b.1*a.2) (a.2*b.2)*1) (Zb0 (a.1*b.2+b.1*a.2) (a.2*b.2)*2))
def Ze4(a b:R2):Prop:=¬Ik (a.1*b.2+b.1*a.2) (a.2*b.2)∧¬Ik (Zcn (a.1*b.2+b.1*a.2) (a.2*b.2)*1) (Zb0 (a.1*b.2+b.1*a.2) (a.2*b.2)*2)
instance (a b:R2):Decidable (Ze4 a b):=by unfold Ze4;infer_instance
theorem Zrj{a b:R2}(h:Ze4 a b):rerr (Zcn (a.1*b.2+b.1*a.2) (a.2*b.2)*1) (Zb0 (a.1*b.2+b.1*a.2) (a.2*b.2)*2)=0:=(Zd7 h.2).2.2
def isp(cv:R2→Int)(hv:Int):Nat→R2→R2→Int→Int→Nat→List (R2×R2)
 | 0,_,_,_,_,_=>[]
 | f+1,a,b,fr,to,d=>if fr=to then []else if fr-to=1∧hv≤(d:Int)then [(a,b)]else isp cv hv f a (Mi a b) fr (cv (Mi a b)) (d+1) ++ isp cv hv f (Mi a b) b (cv (Mi a b)) to (d+1)
def Zvy(cv:R2→Int)(ok:R2→Prop)(hv:Int):Nat→R2→R2→Int→Int→Nat→Prop
 | 0,_,_,_,_,_=>False
 | f+1,a,b,fr,to,d=>fr=to∨(fr-to=1∧hv≤(d:Int))∨(d<1000∧Ze4 a b∧ok (Mi a b)∧Zvy cv ok hv f a (Mi a b) fr (cv (Mi a b)) (d+1)∧Zvy cv ok hv f (Mi a b) b (cv (Mi a b)) to (d+1))
instance ispDec (cv:R2→Int) (ok:R2→Prop) [DecidablePred ok] (hv:Int):∀f a b fr to d,Decidable (Zvy cv ok hv f a b fr to d)
 | 0,_,_,_,_,_=>inferInstanceAs (Decidable False)
 | f+1,a,b,fr,to,d=>@instDecidableOr _ _ _ (@instDecidableOr _ _ _ (@instDecidableAnd _ _ _ (@instDecidableAnd _ _ _ (@instDecidableAnd _ _ _ (@instDecidableAnd _ _ (ispDec cv ok hv f a (Mi a b) fr (cv (Mi a b)) (d+1)) (ispDec cv ok hv f (Mi a b) b (cv (Mi a b)) to (d+1)))))))
def okQ(z:R2):Prop:=bl z.1.natAbs≤65536∧bl z.2.natAbs≤65536∧0<z.2
def evok(ls:List (SL×List Int))(m:R2):Prop:=∀z∈ls,¬Ka z.2 m.1 m.2
def cvx(ls:List (SL×List Int))(m:R2):Int:=chg (sgx ls (fat m.1 m.2))
def cvc(F:Nat)(xs:List Int)(m:R2):Int:=cnt F xs m.1 m.2
def evc(F:Nat)(xs:List Int)(m:R2):Prop:=∀p∈chn F xs,¬Ka p m.1 m.2
def slow(a:R2):R2:=(Zcn a.1 a.2,Zb0 a.1 a.2)
def sisol(F:Nat)(xs:List Int)(f:Nat)(a b:R2)(hq:Int):List (R2×R2):=isp (cvc F xs) hq f (slow a) (slow b) (cvc F xs a) (cvc F xs b) 0
def isOK(F:Nat)(xs:List Int)(f:Nat)(a b:R2)(hq:Int):Prop:=Ze8 F xs∧evc F xs a∧evc F xs b∧¬Ik a.1 a.2∧¬Ik b.1 b.2∧Zvy (cvc F xs) (evc F xs) hq f (slow a) (slow b) (cvc F xs a) (cvc F xs b) 0∧(sisol F xs f a b hq).length≤1000000
abbrev RWL:=List (Bool×ByteArray)
def smallR(r:RWL):Bool:=decide (r.length≤8) && r.all fun c=>decide (c.2.size≤6)
noncomputable def dec (r:RWL):List Int:=if h:okP r=true then(okP_ex h).choose else []
theorem Znm{r:RWL}(h:okP r=true):Vp (dec r)∧r=(dec r).map wr:=by
 unfold dec;rw [dif_pos h];exact(okP_ex h).choose_spec
noncomputable def bdE (r:RWL):Int:=if okP r=true then chk0 (dec r)else 2
noncomputable def bdZ (r:RWL):Int:=if bdE r=0 then sbound (dec r)else 0
theorem Zju{r:RWL}(h:okP r=true)(v:Value)(w:World)(hh:(slp 2 Zeg v r).holds w):(slp 2 wv v (dec r)).holds w:=
 Zpv v (dec r) w ((Znm h).2▸hh)
abbrev qT (z:SL×List (Int×SL)):Pc:=pp (svv z.1) z.2
abbrev T0:SL×List (Int×SL):=((none,0,0),[])
abbrev intsT (zs:List (SL×List (Int×SL))):List (List Int):=zs.map fun z=>Oz z.2
def firstE(r:RWL)(x y x2 y2:Int):Int:=if okP r=true then(if r.length=0∨0<x*y2-x2*y then 3 else 0)else 2
theorem Zje{n:Nat}(k:Nat)(h:(Qc n).size≤k):bl n≤8*k:=by
 have h1:=Lm n
 have h2:=Zed n
 omega
theorem ev_b{p:List Int}{x y:Int}(hs:Sz 1000000 p)(hl:p.length≤30)(hx:bl x.natAbs≤1000000)(hy:bl y.natAbs≤1000000):bl (pev p x y).natAbs≤100000010:=
 Zlj (fun t _=>ev_tb hs (fun k=>Zde hx k) (fun k=>Zde hy k) hl t) (by omega)
def chke:Nat→Nat→Nat→Nat→Nat→Bool
 | 0,la,_,A,_=>Nat.ble (A+la*64) 65500
 | f+1,la,lb,A,B=>Nat.ble (A+la*64) 65500 && (Nat.beq lb 0 || (List.range lb).all fun l=>chke f lb l B (bif Nat.ble l 1 then 2 else A+(la-lb+1)*B))
abbrev RZ:=(Bool×ByteArray)×(Bool×ByteArray)
abbrev Q0:RZ:=((false,⟨#[]⟩),(false,⟨#[]⟩))
def qOK(z:RZ):Bool:=okR z.1.1 z.1.2 z.2.1 z.2.2
noncomputable def qx (z:RZ):Int:=if h:okR z.1.1 z.1.2 z.2.1 z.2.2=true then(Zq2 h).choose else 0
noncomputable def qy (z:RZ):Int:=if h:okR z.1.1 z.1.2 z.2.1 z.2.2=true then(Zq2 h).choose_spec.choose else 0
theorem q_ok{z:RZ}(h:qOK z=true):bl (qx z).natAbs≤65536∧bl (qy z).natAbs≤65536∧0<qy z∧z=((decide (qx z<0),Qc (qx z).natAbs),(decide (qy z<0),Qc (qy z).natAbs)):=by
 have h':okR z.1.1 z.1.2 z.2.1 z.2.2=true:=h
 unfold qx qy
 rw [dif_pos h',dif_pos h']
 obtain⟨h1,h2,h3,e1,e2,e3,e4⟩:=(Zq2 h').choose_spec.choose_spec
 exact⟨h1,h2,h3,Prod.ext (Prod.ext e1 e2) (Prod.ext e3 e4)⟩
theorem vp_lit{l:List Int}(h1:∀x∈l,inI x)(h2:tzl l=l)(h3:l.length≤25):Vp l:=⟨Zdf h1,h2▸Om l,h3⟩
theorem Zrx{l:List Int}(h:(l.all fun x=>decide (-1000000≤x) && decide (x≤1000000))=true):∀x∈l,inI x:=fun x hx=>by
 have h1:=List.all_eq_true.1 h x hx
 simp only [Bool.and_eq_true,decide_eq_true_eq]at h1
 exact⟨by omega,by omega⟩
def litb(l:List Int):Bool:=(l.all fun x=>decide (-1000000≤x) && decide (x≤1000000)) && (decide (tzl l=l) && decide (l.length≤25))
theorem vp_b{l:List Int}(h:litb l=true):Vp l:=by
 unfold litb at h
 rw [Bool.and_eq_true,Bool.and_eq_true]at h
 exact vp_lit (Zrx h.1) (of_decide_eq_true h.2.1) (of_decide_eq_true h.2.2)
instance eokDec:∀f a b,Decidable (eok f a b)
 | 0,_,b=>inferInstanceAs (Decidable (b=[]))
 | f+1,a,b=>@instDecidableOr _ _ _ (@instDecidableAnd _ _ _ (eokDec f b (Xg (Pz a b))))
inductive SV:List Int→List Int→Prop
 | one (a:Int):SV [a] [a]
 | step (a:Int) (r t:List Int):SV r t→SV (a :: r) (a :: t)
 | skip (a u w:Int) (r t:List Int):(a=1∨a=-1)→(-1≤u∧u≤1)→(-1≤w∧w≤1)→SV (-a :: r) (-a :: t)→SV (a :: u :: -a :: r) (a :: w :: -a :: t)
theorem Zja{s:Int×Int}{a u:Int}(ha:a=1∨a=-1)(hu:-1≤u∧u≤1):Hf (Hf (Hf s a) u) (-a)=Hf (Hf s a) (-a):=by
 obtain⟨n,l⟩:=s
 have h3:u=-1∨u=0∨u=1:=by omega
 rcases ha with rfl | rfl<;>rcases h3 with rfl | rfl | rfl<;>simp [Hf]
theorem SV.fold{a b:List Int}(h:SV a b):∀s,a.foldl Hf s=b.foldl Hf s:=by
 induction h with
 | one a=>intro s;rfl
 | step a r t _ ih=>intro s;exact ih (Hf s a)
 | skip a u w r t ha hu hw _ ih=>
  intro s
  show(r.foldl Hf (Hf (Hf (Hf s a) u) (-a)))=(t.foldl Hf (Hf (Hf (Hf s a) w) (-a)))
  rw [Zja ha hu,Zja ha hw]
  exact ih (Hf s a)
theorem SV.chg{a b:List Int}(h:SV a b):chg a=chg b:=congrArg Prod.fst (h.fold (0,0))
def rsg(x:Rat):Int:=if x<0 then -1 else if x=0 then 0 else 1
theorem rsg_r(x:Rat):-1≤rsg x∧rsg x≤1:=by unfold rsg;split;decide;split<;>decide
theorem Dl{x:Rat}(h:0<x):rsg x=1:=by unfold rsg;rw [if_neg (by grind),if_neg (by grind)]
theorem Dm{x:Rat}(h:x<0):rsg x=-1:=by unfold rsg;rw [if_pos h]
def Big(η x:Rat)(f:Rat→Rat):Prop:=η<f x∨f x < -η
def Tri(η x:Rat):(Rat→Rat)→List (Rat→Rat)→Prop
 | _,[]=>True
 | _,[g]=>Big η x g
 | f,g :: k :: r=>(Big η x g∧Tri η x g (k :: r))∨(Big η x k∧f x*k x<0∧Tri η x k r)
def Near(η x y:Rat)(f:Rat→Rat):Prop:=f x-f y≤η∧f y-f x≤η
theorem Znz{η x y:Rat}{f:Rat→Rat}(h0:0≤η)(h:Big η x f)(hn:Near η x y f):rsg (f x)=rsg (f y)∧(rsg (f x)=1∨rsg (f x)=-1):=by
 obtain⟨h1,h2⟩:=hn
 rcases h with h | h
 ·rw [Dl (by grind),Dl (by grind)];exact⟨rfl,.inl rfl⟩
 ·rw [Dm (by grind),Dm (by grind)];exact⟨rfl,.inr rfl⟩
theorem opp_sg{a b:Rat}(h:a*b<0):rsg b=- rsg a:=by
 rcases(show a<0∨a=0∨0<a by grind)with h1 | h1 | h1
 ·rw [Dm h1,Dl (by
   rcases(show b≤0∨0<b by grind)with h2 | h2
   ·have:=Rat.mul_nonneg (a:=-a) (b:=-b) (by grind) (by grind);grind
   ·exact h2)];rfl
 ·subst h1;grind
 ·rw [Dl h1,Dm (by
   rcases(show 0≤b∨b<0 by grind)with h2 | h2
   ·have:=Rat.mul_nonneg (a:=a) (b:=b) (by grind) h2;grind
   ·exact h2)]
theorem Zly{η x y:Rat}(h0:0≤η):∀(n:Nat) (f:Rat→Rat) (fs:List (Rat→Rat)),fs.length≤n→Big η x f→(∀g∈f :: fs,Near η x y g)→Tri η x f fs→
  SV ((f :: fs).map fun g=>rsg (g x)) ((f :: fs).map fun g=>rsg (g y))
 | _,f,[],_,hb,hn,_=>by
  have:=(Znz h0 hb (hn f (List.mem_cons_self ..))).1
  simp only [List.map_cons,List.map_nil,this]
  exact SV.one _
 | 0,f,g :: r,hl,_,_,_=>absurd hl (by simp)
 | n+1,f,[g],hl,hb,hn,ht=>by
  have h1:=(Znz h0 hb (hn f (List.mem_cons_self ..))).1
  have h2:=Zly h0 n g [] (by simp) ht (fun k hk=>hn k (List.mem_cons_of_mem _ hk)) trivial
  rw [List.map_cons,List.map_cons,h1]
  exact SV.step _ _ _ h2
 | n+1,f,g :: k :: r,hl,hb,hn,ht=>by
  have h1:=Znz h0 hb (hn f (List.mem_cons_self ..))
  rcases ht with⟨hg,ht⟩ | ⟨hk,ho,ht⟩
  ·have h2:=Zly h0 n g (k :: r) (by simp at hl ⊢;omega) hg (fun k hk=>hn k (List.mem_cons_of_mem _ hk)) ht
   rw [List.map_cons (l:=g :: k :: r),List.map_cons (l:=g :: k :: r),h1.1]
   exact SV.step _ _ _ h2
  ·have h2:=Zly h0 n k r (by simp at hl ⊢;omega) hk (fun j hj=>hn j (List.mem_cons_of_mem _ (List.mem_cons_of_mem _ hj))) ht
   have h3:=(Znz h0 hk (hn k (by simp))).1
   have h4:=opp_sg ho
   rw [List.map_cons (l:=r),List.map_cons (l:=r)]at h2
   simp only [List.map_cons]
   rw [←h3]at h2 ⊢
   rw [h4]at h2 ⊢
   rw [←h1.1]
   exact SV.skip _ _ _ _ _ h1.2 (rsg_r _) (rsg_r _) h2
structure Lnk (η x:Rat) (f g k:Rat→Rat):Prop where
 big:¬Big η x g→Big η x k
 opp:¬Big η x g→f x*k x<0
def Lnks(η x:Rat):(Rat→Rat)→List (Rat→Rat)→Prop
 | _,[]=>True
 | _,[g]=>Big η x g
 | f,g :: k :: r=>Lnk η x f g k∧Lnks η x g (k :: r)
theorem Zhc{η x:Rat} : ∀(n:Nat) (f:Rat→Rat) (fs:List (Rat→Rat)),fs.length≤n→Lnks η x f fs→Tri η x f fs
 | _,f,[],_,_=>trivial
 | 0,f,g :: r,hl,_=>absurd hl (by simp)
 | n+1,f,[g],_,h=>h
 | n+1,f,[g,k],hl,h=>by
  by_cases hg:Big η x g
  ·exact .inl ⟨hg,h.2⟩
  ·exact .inr ⟨h.1.big hg,h.1.opp hg,trivial⟩
 | n+1,f,g :: k :: j :: r,hl,h=>by
  by_cases hg:Big η x g
  ·exact .inl ⟨hg,Zhc n g (k :: j :: r) (by simp at hl ⊢;omega) h.2⟩
  ·exact .inr ⟨h.1.big hg,h.1.opp hg,Zhc n k (j :: r) (by simp at hl ⊢;omega) h.2.2⟩
def Rl3(s t:Rat)(f g k:Rat→Rat):Prop:=∃m n Q:Rat,0<m∧0<n∧0<Q∧∀x,s≤x→x≤t→∃q,-Q≤q∧q≤Q∧m*f x=q*g x-n*k x
def Rl2(s t:Rat)(f g:Rat→Rat):Prop:=∃m Q:Rat,0<m∧0<Q∧∀x,s≤x→x≤t→∃q,-Q≤q∧q≤Q∧m*f x=q*g x
def Rls(s t:Rat):(Rat→Rat)→List (Rat→Rat)→Prop
 | _,[]=>True
 | f,[g]=>Rl2 s t f g
 | f,g :: k :: r=>Rl3 s t f g k∧Rls s t g (k :: r)
theorem Zcd{q Q g e:Rat}(h1:-Q≤q)(h2:q≤Q)(h3:-e≤g)(h4:g≤e)(hQ:0≤Q):q*g≤Q*e∧-(Q*e)≤q*g:=by
 have a:=Rat.mul_nonneg (a:=Q-q) (b:=e+g) (by grind) (by grind)
 have b:=Rat.mul_nonneg (a:=Q+q) (b:=e-g) (by grind) (by grind)
 have c:=Rat.mul_nonneg (a:=Q-q) (b:=e-g) (by grind) (by grind)
 have d:=Rat.mul_nonneg (a:=Q+q) (b:=e+g) (by grind) (by grind)
 constructor<;>grind
theorem Zbd{η x:Rat}{g:Rat→Rat}(h:¬Big η x g):-η≤g x∧g x≤η:=by
 unfold Big at h;constructor<;>grind
theorem Ztm{η ε x:Rat}{g:Rat→Rat}(h:η≤ε)(hb:Big ε x g):Big η x g:=by
 unfold Big at *;grind
theorem Kx{ε a b:Rat}(h:0<ε)(ha:0<a)(hb:0<b):∃e:Rat,0<e∧e≤ε∧e*a≤b:=by
 have h1:0<b*a⁻¹:=Rat.mul_pos hb (Rat.inv_pos.2 ha)
 have h2:b*a⁻¹*a=b:=by grind
 rcases(show ε≤b*a⁻¹∨b*a⁻¹≤ε by grind)with h3 | h3
 ·exact⟨ε,h,by grind,by have:=Rat.mul_le_mul_of_nonneg_right h3 (show 0≤a by grind);grind⟩
 ·exact⟨b*a⁻¹,h1,h3,by grind⟩
theorem pair3{s t ε:Rat}{f g k:Rat→Rat}(h:Rl3 s t f g k)(he:0<ε)(hp:∀x,s≤x→x≤t→Big ε x f∨Big ε x g) :
  ∃e,0<e∧(∀x,s≤x→x≤t→Big e x g∨Big e x k)∧∀η,0<η→η≤e→∀x,s≤x→x≤t→Lnk η x f g k:=by
 obtain⟨m,n,Q,hm,hn,hQ,hr⟩:=h
 obtain⟨e,e1,e2,e3⟩:=Kx he (show 0<Q+n by grind) (Rat.mul_pos hm he)
 have key:∀η,0<η→η≤e→∀x,s≤x→x≤t→¬Big η x g→Big η x k∧f x*k x<0:=fun η h1 h2 x hs ht hg=>by
  obtain⟨q,q1,q2,q3⟩:=hr x hs ht
  obtain⟨g1,g2⟩:=Zbd hg
  obtain⟨p1,p2⟩:=Zcd q1 q2 g1 g2 (by grind)
  have hf:Big ε x f:=(hp x hs ht).resolve_right fun h=>hg (Ztm (by grind) h)
  have c1:η*(Q+n)≤m*ε:=by
   have:=Rat.mul_le_mul_of_nonneg_right h2 (show 0≤Q+n by grind);grind
  have c2:0<η*n:=Rat.mul_pos h1 hn
  rcases hf with hf | hf
  ·have d1:m*ε<m*f x:=by have:=Rat.mul_pos hm (show 0<f x-ε by grind);grind
   have d2:n*k x < - (n*η):=by grind
   have d3:k x < -η:=by
    rcases(show k x < -η∨-η≤k x by grind)with h9 | h9
    ·exact h9
    ·have:=Rat.mul_nonneg (a:=n) (b:=k x+η) (by grind) (by grind);grind
   refine⟨.inr d3,?_⟩
   have:=Rat.mul_pos (a:=f x) (b:=- k x) (by grind) (by grind);grind
  ·have d1:m*f x < - (m*ε):=by have:=Rat.mul_pos hm (show 0 < -ε-f x by grind);grind
   have d2:n*η<n*k x:=by grind
   have d3:η<k x:=by
    rcases(show η<k x∨k x≤η by grind)with h9 | h9
    ·exact h9
    ·have:=Rat.mul_nonneg (a:=n) (b:=η-k x) (by grind) (by grind);grind
   refine⟨.inl d3,?_⟩
   have:=Rat.mul_pos (a:=- f x) (b:=k x) (by grind) (by grind);grind
 refine⟨e,e1,fun x hs ht=>?_,fun η h1 h2 x hs ht=>⟨fun hg=>(key η h1 h2 x hs ht hg).1,fun hg=>(key η h1 h2 x hs ht hg).2⟩⟩
 by_cases hg:Big e x g
 ·exact .inl hg
 ·exact .inr (key e e1 (by grind) x hs ht hg).1
theorem pair2{s t ε:Rat}{f g:Rat→Rat}(h:Rl2 s t f g)(he:0<ε)(hp:∀x,s≤x→x≤t→Big ε x f∨Big ε x g) :
  ∃e,0<e∧∀η,0<η→η≤e→∀x,s≤x→x≤t→Big η x g:=by
 obtain⟨m,Q,hm,hQ,hr⟩:=h
 obtain⟨e,e1,e2,e3⟩:=Kx he hQ (Rat.mul_pos hm he)
 refine⟨e,e1,fun η h1 h2 x hs ht=>?_⟩
 by_cases hg:Big η x g
 ·exact hg
 ·exfalso
  obtain⟨q,q1,q2,q3⟩:=hr x hs ht
  obtain⟨g1,g2⟩:=Zbd hg
  obtain⟨p1,p2⟩:=Zcd q1 q2 g1 g2 (by grind)
  have hf:Big ε x f:=(hp x hs ht).resolve_right fun h=>hg (Ztm (by grind) h)
  have c1:η*Q≤m*ε:=by
   have:=Rat.mul_le_mul_of_nonneg_right h2 (show 0≤Q by grind);grind
  rcases hf with hf | hf
  ·have:=Rat.mul_pos hm (show 0<f x-ε by grind);grind
  ·have:=Rat.mul_pos hm (show 0 < -ε-f x by grind);grind
theorem Zmw{s t:Rat} : ∀(n:Nat) (f:Rat→Rat) (fs:List (Rat→Rat)) (ε:Rat),fs.length≤n→Rls s t f fs→0<ε→(∀g r,fs=g :: r→∀x,s≤x→x≤t→Big ε x f∨Big ε x g)→
  ∃e,0<e∧∀η,0<η→η≤e→∀x,s≤x→x≤t→Lnks η x f fs
 | _,f,[],ε,_,_,he,_=>⟨ε,he,fun _ _ _ _ _ _=>trivial⟩
 | 0,f,g :: r,ε,hl,_,_,_=>absurd hl (by simp)
 | n+1,f,[g],ε,_,h,he,hp=>pair2 h he (hp g [] rfl)
 | n+1,f,g :: k :: r,ε,hl,h,he,hp=>by
  obtain⟨e,e1,e2,e3⟩:=pair3 h.1 he (hp g (k :: r) rfl)
  obtain⟨e',e1',e2'⟩:=Zmw n g (k :: r) e (by simp at hl ⊢;omega) h.2 e1 (fun k' r' heq=>by
   injection heq with h1 h2;subst h1;exact e2)
  rcases(show e≤e'∨e'≤e by grind)with h9 | h9
  ·exact⟨e,e1,fun η h1 h2 x hs ht=>⟨e3 η h1 h2 x hs ht,e2' η h1 (by grind) x hs ht⟩⟩
  ·exact⟨e',e1',fun η h1 h2 x hs ht=>⟨e3 η h1 (by grind) x hs ht,e2' η h1 h2 x hs ht⟩⟩
def Lip(s t L:Rat)(f:Rat→Rat):Prop:=∀x y,s≤x→x≤y→y≤t→f x-f y≤L*(y-x)∧f y-f x≤L*(y-x)
def vat(fs:List (Rat→Rat))(x:Rat):Int:=chg (fs.map fun g=>rsg (g x))
theorem step_eq{s t L δ:Rat}{f:Rat→Rat}{fs:List (Rat→Rat)}(hL:0<L)(hl:∀g∈f :: fs,Lip s t L g)(hd:0<δ)(hb:∀x,s≤x→x≤t→Big δ x f)(hr:Rls s t f fs) :
  ∃h,0<h∧∀x y,s≤x→x≤y→y≤t→y-x≤h→vat (f :: fs) x=vat (f :: fs) y:=by
 obtain⟨e,e1,e2⟩:=Zmw fs.length f fs δ (Nat.le_refl _) hr hd (fun g r _ x hs ht=> .inl (hb x hs ht))
 obtain⟨η,n1,n2,n3⟩:=Kx hd (show(0:Rat)<1 by decide) e1
 obtain⟨h,h1,h2,h3⟩:=Kx n1 hL n1
 refine⟨h,h1,fun x y hx hxy hy hh=>SV.chg ?_⟩
 refine Zly (by grind) fs.length f fs (Nat.le_refl _) (Ztm (by grind) (hb x hx (by grind))) (fun g hg=>?_) (Zhc _ _ _ (Nat.le_refl _) (e2 η n1 (by grind) x hx (by grind)))
 obtain⟨a,b⟩:=hl g hg x y hx hxy hy
 have:=Rat.mul_le_mul_of_nonneg_right hh (show 0≤L by grind)
 exact⟨by grind,by grind⟩
theorem Zpe{s t L δ:Rat}{f:Rat→Rat}{fs:List (Rat→Rat)}(hL:0<L)(hl:∀g∈f :: fs,Lip s t L g)(hd:0<δ)(hb:∀x,s≤x→x≤t→Big δ x f)(hr:Rls s t f fs)(hst:s≤t) :
  vat (f :: fs) s=vat (f :: fs) t:=by
 obtain⟨h,h1,h2⟩:=step_eq hL hl hd hb hr
 have key:∀n:Nat,∀y,s≤y→y≤t→y-s≤(n:Rat)*h→vat (f :: fs) s=vat (f :: fs) y:=fun n=>by
  induction n with
  | zero=>
    intro y h3 h4 h5;have:y=s:=by simp at h5;grind
    rw [this]
  | succ n ih=>
   intro y h3 h4 h5
   have h6:((n+1:Nat):Rat)*h=(n:Rat)*h+h:=by push_cast;grind
   rcases(show y-s≤(n:Rat)*h∨(n:Rat)*h<y-s by grind)with h7 | h7
   ·exact ih y h3 h4 h7
   ·have h8:(0:Rat)≤(n:Rat)*h:=Rat.mul_nonneg (by exact_mod_cast Nat.zero_le n) (by grind)
    rcases(show s≤y-h∨y-h<s by grind)with h9 | h9
    ·rw [ih (y-h) h9 (by grind) (by grind)]
     exact h2 (y-h) y h9 (by grind) h4 (by grind)
    ·exact h2 s y (by grind) h3 h4 (by grind)
 have h3:∃n:Nat,t-s≤(n:Rat)*h:=by
  have h4:0<h⁻¹:=Rat.inv_pos.2 h1
  refine⟨((t-s)*h⁻¹).ceil.toNat,?_⟩
  have h5:=@Rat.le_ceil ((t-s)*h⁻¹)
  have h6:((((t-s)*h⁻¹).ceil:Int):Rat)≤((((t-s)*h⁻¹).ceil.toNat:Nat):Rat):=by
   have:((t-s)*h⁻¹).ceil≤((((t-s)*h⁻¹).ceil.toNat:Nat):Int):=Int.self_le_toNat _
   exact_mod_cast this
  have h7:=Rat.mul_le_mul_of_nonneg_right (Rat.le_trans h5 h6) (show 0≤h by grind)
  have h8:(t-s)*h⁻¹*h=t-s:=by grind
  grind
 obtain⟨n,hn⟩:=h3
 exact key n t hst (by grind) hn
def rev:List Int→Rat→Rat
 | [],_=>0
 | c :: p,x=>(c:Rat)+x*rev p x
theorem ex_K(s t:Rat):∃K:Rat,0<K∧∀x,s≤x→x≤t→-K≤x∧x≤K:=by
 rcases(show(0≤s∨s<0) by grind)with h | h<;>rcases(show(0≤t∨t<0) by grind)with h' | h'
 ·exact⟨t+1,by grind,fun x _ _=>by grind⟩
 ·exact⟨1,by grind,fun x _ _=>by grind⟩
 ·exact⟨t-s+1,by grind,fun x _ _=>by grind⟩
 ·exact⟨-s+1,by grind,fun x _ _=>by grind⟩
theorem Zqe(s t:Rat):∀p:List Int,∃B:Rat,0<B∧∀x,s≤x→x≤t→-B≤rev p x∧rev p x≤B
 | []=>⟨1,by decide,fun x _ _=>by unfold rev;grind⟩
 | c :: p=>by
  obtain⟨B,b1,b2⟩:=Zqe s t p
  obtain⟨K,k1,k2⟩:=ex_K s t
  obtain⟨C,c1,c2⟩:=ex_K (c:Rat) (c:Rat)
  have hc:=c2 (c:Rat) (by grind) (by grind)
  refine⟨C+K*B,by have:=Rat.mul_pos k1 b1;grind,fun x hs ht=>?_⟩
  obtain⟨d1,d2⟩:=b2 x hs ht
  obtain⟨e1,e2⟩:=k2 x hs ht
  obtain⟨f1,f2⟩:=Zcd e1 e2 d1 d2 (by grind)
  unfold rev
  constructor<;>grind
theorem Es(s t:Rat):∀p:List Int,∃L:Rat,0<L∧Lip s t L (rev p)
 | []=>⟨1,by decide,fun x y _ _ _=>by unfold rev;constructor<;>grind⟩
 | c :: p=>by
  obtain⟨L,l1,l2⟩:=Es s t p
  obtain⟨B,b1,b2⟩:=Zqe s t p
  obtain⟨K,k1,k2⟩:=ex_K s t
  refine⟨K*L+B,by have:=Rat.mul_pos k1 l1;grind,fun x y hs hxy ht=>?_⟩
  obtain⟨a1,a2⟩:=l2 x y hs hxy ht
  obtain⟨d1,d2⟩:=b2 y (by grind) ht
  obtain⟨e1,e2⟩:=k2 x hs (by grind)
  obtain⟨f1,f2⟩:=Zcd (q:=x) (g:=rev p x-rev p y) (e:=L*(y-x)) e1 e2 (by grind) (by grind) (by grind)
  have g1:=Rat.mul_nonneg (a:=B-rev p y) (b:=y-x) (by grind) (by grind)
  have g2:=Rat.mul_nonneg (a:=B+rev p y) (b:=y-x) (by grind) (by grind)
  unfold rev
  constructor<;>grind
theorem Zgy(x:Rat):∀q:List Int,(∀i,cf q i=0)→rev q x=0
 | [],_=>rfl
 | c :: q,h=>by
  have h0:c=0:=h 0
  have h1:=Zgy x q fun i=>h (i+1)
  unfold rev;rw [h1,h0];grind
theorem Nk(x:Rat):∀p q:List Int,(∀i,cf p i=cf q i)→rev p x=rev q x
 | [],q,h=>by rw [Zgy x q fun i=>(h i).symm.trans (Qe (Nat.zero_le _))];rfl
 | c :: p,[],h=>by rw [Zgy x (c :: p) fun i=>(h i).trans (Qe (Nat.zero_le _))];rfl
 | c :: p,d :: q,h=>by
  have h0:c=d:=h 0
  have h1:=Nk x p q fun i=>h (i+1)
  unfold rev;rw [h1,h0]
def Hn:List Int→List Int→List Int
 | [],q=>q
 | p,[]=>p
 | a :: p,b :: q=>(a+b) :: Hn p q
theorem Zm1(p:List Int):Hn p []=p:=by cases p<;>rfl
theorem Xu(x:Rat):∀p q:List Int,rev (Hn p q) x=rev p x+rev q x
 | [],q=>by unfold Hn;show rev q x=0+rev q x;grind
 | a :: p,[]=>by rw [Zm1];show rev (a :: p) x=rev (a :: p) x+0;grind
 | a :: p,b :: q=>by
  have h:=Xu x p q
  unfold Hn rev;rw [h];push_cast;grind
theorem Le:∀(p q:List Int) (i:Nat),cf (Hn p q) i=cf p i+cf q i
 | [],q,i=>by unfold Hn;rw [show cf [] i=0 from Qe (Nat.zero_le _)];omega
 | a :: p,[],i=>by rw [Zm1,show cf [] i=0 from Qe (Nat.zero_le _)];omega
 | a :: p,b :: q,0=>rfl
 | a :: p,b :: q,i+1=>Le p q i
theorem Zy(x:Rat)(c:Int):∀p:List Int,rev (p.map fun a=>c*a) x=(c:Rat)*rev p x
 | []=>by show(0:Rat)=c*0;grind
 | a :: p=>by
  have h:=Zy x c p
  simp only [List.map_cons];unfold rev;rw [h];push_cast;grind
theorem Qy(c:Int):∀(p:List Int) (i:Nat),cf (p.map fun a=>c*a) i=c*cf p i
 | [],i=>by simp [cf]
 | a :: p,0=>rfl
 | a :: p,i+1=>Qy c p i
def Mf:List Int→List Int→List Int
 | [],_=>[]
 | c :: p,q=>Hn (q.map fun a=>c*a) (0 :: Mf p q)
theorem Yn(x:Rat):∀p q:List Int,rev (Mf p q) x=rev p x*rev q x
 | [],q=>by show(0:Rat)=0*rev q x;grind
 | c :: p,q=>by
  have h:=Yn x p q
  unfold Mf;rw [Xu,Zy]
  show(c:Rat)*rev q x+(((0:Int):Rat)+x*rev (Mf p q) x)=((c:Rat)+x*rev p x)*rev q x
  rw [h];grind
theorem Gh:∀(p q:List Int) (i:Nat),cf (Mf p q) i=Qa (fun k=>cf p k*cf q (i-k)) (i+1)
 | [],q,i=>by
  rw [show cf (Mf [] q) i=0 from Qe (Nat.zero_le _)]
  exact(Fc fun k _=>by rw [show cf [] k=0 from Qe (Nat.zero_le _),Int.zero_mul]).symm
 | c :: p,q,0=>by
  unfold Mf;rw [Le,Qy,Xj,Kl]
  show c*cf q 0+0=0+c*cf q 0
  omega
 | c :: p,q,i+1=>by
  have h:=Gh p q i
  unfold Mf;rw [Le,Qy,Kh]
  show c*cf q (i+1)+cf (Mf p q) i=c*cf q (i+1)+_
  rw [h]
  congr 1
  refine Xe fun k hk=>?_
  show cf p k*cf q (i-k)=cf p k*cf q (i+1-(k+1))
  rw [show i+1-(k+1)=i-k by omega]
theorem Ff{a c:Int}{x s y z:List Int}(h:∀t,a*cf x t=(ps s*ps y).c t-c*cf z t)(q:Rat):(a:Rat)*rev x q=rev s q*rev y q-(c:Rat)*rev z q:=by
 have h1:∀t,cf (Hn (x.map fun b=>a*b) (z.map fun b=>c*b)) t=cf (Mf s y) t:=fun t=>by
  rw [Le,Qy,Qy,Gh,h t,PS.mul_c]
  show Qa (fun k=>cf s k*cf y (t-k)) (t+1)-c*cf z t+c*cf z t=_
  omega
 have h2:=Nk q _ _ h1
 rw [Xu,Zy,Zy,Yn]at h2
 grind
theorem Zqc{s t:Rat}{x y:List Int}(hx:Tr x)(hy:Tr y)(h0:y≠[])(hl:y.length≤x.length):Rl3 s t (rev x) (rev y) (rev (Ld x y)):=by
 have l0:=List.length_pos_iff.2 h0
 obtain⟨r1,r2,k,u,hk⟩:=Zdv hy h0 x.length x hx (by omega)
 have hs:=Zdm (f:=x.length) hx hy h0 hl (by omega)
 have htn:Tr (Zka (Zfl x.length x y)):=Qu _ _
 obtain⟨m,n,hm,hn,hp⟩:=Za9 htn
 rw [hs]at hp
 have hK:0<Zg1 y^k:=Int.pow_pos (Zcp hy h0)
 obtain⟨B,b1,b2⟩:=Zqe s t u
 have hm':(0:Rat)<(m:Rat):=by exact_mod_cast hm
 have hn':(0:Rat)<(n:Rat):=by exact_mod_cast hn
 have hK':(0:Rat)<((Zg1 y^k:Int):Rat):=by exact_mod_cast hK
 refine⟨(n:Rat)*((Zg1 y^k:Int):Rat),(m:Rat),(n:Rat)*B,Rat.mul_pos hn' hK',hm',Rat.mul_pos hn' b1,fun q hq1 hq2=>⟨(n:Rat)*rev u q,?_,?_,?_⟩⟩
 ·have:=Rat.mul_nonneg (a:=(n:Rat)) (b:=rev u q+B) (by grind) (by have:=b2 q hq1 hq2;grind);grind
 ·have:=Rat.mul_nonneg (a:=(n:Rat)) (b:=B-rev u q) (by grind) (by have:=b2 q hq1 hq2;grind);grind
 ·have e1:=Ff (a:=Zg1 y^k) (c:=-1) (x:=x) (s:=u) (y:=y) (z:=Zfl x.length x y) (fun t=>by rw [hk t];omega) q
  have e2:rev ((Ld x y).map fun b=>m*b) q=rev ((Zfl x.length x y).map fun b=>(-n)*b) q:=Nk q _ _ fun i=>by
   rw [Qy,Qy,hp i,Fi,Int.mul_neg,Int.neg_mul]
  rw [Zy,Zy]at e2
  push_cast at e1 e2 ⊢
  grind
theorem rl2_of{s t:Rat}{f g:Rat→Rat}(h:Rl3 s t f g (rev [])):Rl2 s t f g:=by
 obtain⟨m,n,Q,hm,hn,hQ,hr⟩:=h
 refine⟨m,Q,hm,hQ,fun x h1 h2=>?_⟩
 obtain⟨q,q1,q2,q3⟩:=hr x h1 h2
 refine⟨q,q1,q2,?_⟩
 have:rev [] x=0:=rfl
 rw [this]at q3;grind
theorem Zih{s t:Rat} : ∀(f:Nat) (a b:List Int),Tr a→Tr b→cok f a b→∃r,Mx f a b=a :: r∧Rls s t (rev a) (r.map rev)∧(b=[]→r=[])∧(b≠[]→∃r',r=b :: r'):=fun f=>by
 induction f with
 | zero=>
  intro a b ha hb h
  have h0:b=[]:=h
  subst h0
  exact⟨[],rfl,trivial,fun _=>rfl,fun h=>absurd rfl h⟩
 | succ f ih=>
  intro a b ha hb h
  by_cases h0:b=[]
  ·subst h0
   exact⟨[],Ft _ _,trivial,fun _=>rfl,fun h=>absurd rfl h⟩
  ·obtain⟨g,hg,hd,hle,hc,hs⟩:=Zhl h h0
   obtain rfl:f=g:=by omega
   obtain⟨r,h1,h2,h3,h4⟩:=ih b (Ld a b) hb (Ao ha) hc
   have hR:=Zqc (s:=s) (t:=t) ha hb h0 hle
   refine⟨b :: r,by rw [hs,h1],?_,fun h=>absurd h h0,fun _=>⟨r,rfl⟩⟩
   by_cases hz:Ld a b=[]
   ·rw [h3 hz]
    rw [hz]at hR
    exact rl2_of hR
   ·obtain⟨r',rfl⟩:=h4 hz
    exact⟨hR,h2⟩
theorem Zmx{s t L M:Rat}{f:Rat→Rat}(h:L≤M)(hf:Lip s t L f):Lip s t M f:=fun x y h1 h2 h3=>by
 obtain⟨a,b⟩:=hf x y h1 h2 h3
 have:=Rat.mul_le_mul_of_nonneg_right h (show 0≤y-x by grind)
 constructor<;>grind
theorem Zro(s t:Rat):∀ls:List (List Int),∃L:Rat,0<L∧∀g∈ls.map rev,Lip s t L g
 | []=>⟨1,by decide,fun g hg=>by cases hg⟩
 | p :: ls=>by
  obtain⟨L,l1,l2⟩:=Zro s t ls
  obtain⟨M,m1,m2⟩:=Es s t p
  refine⟨L+M,by grind,fun g hg=>?_⟩
  rw [List.map_cons]at hg
  rcases List.mem_cons.1 hg with rfl | hg
  ·exact Zmx (by grind) m2
  ·exact Zmx (by grind) (l2 g hg)
theorem Zby{s t δ:Rat}{f:Nat}{a b:List Int}(ha:Tr a)(hb:Tr b)(hc:cok f a b)(hst:s≤t)(hd:0<δ)(hB:∀x,s≤x→x≤t→Big δ x (rev a)) :
  vat ((Mx f a b).map rev) s=vat ((Mx f a b).map rev) t:=by
 obtain⟨r,h1,h2,_,_⟩:=Zih (s:=s) (t:=t) f a b ha hb hc
 obtain⟨L,l1,l2⟩:=Zro s t (Mx f a b)
 rw [h1]at l2 ⊢
 exact Zpe l1 l2 hd hB h2 hst
def alt:List Int→List Int
 | []=>[]
 | c :: p=>c :: (alt p).map fun a=>-1*a
theorem Zvf(c:Int)(p:List Int)(X Y:Int)(h:p≠[]):pev (c :: p) X Y=c*Y^p.length+X*pev p X Y:=by
 have hl:=List.length_pos_iff.2 h
 unfold pev
 rw [List.length_cons,Kh,←Nj]
 congr 1
 ·show c*(X^0*Y^(p.length+1-1-0))=_
  rw [Int.pow_zero,Int.one_mul,show p.length+1-1-0=p.length by omega]
 ·refine Xe fun i hi=>?_
  show cf p i*(X^(i+1)*Y^(p.length+1-1-(i+1)))=X*(cf p i*(X^i*Y^(p.length-1-i)))
  rw [show p.length+1-1-(i+1)=p.length-1-i by omega,Int.pow_succ]
  grind
theorem Zq0{X Y:Int}(hY:0<Y):∀p:List Int,((pev p X Y:Int):Rat)=rev p ((X:Rat)/(Y:Rat))*(Y:Rat)^(p.length-1)
 | []=>by show(0:Rat)=0*_;grind
 | [c]=>by
  have:pev [c] X Y=c:=by unfold pev;show 0+c*(X^0*Y^0)=c;rw [Int.pow_zero,Int.pow_zero];omega
  rw [this];show(c:Rat)=(c+X/Y*0)*(Y:Rat)^0;rw [Rat.pow_zero];grind
 | c :: d :: p=>by
  have h:=Zq0 (X:=X) hY (d :: p)
  rw [Zvf c (d :: p) X Y (by simp)]
  have hy:(Y:Rat)≠0:=by
    have:(0:Rat)<(Y:Rat):=by exact_mod_cast hY
    grind
  push_cast
  rw [h]
  show(c:Rat)*(Y:Rat)^(p.length+1)+X*(rev (d :: p) (X/Y)*(Y:Rat)^(p.length+1-1))=((c:Rat)+X/Y*rev (d :: p) (X/Y))*(Y:Rat)^(p.length+1+1-1)
  rw [show p.length+1-1=p.length by omega,show p.length+1+1-1=p.length+1 by omega,Rat.pow_succ]
  generalize rev (d :: p) (X/Y)=R
  generalize (Y:Rat)^p.length=P
  have:(X:Rat)/Y*Y=X:=by grind
  grind
theorem Zul{z:Int}{r q:Rat}(hq:0<q)(h:(z:Rat)=r*q):z.sign=rsg r:=by
 rcases(show r<0∨r=0∨0<r by grind)with h1 | h1 | h1
 ·rw [Dm h1]
  have:=Rat.mul_pos (a:=-r) (b:=q) (by grind) hq
  have h2:(z:Rat)<0:=by grind
  have h3:z<0:=by exact_mod_cast h2
  exact Int.sign_eq_neg_one_of_neg h3
 ·subst h1
  have h2:(z:Rat)=0:=by grind
  have h3:z=0:=by exact_mod_cast h2
  subst h3;rfl
 ·rw [Dl h1]
  have:=Rat.mul_pos h1 hq
  have h2:(0:Rat)<z:=by grind
  have h3:0<z:=by exact_mod_cast h2
  exact Int.sign_eq_one_of_pos h3
theorem Zhh{X Y:Int}(hY:0<Y)(p:List Int):fat X Y p=rsg (rev p ((X:Rat)/(Y:Rat))):=by
 have:(0:Rat)<(Y:Rat):=by exact_mod_cast hY
 exact Zul (Rat.pow_pos this) (Zq0 hY p)
theorem rev_sqf{xs:List Int}{F:Nat}(hx:Tr xs)(h0:xs≠[])(hok:eok F (gA (nrm xs) (Pi (nrm xs))) (gB (nrm xs) (Pi (nrm xs)))):∃g:List Int,∀x,rev xs x=rev (sqf F xs) x*rev g x:=by
 obtain⟨f1,f2,f3,f4,f5,f6⟩:=Ou (F:=F) hx h0 hok
 have hk:∃k:Int,∀i,cf xs i=k*cf (nrm xs) i:=by
  unfold nrm Gb
  split
  ·refine⟨-Ql xs,fun i=>?_⟩
   rw [Qh,←Hb xs i];grind
  ·refine⟨Ql xs,fun i=>?_⟩
   rw [←Hb xs i];grind
 obtain⟨k,hk⟩:=hk
 refine⟨(Hc F (nrm xs) (Pi (nrm xs))).map fun a=>k*a,fun x=>?_⟩
 have h1:rev (nrm xs) x=rev (sqf F xs) x*rev (Hc F (nrm xs) (Pi (nrm xs))) x:=by
  have:=Ff (a:=1) (c:=0) (x:=nrm xs) (s:=sqf F xs) (y:=Hc F (nrm xs) (Pi (nrm xs))) (z:=[]) (fun t=>by
   have h2:=Kz (sqf F xs) (Hc F (nrm xs) (Pi (nrm xs))) t
   rw [←f4]at h2
   rw [h2];omega) x
  push_cast at this
  grind
 have h2:rev xs x=rev ((nrm xs).map fun a=>k*a) x:=Nk x _ _ fun i=>by rw [Qy];exact hk i
 rw [h2,Zy,Zy,h1];grind
theorem vat_map{ls:List (List Int)}{x:Rat}{f:List Int→Int}(h:∀p∈ls,rsg (rev p x)=f p):vat (ls.map rev) x=chg (ls.map f):=by
 unfold vat
 rw [List.map_map]
 exact congrArg chg (List.map_congr_left fun p hp=>h p hp)
theorem cnt_vat{F:Nat}{xs:List Int}{X Y:Int}(hY:0<Y):cnt F xs X Y=vat ((chn F xs).map rev) ((X:Rat)/(Y:Rat)):=
 (vat_map fun p _=>(Zhh hY p).symm).symm
theorem Zr9(t:Int):∀p:List Int,rev p (t:Rat)=((ev1 p t:Int):Rat)
 | []=>rfl
 | c :: p=>by
  have h:=Zr9 t p
  rw [show rev (c :: p) (t:Rat)=(c:Rat)+(t:Rat)*rev p (t:Rat)from rfl,show ev1 (c :: p) t=c+t*ev1 p t from rfl,h];push_cast;rfl
theorem Zqd{p:List Int}(h:∀x:Rat,rev p x=0)(i:Nat):cf p i=0:=by
 by_cases h0:cf p i=0
 ·exact h0
 ·exfalso
  have:=Zgx p.length p ((List.range p.length).map fun n:Nat=>(n:Int)) rfl ⟨i,h0⟩ (by
   refine List.Pairwise.map _ (fun a b hab=>?_) List.nodup_range
   intro e;exact hab (by exact_mod_cast e)) (fun t ht=>by
   have h1:=Zr9 t p
   rw [h]at h1
   exact_mod_cast h1.symm)
  simp at this
theorem Ny{p q:List Int}(h:∀x:Rat,rev p x=rev q x)(i:Nat):cf p i=cf q i:=by
 have h1:=Zqd (p:=Hn p (q.map fun a=>(-1)*a)) (fun x=>by rw [Xu,Zy,h x];push_cast;grind) i
 rw [Le,Qy]at h1;omega
theorem Mt(p:List Int)(x:Rat):rev (tzl p) x=rev p x:=Nk x _ _ fun i=>Kq p i
theorem Yw(p q:List Int)(x:Rat):rev (Nr p q) x=rev p x*rev q x:=by
 rw [←Yn];exact Nk x _ _ fun i=>by rw [Kz,Gh,PS.mul_c];rfl
theorem Pv(c:Int)(x:Rat):rev [c] x=(c:Rat):=by show(c:Rat)+x*0=c;grind
def ld:List Int→List Int
 | []=>[]
 | _ :: p=>Hn p (0 :: ld p)
theorem Zdx(c:Int)(p:List Int)(x:Rat):rev (ld (c :: p)) x=rev p x+x*rev (ld p) x:=by
 rw [show ld (c :: p)=Hn p (0 :: ld p)from rfl,Xu];show rev p x+(((0:Int):Rat)+x*rev (ld p) x)=_;push_cast;grind
theorem Zhp:∀(p:List Int) (i:Nat),cf (ld p) i=cf p (i+1)*((i:Int)+1)
 | [],i=>by rw [Zar,show ld []=[]from rfl,Zar,Int.zero_mul]
 | c :: p,0=>by
  rw [show ld (c :: p)=Hn p (0 :: ld p)from rfl,Le];show cf p 0+0=cf p 0*_;simp
 | c :: p,i+1=>by
  have h:=Zhp p i
  rw [show ld (c :: p)=Hn p (0 :: ld p)from rfl,Le];show cf p (i+1)+cf (ld p) i=cf p (i+1)*_
  rw [h];push_cast;grind
theorem Lt(p:List Int)(x:Rat):rev (Pi p) x=rev (ld p) x:=Nk x _ _ fun i=>by rw [Zc0,Zhp]
theorem Gs{p q:List Int}(h:∀x,rev p x=rev q x)(x:Rat):rev (ld p) x=rev (ld q) x:=Nk x _ _ fun i=>by rw [Zhp,Zhp,Ny h]
theorem rd_ladd(p q:List Int)(x:Rat):rev (ld (Hn p q)) x=rev (ld p) x+rev (ld q) x:=by
 rw [←Xu];exact Nk x _ _ fun i=>by rw [Zhp,Le,Le,Zhp,Zhp];grind
theorem Dn(c:Int)(p:List Int)(x:Rat):rev (ld (p.map fun a=>c*a)) x=(c:Rat)*rev (ld p) x:=by
 rw [←Zy];exact Nk x _ _ fun i=>by rw [Zhp,Qy,Qy,Zhp];grind
theorem Et(x:Rat):∀p q:List Int,rev (ld (Mf p q)) x=rev (ld p) x*rev q x+rev p x*rev (ld q) x
 | [],q=>by show(0:Rat)=0*rev q x+0*rev (ld q) x;grind
 | c :: p,q=>by
  have h:=Et x p q
  rw [show Mf (c :: p) q=Hn (q.map fun a=>c*a) (0 :: Mf p q)from rfl,rd_ladd,Dn,Zdx,Zdx,h,Yn,show rev (c :: p) x=(c:Rat)+x*rev p x from rfl]
  grind
def Ed(g a:List Int):Prop:=∃(k:Int) (s:List Int),k≠0∧∀x:Rat,(k:Rat)*rev a x=rev s x*rev g x
theorem Ed.refl(a:List Int):Ed a a:=⟨1,[1],by decide,fun x=>by rw [Pv]⟩
theorem Ed.nil(g:List Int):Ed g []:=⟨1,[],by decide,fun x=>by show(((1:Int)):Rat)*0=0*rev g x;grind⟩
theorem Ed.trans{a b c:List Int} : Ed a b→Ed b c→Ed a c:=fun⟨k,s,hk,h⟩ ⟨m,u,hm,e⟩=>
 ⟨k*m,Mf u s,Int.mul_ne_zero hk hm,fun x=>by
  have h1:=h x
  have h2:=e x
  rw [Yn];push_cast
  have:(k:Rat)*m*rev c x=k*(m*rev c x):=by grind
  rw [this,h2];grind⟩
theorem Ed.congr{g a b:List Int}(h:Ed g a)(e:∀x,rev a x=rev b x):Ed g b:=by
 obtain⟨k,s,hk,h⟩:=h
 exact⟨k,s,hk,fun x=>by rw [←e x];exact h x⟩
theorem Ed.congr_l{g g' a:List Int}(h:Ed g a)(e:∀x,rev g x=rev g' x):Ed g' a:=by
 obtain⟨k,s,hk,h⟩:=h
 exact⟨k,s,hk,fun x=>by rw [←e x];exact h x⟩
theorem Ed.sim{g a b:List Int}(h:Ed g a)(e:Sim a b):Ed g b:=by
 obtain⟨k,s,hk,h⟩:=h
 obtain⟨m,n,hm,hn,e⟩:=e
 refine⟨k*n,s.map fun c=>m*c,Int.mul_ne_zero hk hn,fun x=>?_⟩
 have h1:rev (a.map fun c=>m*c) x=rev (b.map fun c=>n*c) x:=Nk x _ _ fun i=>by rw [Qy,Qy,e]
 rw [Zy,Zy]at h1
 rw [Zy]
 have:=h x
 push_cast
 have e2:(k:Rat)*n*rev b x=k*(n*rev b x):=by grind
 rw [e2,←h1];grind
theorem Ed.lin{g a b c:List Int}(ha:Ed g a)(hb:Ed g b)(s:List Int)(L:Int)(hL:L≠0)(h:∀x,(L:Rat)*rev c x=rev s x*rev a x+rev b x):Ed g c:=by
 obtain⟨k,u,hk,h1⟩:=ha
 obtain⟨m,v,hm,h2⟩:=hb
 refine⟨L*(k*m),Hn ((Mf s u).map fun c=>m*c) (v.map fun c=>k*c),Int.mul_ne_zero hL (Int.mul_ne_zero hk hm),fun x=>?_⟩
 have h1:=h1 x
 have h2:=h2 x
 have h:=h x
 rw [Xu,Zy,Zy,Yn]
 push_cast
 have e:(L:Rat)*(k*m)*rev c x=k*m*(L*rev c x):=by grind
 rw [e,h]
 have e2:(k:Rat)*m*(rev s x*rev a x+rev b x)=m*rev s x*(k*rev a x)+k*(m*rev b x):=by grind
 rw [e2,h1,h2];grind
theorem Zsj{g a s:List Int}{k:Int}(hk:k≠0)(hg:Tr g)(ha:Tr a)(h0:a≠[])(h:∀x:Rat,(k:Rat)*rev a x=rev s x*rev g x):g≠[]∧tzl s≠[]∧(tzl s).length+g.length≤a.length+1:=by
 have hc:∀i,k*cf a i=(ps (tzl s)*ps g).c i:=fun i=>by
  have h1:=Ny (p:=a.map fun c=>k*c) (q:=Mf (tzl s) g) (fun x=>by rw [Zy,Yn,Mt];exact h x) i
  rw [Qy,Gh]at h1
  rw [h1,PS.mul_c];rfl
 have hz:∀i,k*cf a i=0→cf a i=0:=fun i hi=>(Int.mul_eq_zero.1 hi).resolve_left hk
 have hla:=ha.mem h0
 have h1:tzl s≠[]:=fun e=>hla (hz _ (by rw [hc,e,La (fun t=>Qe (Nat.zero_le _))]))
 have h2:g≠[]:=fun e=>hla (hz _ (by rw [hc,e,PS.mul_comm',La (fun t=>Qe (Nat.zero_le _))]))
 refine⟨h2,h1,?_⟩
 have l1:=List.length_pos_iff.2 h1
 have l2:=List.length_pos_iff.2 h2
 have ht:=Dd (p:=tzl s) (q:=g) (a:=(tzl s).length-1) (b:=g.length-1) (fun i hi=>Qe (by omega)) (fun i hi=>Qe (by omega))
 rw [←hc]at ht
 have hne:=Int.mul_ne_zero ((Om s).mem h1) (hg.mem h2)
 rcases Nat.lt_or_ge ((tzl s).length-1+(g.length-1)) a.length with h9 | h9
 ·omega
 ·rw [Qe h9,Int.mul_zero]at ht;exact absurd ht.symm hne
theorem Ed.len{g a:List Int}(h:Ed g a)(hg:Tr g)(ha:Tr a)(h0:a≠[]):g≠[]∧g.length≤a.length:=by
 obtain⟨k,s,hk,h⟩:=h
 obtain⟨a1,a2,a3⟩:=Zsj hk hg ha h0 h
 have:=List.length_pos_iff.2 a2
 exact⟨a1,by omega⟩
theorem Ed.same{g a:List Int}(h:Ed g a)(hg:Tr g)(ha:Tr a)(h0:a≠[])(hl:g.length=a.length):Ed a g:=by
 obtain⟨k,s,hk,h⟩:=h
 obtain⟨a1,a2,a3⟩:=Zsj hk hg ha h0 h
 have hl1:=List.length_pos_iff.2 a2
 match hs:tzl s,hl1,a3 with
 | [c],_,_=>
  have hc:c≠0:=by have:=(Om s).mem a2;rw [hs]at this;exact this
  refine⟨c,[k],hc,fun x=>?_⟩
  have h1:=h x
  rw [←Mt s,hs,Pv]at h1
  rw [Pv];exact h1.symm
 | c :: d :: r,_,h9=>simp at h9;omega
theorem Zjf:∀(n:Nat) (a b:List Int),Tr a→Tr b→b.length≤n→∃g A B:List Int,Tr g∧Ed g a∧Ed g b∧∀x,rev g x=rev A x*rev a x+rev B x*rev b x
 | n,a,[],ha,hb,_=>⟨a,[1],[],ha,Ed.refl a,Ed.nil a,fun x=>by rw [Pv];show _=_+0*(0:Rat);push_cast;grind⟩
 | 0,a,c :: r,_,_,hl=>absurd hl (by simp)
 | n+1,a,c :: b',ha,hb,hl=>by
  have h0:(c :: b')≠[]:=by simp
  generalize c :: b'=b at *
  obtain⟨k,s,hs⟩:=Cu a h0
  have hL:=Lb (hb.mem h0) k
  generalize cf b (b.length-1)^k=L at hs hL
  have hlt:=Pp a h0
  obtain⟨g,A,B,g1,g2,g3,g4⟩:=Zjf n b (Pz a b) hb (Ke ha) (by omega)
  have he:∀x,(L:Rat)*rev a x=rev s x*rev b x+rev (Pz a b) x:=fun x=>by
   have:=Ff (a:=L) (c:=-1) (x:=a) (s:=s) (y:=b) (z:=Pz a b) (fun t=>by rw [hs t];omega) x
   push_cast at this;grind
  refine⟨g,B.map fun c=>L*c,Hn A ((Mf B s).map fun c=>(-1)*c),g1,g2.lin g3 s L hL he,g2,fun x=>?_⟩
  rw [Zy,Xu,Zy,Yn,g4 x]
  have:=he x
  have e:rev (Pz a b) x=L*rev a x-rev s x*rev b x:=by grind
  rw [e];push_cast;grind
def Irr(q:List Int):Prop:=Tr q∧2≤q.length∧∀d,Tr d→Ed d q→d.length≤1∨d.length=q.length
theorem Zad{q:List Int}(h:2≤q.length):q≠[]:=fun e=>by rw [e]at h;simp at h
theorem irr_ex:∀(n:Nat) (q:List Int),q.length≤n→Tr q→2≤q.length→∃p,Irr p∧Ed p q
 | 0,q,hl,_,h2=>by omega
 | n+1,q,hl,ht,h2=>by
  by_cases h:Irr q
  ·exact⟨q,h,Ed.refl q⟩
  ·have:∃d,Tr d∧Ed d q∧¬(d.length≤1∨d.length=q.length):=by
    refine Classical.byContradiction fun h9=>h ⟨ht,h2,fun d hd he=>Classical.byContradiction fun h8=>h9 ⟨d,hd,he,h8⟩⟩
   obtain⟨d,hd,he,hn⟩:=this
   have hle:=(he.len hd ht (Zad h2)).2
   obtain⟨p,hp,hp2⟩:=irr_ex n d (by omega) hd (by omega)
   exact⟨p,hp,hp2.trans he⟩
theorem Dz{q f h m:List Int}{k:Int}(hq:Irr q)(hk:k≠0)(e:∀x:Rat,(k:Rat)*(rev f x*rev h x)=rev m x*rev q x):Ed q f∨Ed q h:=by
 obtain⟨hq1,hq2,hq3⟩:=hq
 obtain⟨g,A,B,g1,g2,g3,g4⟩:=Zjf _ q (tzl f) hq1 (Om f) (Nat.le_refl _)
 have hg:=(g2.len g1 hq1 (Zad hq2)).1
 rcases hq3 g g1 g2 with h1 | h1
 ·right
  match g,hg,h1,g1,g4 with
  | [c],_,_,g1,g4=>
   have hc:c≠0:=g1.mem (by simp)
   refine⟨c*k,Hn ((Mf A h).map fun c=>k*c) (Mf B m),Int.mul_ne_zero hc hk,fun x=>?_⟩
   have h4:=g4 x
   have h5:=e x
   rw [Pv,Mt]at h4
   rw [Xu,Zy,Yn,Yn]
   push_cast
   rw [h4]
   have:(rev A x*rev q x+rev B x*rev f x)*k*rev h x=k*rev A x*rev q x*rev h x+rev B x*(k*(rev f x*rev h x)):=by grind
   rw [this,h5];grind
  | c :: d :: r,_,h9,_,_=>simp at h9
 ·left
  have h2:=g2.same g1 hq1 (Zad hq2) h1
  exact(h2.trans g3).congr fun x=>Mt f x
def Bs(q:List Int):Nat→List Int
 | 0=>[1]
 | n+1=>Nr q (Bs q n)
theorem Cv{q:List Int}(hq:Tr q)(h2:2≤q.length):∀n,Tr (Bs q n)∧n+1≤(Bs q n).length
 | 0=>⟨.inr (show cf [1] 0≠0 by decide),Nat.le_refl _⟩
 | n+1=>by
  obtain⟨h1,h3⟩:=Cv hq h2 n
  refine⟨Qv _ _,?_⟩
  show n+1+1≤(Nr q (Bs q n)).length
  rw [Pw hq h1 (Zad h2) (fun e=>by rw [e]at h3;simp at h3)]
  omega
theorem Hl(q:List Int)(n:Nat)(x:Rat):rev (Bs q (n+1)) x=rev q x*rev (Bs q n) x:=Yw _ _ _
theorem Zj4(q:List Int):∀(n:Nat) (x:Rat),rev (ld (Bs q (n+1))) x=((n:Rat)+1)*(rev (Bs q n) x*rev (ld q) x)
 | n,x=>by
  have h1:rev (ld (Bs q (n+1))) x=rev (ld (Mf q (Bs q n))) x:=Gs (fun y=>by rw [Hl,Yn]) x
  rw [h1,Et]
  match n with
  | 0=>
   rw [show rev (ld (Bs q 0)) x=0 from by rw [show Bs q 0=[1]from rfl,Zdx];show(0:Rat)+x*0=0;grind]
   simp;grind
  | n+1=>
   rw [Zj4 q n x,Hl];push_cast;grind
theorem Zuh{p s g q u:List Int}{c:Int}{k:Nat}(hps:∀x:Rat,rev p x=rev s x*rev g x)(hgr:∀d,Tr d→Ed d p→Ed d (ld p)→Ed d g)(hq:Irr q)(h1:Ed q s)(h2:Ed q (ld s))(hk:Ed (Bs q k) g):Ed (Bs q (k+1)) g:=by
 obtain⟨hq1,hq2,hq3⟩:=hq
 obtain⟨c1,s1,k1,e1⟩:=h1
 obtain⟨c2,s2,k2,e2⟩:=h2
 have d1:∀x:Rat,(c1:Rat)*rev (ld s) x=rev (ld s1) x*rev q x+rev s1 x*rev (ld q) x:=fun x=>by
  have:=Gs (p:=s.map fun a=>c1*a) (q:=Mf s1 q) (fun y=>by rw [Zy,Yn];exact e1 y) x
  rwa [Dn,Et]at this
 have h3:Ed q s1:=by
  rcases Dz (f:=s1) (h:=ld q) (m:=Hn (s2.map fun a=>c1*a) ((ld s1).map fun a=>(-c2)*a)) ⟨hq1,hq2,hq3⟩ k2 (fun x=>by
   have a1:=d1 x
   have a2:=e2 x
   rw [Xu,Zy,Zy];push_cast
   have:(c2:Rat)*(rev s1 x*rev (ld q) x)=c1*(c2*rev (ld s) x)-c2*(rev (ld s1) x*rev q x):=by grind
   rw [this,a2];grind)with h9 | h9
  ·exact h9
  ·exfalso
   have h8:Ed q (Pi q):=h9.congr fun x=>(Lt q x).symm
   have hl:=Nm q
   have:=(h8.len hq1 (Mh hq1) (fun e=>by rw [e]at hl;simp at hl;omega)).2
   omega
 obtain⟨c3,s3,k3,e3⟩:=h3
 obtain⟨c,u,kc,eu⟩:=hk
 have hP:∀x:Rat,((c1*c3*c:Int):Rat)*rev p x=rev (Mf s3 u) x*rev (Bs q (k+1+1)) x:=fun x=>by
  rw [hps x,Yn,Hl,Hl];push_cast
  have a1:=e1 x
  have a3:=e3 x
  have a4:=eu x
  have:(c1:Rat)*c3*c*(rev s x*rev g x)=c3*(c1*rev s x)*(c*rev g x):=by grind
  rw [this,a1,a4]
  have:(c3:Rat)*(rev s1 x*rev q x)*(rev u x*rev (Bs q k) x)=(c3*rev s1 x)*rev q x*(rev u x*rev (Bs q k) x):=by grind
  rw [this,a3];grind
 have hC:c1*c3*c≠0:=Int.mul_ne_zero (Int.mul_ne_zero k1 k3) kc
 generalize c1*c3*c=C at hP hC
 have hD:∀x:Rat,(C:Rat)*rev (ld p) x=rev (ld (Mf s3 u)) x*rev (Bs q (k+1+1)) x+rev (Mf s3 u) x*((((k+1:Nat):Rat)+1)*(rev (Bs q (k+1)) x*rev (ld q) x)):=fun x=>by
  have:=Gs (p:=p.map fun a=>C*a) (q:=Mf (Mf s3 u) (Bs q (k+1+1))) (fun y=>by rw [Zy,Yn];exact hP y) x
  rwa [Dn,Et,Zj4]at this
 refine hgr _ (Cv hq1 hq2 _).1 ⟨C,Mf (Mf s3 u) q,hC,fun x=>?_⟩ ⟨C,Hn (Mf (ld (Mf s3 u)) q) ((Mf (Mf s3 u) (ld q)).map fun a=>((k+2:Nat):Int)*a),hC,fun x=>?_⟩
 ·rw [hP x,Yn _ (Mf s3 u),Hl q (k+1)];grind
 ·rw [hD x,Xu,Zy,Yn _ (ld (Mf s3 u)),Yn _ (Mf s3 u),Hl q (k+1)];push_cast;grind
theorem Zuj{p s g q:List Int}(hps:∀x:Rat,rev p x=rev s x*rev g x)(hg:Tr g)(g0:g≠[])(hgr:∀d,Tr d→Ed d p→Ed d (ld p)→Ed d g)(hq:Tr q)(h1:Ed q s)(h2:Ed q (ld s)):q.length≤1:=by
 refine Classical.byContradiction fun h=>?_
 obtain⟨r,hr,hr2⟩:=irr_ex _ q (Nat.le_refl _) hq (by omega)
 have key:∀k,Ed (Bs r k) g:=fun k=>by
  induction k with
  | zero=>exact⟨1,g,by decide,fun x=>by rw [show Bs r 0=[1]from rfl,Pv];push_cast;grind⟩
  | succ k ih=>exact Zuh (u:=[]) (c:=0) hps hgr hr (hr2.trans h1) (hr2.trans h2) ih
 obtain⟨a1,a2⟩:=Cv hr.1 hr.2.1 g.length
 have:=((key g.length).len a1 hg g0).2
 omega
theorem ed_rest{d a b:List Int}(hb:Tr b)(h0:b≠[])(h1:Ed d a)(h2:Ed d b):Ed d (Pz a b):=by
  obtain⟨k,s,hs⟩:=Cu a h0
  have hL:=Lb (hb.mem h0) k
  generalize cf b (b.length-1)^k=L at hs hL
  have he:∀x,(L:Rat)*rev a x=rev s x*rev b x+rev (Pz a b) x:=fun x=>by
    have:=Ff (a:=L) (c:=-1) (x:=a) (s:=s) (y:=b) (z:=Pz a b) (fun t=>by rw [hs t];omega) x
    push_cast at this;grind
  have h3:Ed d (a.map fun c=>L*c):=by
    obtain⟨k,u,hk,e⟩:=h1
    exact⟨k,u.map fun c=>L*c,hk,fun x=>by rw [Zy,Zy];have:=e x;grind⟩
  exact h2.lin h3 (s.map fun c=>(-1)*c) 1 (by decide) fun x=>by
    rw [Zy,Zy];push_cast;have:=he x;grind
theorem Znc{d:List Int} : ∀(f:Nat) {a b:List Int},Tr a→Tr b→Ed d a→Ed d b→Ed d (eu f a b)
  | 0,a,b,_,_,h1,_=>h1
  | f+1,a,b,ha,hb,h1,h2=>by
    by_cases h0:b=[]
    · rw [h0,Zf0];exact h1
    · rw [show eu (f + 1) a b = eu f b (Xg (Pz a b)) by
          conv=>lhs;unfold eu
          rw [if_neg h0]]
      have t1:=Ke (q:=b) ha
      exact Znc f hb (Xn t1) h2 ((ed_rest hb h0 h1 h2).sim (Qw t1).symm)
theorem Zfq{F:Nat}{d p q:List Int}(hp:Tr p)(hq:Tr q)(h1:Ed d p)(h2:Ed d q):Ed d (Hc F p q):=by
  have a1:=h1.sim (Qw hp).symm
  have a2:=h2.sim (Qw hq).symm
  unfold Hc
  refine Ed.sim ?_ (Ly _).symm
  refine Znc F (Zjp hp hq) (Zjo hp hq) ?_ ?_
  · unfold gA;split<;>assumption
  · unfold gB;split<;>assumption
theorem Zdl{xs:List Int}{F:Nat}(hx:Tr xs)(h0:xs≠[])(hok:eok F (gA (nrm xs) (Pi (nrm xs))) (gB (nrm xs) (Pi (nrm xs)))){q:List Int}(hq:Tr q)(h1:Ed q (sqf F xs))(h2:Ed q (Pi (sqf F xs))):q.length≤1:=by
  obtain⟨f1,f2,f3,f4,f5,f6⟩:=Ou (F:=F) hx h0 hok
  have hs:Tr (nrm xs):=Ox (Xn hx)
  have hd:Tr (Pi (nrm xs)):=Mh hs
  refine Zuj (p:=nrm xs) (s:=sqf F xs) (g:=Hc F (nrm xs) (Pi (nrm xs))) (fun x=>?_) (Zdb hs hd) f5 (fun d _ a b=>?_) hq h1 (h2.congr fun x=>Lt _ x)
  · have:rev (nrm xs) x=rev (Nr (sqf F xs) (Hc F (nrm xs) (Pi (nrm xs)))) x:=by rw [←f4]
    rw [this,Yw]
  · exact Zfq hs hd a (b.congr fun x=>(Lt _ x).symm)
theorem Ch:∀(l:List Int) (n z:Int),(l.foldl Hf (n,z)).1=n+(l.foldl Hf (0,z)).1
 | [],n,z=>by simp
 | x :: l,n,z=>by
  simp only [List.foldl_cons]
  by_cases h:x=0
  ·have e:∀n,Hf (n,z) x=(n,z):=fun n=>by unfold Hf;rw [if_pos h]
   rw [e,e];exact Ch l n z
  ·by_cases h2:x=-z
   ·have e:∀n,Hf (n,z) x=(n+1,x):=fun n=>by unfold Hf;rw [if_neg h,if_pos (by dsimp only;exact h2)]
    rw [e,e,Ch l (n+1) x,Ch l (0+1) x];omega
   ·have e:∀n,Hf (n,z) x=(n,x):=fun n=>by unfold Hf;rw [if_neg h,if_neg (by dsimp only;exact h2)]
    rw [e,e];exact Ch l n x
theorem chg_two{x y:Int}(l:List Int)(hy:y≠0):chg (x :: y :: l)=chg (y :: l)+(if x=-y then 1 else 0):=by
 unfold chg
 simp only [List.foldl_cons]
 have h1:Hf (0,0) y=(0,y):=by unfold Hf;rw [if_neg hy,if_neg (by dsimp only;omega)]
 rw [h1]
 by_cases hx:x=0
 ·have h2:Hf (0,0) x=(0,0):=by unfold Hf;rw [if_pos hx]
  rw [h2,h1,if_neg (by omega)];omega
 ·have h2:Hf (0,0) x=(0,x):=by unfold Hf;rw [if_neg hx,if_neg (by dsimp only;omega)]
  rw [h2]
  have h3:Hf (0,x) y=(if x=-y then 1 else 0,y):=by
   unfold Hf;rw [if_neg hy]
   by_cases h:x=-y
   ·rw [if_pos (by dsimp only;omega),if_pos h];rfl
   ·rw [if_neg (by dsimp only;omega),if_neg h]
  rw [h3,Ch];omega
def crs(f:Rat→Rat)(u v:Rat):Int:=if f u≠0∧f u*f v≤0 then 1 else 0
theorem Zgz(s t:Rat):∀p:List Int,∃M:Rat,0<M∧∀x y,s≤x→x≤y→y≤t→
  -(M*(y-x)*(y-x))≤rev p y-rev p x-(y-x)*rev (ld p) x∧rev p y-rev p x-(y-x)*rev (ld p) x≤M*(y-x)*(y-x)
 | []=>⟨1,by decide,fun x y h1 h2 h3=>by
   have:=Rat.mul_nonneg (a:=y-x) (b:=y-x) (by grind) (by grind)
   show -(1*(y-x)*(y-x))≤(0:Rat)-0-(y-x)*0∧(0:Rat)-0-(y-x)*0≤1*(y-x)*(y-x)
   constructor<;>grind⟩
 | c :: p=>by
  obtain⟨M,m1,m2⟩:=Zgz s t p
  obtain⟨L,l1,l2⟩:=Es s t p
  obtain⟨K,k1,k2⟩:=ex_K s t
  refine⟨L+K*M,by have:=Rat.mul_pos k1 m1;grind,fun x y hs hxy ht=>?_⟩
  obtain⟨a1,a2⟩:=m2 x y hs hxy ht
  obtain⟨b1,b2⟩:=l2 x y hs hxy ht
  obtain⟨e1,e2⟩:=k2 x hs (by grind)
  have hd:0≤y-x:=by grind
  obtain⟨f1,f2⟩:=Zcd (q:=x) (Q:=K) (g:=rev p y-rev p x-(y-x)*rev (ld p) x) (e:=M*(y-x)*(y-x)) e1 e2 a1 a2 (by grind)
  have g1:=Rat.mul_nonneg (a:=y-x) (b:=L*(y-x)-(rev p y-rev p x)) hd (by grind)
  have g2:=Rat.mul_nonneg (a:=y-x) (b:=L*(y-x)+(rev p y-rev p x)) hd (by grind)
  rw [Zdx,show rev (c :: p) y=(c:Rat)+y*rev p y from rfl,show rev (c :: p) x=(c:Rat)+x*rev p x from rfl]
  constructor<;>grind
theorem Zs1{a b:List Int}(ha:Tr a)(hb:Tr b)(h0:a≠[])(hc:∀q,Tr q→Ed q a→Ed q b→q.length≤1)(s t:Rat):∃ε:Rat,0<ε∧∀x,s≤x→x≤t→Big ε x (rev a)∨Big ε x (rev b):=by
 obtain⟨g,A,B,g1,g2,g3,g4⟩:=Zjf _ a b ha hb (Nat.le_refl _)
 have hl:=hc g g1 g2 g3
 have hg:=(g2.len g1 ha h0).1
 match g,hg,hl,g1,g4 with
 | [c],_,_,g1,g4=>
  have hc0:c≠0:=g1.mem (by simp)
  obtain⟨P,p1,p2⟩:=Zqe s t A
  obtain⟨Q,q1,q2⟩:=Zqe s t B
  obtain⟨ε,e1,e2,e3⟩:=Kx (show(0:Rat)<1 by decide) (show 0<(P+Q)+(P+Q) by grind) (show(0:Rat)<1 by decide)
  refine⟨ε,e1,fun x hs ht=>?_⟩
  by_cases h1:Big ε x (rev a)
  ·exact .inl h1
  ·by_cases h2:Big ε x (rev b)
   ·exact .inr h2
   ·exfalso
    obtain⟨a1,a2⟩:=Zbd h1
    obtain⟨b1,b2⟩:=Zbd h2
    obtain⟨c1,c2⟩:=p2 x hs ht
    obtain⟨d1,d2⟩:=q2 x hs ht
    obtain⟨u1,u2⟩:=Zcd c1 c2 a1 a2 (by grind)
    obtain⟨v1,v2⟩:=Zcd d1 d2 b1 b2 (by grind)
    have h4:=g4 x
    rw [Pv]at h4
    have h5:(c:Rat)≤-1∨1≤(c:Rat):=by
     rcases Int.lt_or_gt_of_ne hc0 with h | h
     ·left;have:((c:Int):Rat)≤((-1:Int):Rat):=by exact_mod_cast (show c≤-1 by omega)
      rwa [show(((-1:Int)):Rat)=-1 from rfl]at this
     ·right;have:1≤c:=by omega
      exact_mod_cast this
    rcases h5 with h5 | h5<;>grind
 | c :: d :: r,_,h9,_,_=>simp at h9
theorem Big.near{ε x y:Rat}{f:Rat→Rat}(h:Big ε x f)(h1:f x-f y≤ε/2)(h2:f y-f x≤ε/2):Big (ε/2) y f:=by
 unfold Big at *;grind
theorem Zdu(x:Rat):rsg x=-1↔x<0:=by
 unfold rsg
 by_cases h:x<0
 ·rw [if_pos h];simp [h]
 ·rw [if_neg h]
  by_cases h2:x=0
  ·rw [if_pos h2];simp [h]
  ·rw [if_neg h2];simp [h]
theorem Zux(x:Rat):rsg (-x)=- rsg x:=by
 unfold rsg
 by_cases h:x<0
 ·rw [if_pos h,if_neg (by grind),if_neg (by grind)];rfl
 ·rw [if_neg h]
  by_cases h2:x=0
  ·rw [if_pos h2,if_neg (by grind),if_pos (by grind)];rfl
  ·rw [if_neg h2,if_pos (by grind)]
theorem Zh2{f g:Rat→Rat}(r:List (Rat→Rat)){x:Rat}(h:rsg (g x)≠0):vat (f :: g :: r) x=vat (g :: r) x+(if rsg (f x)=- rsg (g x)then 1 else 0):=by
 unfold vat
 simp only [List.map_cons]
 exact chg_two _ h
def Tay(s t M:Rat)(p:List Int):Prop:=∀x y,s≤x→x≤y→y≤t→-(M*(y-x)*(y-x))≤rev p y-rev p x-(y-x)*rev (ld p) x∧rev p y-rev p x-(y-x)*rev (ld p) x≤M*(y-x)*(y-x)
theorem Zdj {s t:Rat} {f:Nat} {a b:List Int} (ha:Tr a) (hb:Tr b) (hok:cok f a b) {κ:Rat} (hκ:0<κ) (hder:∀x,rev (ld a) x=κ*rev b x)
  {ε L L' M h:Rat} (e1:0<ε) (e2:∀x,s≤x→x≤t→Big ε x (rev a)∨Big ε x (rev b)) (l1:0≤L) (l2:Lip s t L (rev a)) (l1':0≤L') (l2':Lip s t L' (rev b)) (m1:0≤M) (m2:Tay s t M a)
  (h5:0<h) (h3:h*(L+L')≤ε/2) (h7:h*M≤κ*ε/2) {u v:Rat} (hs:s≤u) (huv:u≤v) (ht:v≤t) (hh:v-u≤h) :
  vat ((Mx f a b).map rev) u-vat ((Mx f a b).map rev) v=crs (rev a) u v:=by
 have hL:∀w,u≤w→w≤v→L*(w-u)≤ε/2∧L'*(w-u)≤ε/2:=fun w q1 q2=>by
  have p1:=Rat.mul_nonneg (a:=L) (b:=h-(w-u)) (by grind) (by grind)
  have p2:=Rat.mul_nonneg (a:=L') (b:=h-(w-u)) (by grind) (by grind)
  have p3:=Rat.mul_nonneg (a:=L) (b:=h) (by grind) (by grind)
  have p4:=Rat.mul_nonneg (a:=L') (b:=h) (by grind) (by grind)
  constructor<;>grind
 by_cases hba:Big ε u (rev a)
 ·have hB:∀w,u≤w→w≤v→Big (ε/2) w (rev a):=fun w q1 q2=>by
   obtain⟨x1,x2⟩:=l2 u w hs q1 (by grind)
   have:=hL w q1 q2
   exact hba.near (by grind) (by grind)
  rw [Zby ha hb hok huv (show 0<ε/2 by grind) hB]
  have hv:=hB v huv (by grind)
  have:crs (rev a) u v=0:=by
   unfold crs
   refine if_neg fun⟨_,h9⟩=>?_
   obtain⟨x1,x2⟩:=l2 u v hs huv ht
   have hLv:=hL v huv (by grind)
   unfold Big at hba hv
   rcases hba with hp | hp
   ·have:0<rev a v:=by grind
    have:=Rat.mul_pos (show 0<rev a u by grind) this
    grind
   ·have:0 < - rev a v:=by grind
    have:=Rat.mul_pos (show 0 < - rev a u by grind) this
    grind
  omega
 ·have hbb:Big ε u (rev b):=(e2 u hs (by grind)).resolve_left hba
  have hB:∀w,u≤w→w≤v→Big (ε/2) w (rev b):=fun w q1 q2=>by
   obtain⟨x1,x2⟩:=l2' u w hs q1 (by grind)
   have:=hL w q1 q2
   exact hbb.near (by grind) (by grind)
  have hb0:b≠[]:=fun e=>by
   rw [e]at hbb;unfold Big at hbb
   have:rev [] u=0:=rfl
   rw [this]at hbb;grind
  obtain⟨g,hg,hd,hle,hcg,hsc⟩:=Zhl hok hb0
  have hT:=Zby hb (Ao ha) hcg huv (show 0<ε/2 by grind) hB
  obtain⟨r,hr,_,_,_⟩:=Zih (s:=u) (t:=v) g b (Ld a b) hb (Ao ha) hcg
  rw [hsc,hr]
  rw [hr]at hT
  simp only [List.map_cons]at hT ⊢
  have hsg:∃σ:Rat,(σ=1∨σ=-1)∧ε<σ*rev b u∧∀w,u≤w→w≤v→0<σ*rev b w:=by
   unfold Big at hbb
   rcases hbb with hp | hp
   ·refine⟨1,.inl rfl,by grind,fun w q1 q2=>?_⟩
    obtain⟨x1,x2⟩:=l2' u w hs q1 (by grind)
    have:=hL w q1 q2
    grind
   ·refine⟨-1,.inr rfl,by grind,fun w q1 q2=>?_⟩
    obtain⟨x1,x2⟩:=l2' u w hs q1 (by grind)
    have:=hL w q1 q2
    grind
  obtain⟨σ,hσ,hbu,hbw⟩:=hsg
  have hmono:u<v→σ*rev a u<σ*rev a v:=fun hlt=>by
   obtain⟨y1,y2⟩:=m2 u v hs huv ht
   rw [hder u]at y1 y2
   have hd:0<v-u:=by grind
   have z1:M*(v-u)≤κ*ε/2:=by
    have:=Rat.mul_nonneg (a:=M) (b:=h-(v-u)) (by grind) (by grind)
    grind
   have z2:0<κ*(σ*rev b u)-M*(v-u):=by
    have:=Rat.mul_pos hκ (show 0<σ*rev b u-ε by grind)
    have:=Rat.mul_pos hκ e1
    grind
   have z3:=Rat.mul_pos hd z2
   rcases hσ with rfl | rfl<;>grind
  have hne:∀w,u≤w→w≤v→rsg (rev b w)≠0:=fun w q1 q2=>by
   have:=hbw w q1 q2
   rcases hσ with rfl | rfl
   ·rw [Dl (by grind)];decide
   ·rw [Dm (by grind)];decide
  rw [Zh2 _ (hne u (by grind) huv),Zh2 _ (hne v huv (by grind)),hT]
  have hite:∀w,u≤w→w≤v→(rsg (rev a w)=- rsg (rev b w)↔σ*rev a w<0):=fun w q1 q2=>by
   have:=hbw w q1 q2
   rcases hσ with rfl | rfl
   ·rw [Dl (x:=rev b w) (by grind),Zdu]
    constructor<;>intro<;>grind
   ·rw [Dm (x:=rev b w) (by grind),show(-(-1:Int))=- -1 from rfl]
    have h9:=Zdu (-(rev a w))
    rw [Zux]at h9
    constructor
    ·intro h8
     have:=h9.1 (by omega)
     grind
    ·intro h8
     have:=h9.2 (by grind)
     omega
  rw [show(if rsg (rev a u)=- rsg (rev b u)then(1:Int)else 0)=if σ*rev a u<0 then 1 else 0 from by simp only [hite u (by grind) huv]]
  rw [show(if rsg (rev a v)=- rsg (rev b v)then(1:Int)else 0)=if σ*rev a v<0 then 1 else 0 from by simp only [hite v huv (by grind)]]
  have hcrs:crs (rev a) u v=if σ*rev a u<0∧¬σ*rev a v<0 then 1 else 0:=by
   unfold crs
   have hpp:rev a u*rev a v=(σ*rev a u)*(σ*rev a v):=by rcases hσ with rfl | rfl<;>grind
   have hz:rev a u≠0↔σ*rev a u≠0:=by rcases hσ with rfl | rfl<;>constructor<;>intro h9 h8<;>exact h9 (by grind)
   have hiff:(rev a u≠0∧rev a u*rev a v≤0)↔(σ*rev a u<0∧¬σ*rev a v<0):=by
    rw [hpp,hz]
    generalize hp:σ*rev a u=p at *
    generalize hq:σ*rev a v=q at *
    constructor
    ·intro ⟨n1,n2⟩
     rcases(show u<v∨u=v by grind)with hlt | heq
     ·have:=hmono hlt
      rcases(show p<0∨0<p by grind)with n3 | n3
      ·refine⟨n3,fun n4=>?_⟩
       have:=Rat.mul_pos (show 0 < -p by grind) (show 0 < -q by grind)
       grind
      ·have:=Rat.mul_pos n3 (show 0<q by grind)
       grind
     ·exfalso
      have:q=p:=by rw [←hp,←hq,heq]
      rw [this]at n2
      rcases(show p<0∨0<p by grind)with n3 | n3
      ·have:=Rat.mul_pos (show 0 < -p by grind) (show 0 < -p by grind)
       grind
      ·have:=Rat.mul_pos n3 n3
       grind
    ·intro ⟨n1,n2⟩
     refine⟨by grind,?_⟩
     have:=Rat.mul_nonneg (show 0≤-p by grind) (show 0≤q by grind)
     grind
   simp only [hiff]
  rw [hcrs]
  by_cases k1:σ*rev a u<0<;>by_cases k2:σ*rev a v<0
  ·simp [k1,k2]
  ·simp [k1,k2]
   omega
  ·exfalso
   rcases(show u<v∨u=v by grind)with hlt | heq
   ·have:=hmono hlt;grind
   ·rw [heq]at k1;exact k1 k2
  ·simp [k1,k2]
theorem Zfg{s t:Rat}{f:Nat}{a b:List Int}(ha:Tr a)(hb:Tr b)(h0:a≠[])(hok:cok f a b){κ:Rat}(hκ:0<κ)(hder:∀x,rev (ld a) x=κ*rev b x)(hc:∀q,Tr q→Ed q a→Ed q b→q.length≤1) :
  ∃h:Rat,0<h∧∀u v,s≤u→u≤v→v≤t→v-u≤h→vat ((Mx f a b).map rev) u-vat ((Mx f a b).map rev) v=crs (rev a) u v:=by
 obtain⟨ε,e1,e2⟩:=Zs1 ha hb h0 hc s t
 obtain⟨L,l1,l2⟩:=Es s t a
 obtain⟨L',l1',l2'⟩:=Es s t b
 obtain⟨M,m1,m2⟩:=Zgz s t a
 obtain⟨h1,h2,h3,h4⟩:=Kx (show(0:Rat)<1 by decide) (show 0<L+L' by grind) (show 0<ε/2 by grind)
 obtain⟨h,h5,h6,h7⟩:=Kx h2 m1 (show 0<κ*ε/2 by have:=Rat.mul_pos hκ e1;grind)
 refine⟨h,h5,fun u v hs huv ht hh=>Zdj ha hb hok hκ hder e1 e2 (by grind) l2 (by grind) l2' (by grind) m2 h5 ?_ h7 hs huv ht hh⟩
 have:=Rat.mul_nonneg (a:=L+L') (b:=h1-h) (by grind) (by grind)
 grind
theorem inj_le:∀(n m:Nat) (f:Nat→Nat),(∀k,k<n→f k<m)→(∀a b,a<n→b<n→f a=f b→a=b)→n≤m
 | 0,_,_,_,_=>Nat.zero_le _
 | n+1,m,f,hf,hi=>by
  have h0:=hf n (by omega)
  have:=inj_le n (m-1) (fun k=>if f n<f k then f k-1 else f k) (fun k hk=>by
   have h1:=hf k (by omega)
   have h2:f k≠f n:=fun e=>by have:=hi k n (by omega) (by omega) e;omega
   split<;>omega) (fun a b ha hb e=>by
   have h2:f a≠f n:=fun e=>by have:=hi a n (by omega) (by omega) e;omega
   have h3:f b≠f n:=fun e=>by have:=hi b n (by omega) (by omega) e;omega
   refine hi a b (by omega) (by omega) ?_
   split at e<;>split at e<;>omega)
  omega
theorem php{n m:Nat}{f:Nat→Nat}(h:m<n)(hf:∀k,k<n→f k<m):∃a b,a<n∧b<n∧a≠b∧f a=f b:=by
 refine Classical.byContradiction fun h9=>?_
 have:=inj_le n m f hf fun a b ha hb e=>Classical.byContradiction fun h8=>h9 ⟨a,b,ha,hb,h8,e⟩
 omega
def enc(B:Nat)(d:Nat→Nat):Nat→Nat
 | 0=>0
 | n+1=>enc B d n+d n*B^n
theorem Znd{B:Nat}{d:Nat→Nat} : ∀n,(∀i,i<n→d i<B)→enc B d n<B^n
 | 0,_=>by simp [enc]
 | n+1,h=>by
  have h1:=Znd n fun i hi=>h i (by omega)
  have h2:=h n (by omega)
  have h3:(d n+1)*B^n≤B*B^n:=Nat.mul_le_mul_right _ h2
  rw [Nat.add_mul,Nat.one_mul]at h3
  rw [Nat.pow_succ,Nat.mul_comm (B^n) B]
  show enc B d n+d n*B^n<_
  omega
theorem Zsg{B:Nat}{d e:Nat→Nat} : ∀n,(∀i,i<n→d i<B)→(∀i,i<n→e i<B)→enc B d n=enc B e n→∀i,i<n→d i=e i
 | 0,_,_,_,i,hi=>absurd hi (Nat.not_lt_zero i)
 | n+1,h1,h2,h,i,hi=>by
  have a1:=Znd n fun i hi=>h1 i (by omega)
  have a2:=Znd n fun i hi=>h2 i (by omega)
  have h:enc B d n+d n*B^n=enc B e n+e n*B^n:=h
  have hp:0<B^n:=by omega
  have hd:d n=e n:=by
   have b1:(enc B d n+d n*B^n)/B^n=d n:=by rw [Nat.add_mul_div_right _ _ hp,Nat.div_eq_of_lt a1,Nat.zero_add]
   have b2:(enc B e n+e n*B^n)/B^n=e n:=by rw [Nat.add_mul_div_right _ _ hp,Nat.div_eq_of_lt a2,Nat.zero_add]
   rw [←b1,←b2,h]
  rcases Nat.lt_or_ge i n with h3 | h3
  ·exact Zsg n (fun i hi=>h1 i (by omega)) (fun i hi=>h2 i (by omega)) (by rw [hd]at h;omega) i h3
  ·rw [show i=n by omega];exact hd
def dig(B k j:Nat):Nat:=k/B^j%B
theorem Zk2(B k:Nat):∀n,enc B (dig B k) n=k%B^n
 | 0=>by simp [enc,Nat.mod_one]
 | n+1=>by
  show enc B (dig B k) n+dig B k n*B^n=_
  rw [Zk2 B k n,Nat.pow_succ,Nat.mod_mul]
  unfold dig;rw [Nat.mul_comm]
theorem Zgj{f:Nat→Int}{C:Int} : ∀n,(∀i,i<n→-C≤f i∧f i≤C)→-((n:Int)*C)≤Qa f n∧Qa f n≤(n:Int)*C
 | 0,_=>by simp [Kl]
 | n+1,h=>by
  have h1:=Zgj n fun i hi=>h i (by omega)
  have h2:=h n (by omega)
  have h3:((n+1:Nat):Int)*C=(n:Int)*C+C:=by push_cast;grind
  rw [Xj,h3];omega
theorem Zh7(f g:Nat→Int):∀n,Qa (fun i=>f i-g i) n=Qa f n-Qa g n
 | 0=>by simp [Kl]
 | n+1=>by rw [Xj,Xj,Xj,Zh7 f g n];omega
theorem siegel{N M A:Nat}(hMN:M<N)(hA:0<A)(c:Nat→Nat→Int)(hc:∀i j,i<M→j<N→(c i j).natAbs≤A) :
  ∃x:Nat→Int,(∃j,j<N∧x j≠0)∧(∀j,j<N→(x j).natAbs≤(2*N*A)^M)∧∀i,i<M→Qa (fun j=>c i j*x j) N=0:=by
 generalize hX:(2*N*A)^M=X
 generalize hW:N*(A*X)=W
 let d:=fun k j=>dig (X+1) k j
 have hd:∀k j,d k j≤X:=fun k j=>Nat.le_of_lt_succ (Nat.mod_lt _ (Nat.succ_pos X))
 let y:=fun k i=>Qa (fun j=>c i j*(d k j:Int)) N
 have hy:∀k i,i<M→-(W:Int)≤y k i∧y k i≤(W:Int):=fun k i hi=>by
  have h1:=Zgj (f:=fun j=>c i j*(d k j:Int)) (C:=((A*X:Nat):Int)) N fun j hj=>by
   have h2:=hc i j hi hj
   have h3:(c i j*(d k j:Int)).natAbs≤A*X:=by
    rw [Int.natAbs_mul,Int.natAbs_natCast];exact Nat.mul_le_mul h2 (hd k j)
   omega
  have h4:((N:Int)*((A*X:Nat):Int))=(W:Int):=by rw [←hW];push_cast;rfl
  rw [h4]at h1;exact h1
 let e:=fun k=>enc (2*W+1) (fun i=>(y k i+(W:Int)).toNat) M
 have he:∀k i,i<M→(y k i+(W:Int)).toNat<2*W+1:=fun k i hi=>by have:=hy k i hi;omega
 have hlt:(2*W+1)^M<(X+1)^N:=by
  have h1:2*W+1≤(2*N*A)*(X+1):=by
   have:0<N*A:=Nat.mul_pos (by omega) hA
   have e1:2*N*A*(X+1)=2*W+2*(N*A):=by rw [←hW];grind
   omega
  have h2:=Nat.pow_le_pow_left h1 M
  rw [Nat.mul_pow,hX]at h2
  have h3:(X+1)^(M+1)≤(X+1)^N:=Nat.pow_le_pow_right (by omega) (by omega)
  rw [Nat.pow_succ]at h3
  have h4:0<(X+1)^M:=Nat.pow_pos (by omega)
  have h5:X*(X+1)^M<(X+1)^M*(X+1):=by rw [Nat.mul_comm];exact Nat.mul_lt_mul_of_pos_left (by omega) h4
  omega
 obtain⟨a,b,ha,hb,hab,hf⟩:=php (f:=e) hlt (fun k _=>Znd M (he k))
 have hyy:=Zsg M (he a) (he b) hf
 refine⟨fun j=>(d a j:Int)-(d b j:Int),?_,fun j _=>?_,fun i hi=>?_⟩
 ·refine Classical.byContradiction fun h9=>hab ?_
  have h8:∀j,j<N→d a j=d b j:=fun j hj=>Classical.byContradiction fun h7=>h9 ⟨j,hj,fun h6=>h7 (by have h6:(d a j:Int)-(d b j:Int)=0:=h6;omega)⟩
  have e1:=Zk2 (X+1) a N
  have e2:=Zk2 (X+1) b N
  rw [Nat.mod_eq_of_lt ha]at e1
  rw [Nat.mod_eq_of_lt hb]at e2
  have e3:∀n,n≤N→enc (X+1) (dig (X+1) a) n=enc (X+1) (dig (X+1) b) n:=fun n=>by
   induction n with
   | zero=>intro _;rfl
   | succ n ih=>
    intro hn
    have h7:dig (X+1) a n=dig (X+1) b n:=h8 n (by omega)
    show enc _ _ n+dig (X+1) a n*_=enc _ _ n+dig (X+1) b n*_
    rw [ih (by omega),h7]
  rw [←e1,←e2];exact e3 N (Nat.le_refl _)
 ·have h1:=hd a j
  have h2:=hd b j
  dsimp only;omega
 ·have h1:Qa (fun j=>c i j*((d a j:Int)-(d b j:Int))) N=y a i-y b i:=by
   rw [←Zh7];exact Xe fun j _=>by grind
  rw [h1]
  have h2:=hyy i hi
  have h3:=hy a i hi
  have h4:=hy b i hi
  omega
end Go.Sky

