/- Rules, arithmetic and contracts: part 5. No conditions but those that each theorem names. -/
import Derived.Test.YtcmiiammekgooaaGreatSc03
set_option linter.all false
namespace Go.Sky
def Psim(a b:List Int):Prop:=∃m n:Int,0<m∧0<n∧∀i,m*cf a i=n*cf b i
theorem Psim.refl(a:List Int):Psim a a:=⟨1,1,by decide,by decide,fun _=>rfl⟩
theorem Psim.symm{a b:List Int} : Psim a b→Psim b a:=fun⟨m,n,hm,hn,h⟩=>⟨n,m,hn,hm,fun i=>(h i).symm⟩
theorem Psim.trans{a b c:List Int} : Psim a b→Psim b c→Psim a c:=fun⟨m,n,hm,hn,h⟩ ⟨u,v,hu,hv,k⟩=>
 ⟨m*u,n*v,Int.mul_pos hm hu,Int.mul_pos hn hv,fun i=>by have h1:=h i;have h2:=k i;grind⟩
theorem Psim.sim{a b:List Int} : Psim a b→Sim a b:=fun⟨m,n,hm,hn,h⟩=>⟨m,n,by omega,by omega,h⟩
theorem Zfa{p:List Int}(h:Tr p):Psim (Xf p) p:=by
 by_cases h0:p=[]
 ·subst h0;exact Psim.refl _
 ·exact⟨Ql p,1,by have:=Lt p;have:=Af h h0;omega,by decide,fun i=>by rw [Int.one_mul,Int.mul_comm];exact Eh p i⟩
theorem Zkb{a b:List Int}(ha:Tr a)(hb:Tr b)(h:Psim a b):Xf a=Xf b:=by
 by_cases h0:a=[]
 ·rw [h.sim.nil hb h0,h0]
 ·have h0':b≠[]:=fun e=>h0 (h.sim.symm.nil ha e)
  obtain⟨m,n,hm,hn,e⟩:=(Zfa ha).trans (h.trans (Zfa hb).symm)
  have hx:=Qf ha
  have hy:=Qf hb
  have hs:Sim (Xf a) (Xf b):=⟨m,n,by omega,by omega,e⟩
  have hx0:Xf a≠[]:=fun e=>h0 (List.eq_nil_of_length_eq_zero (by rw [←Xd,e];rfl))
  rcases Zjy hx hy hx0 (Ir ha h0) (Ir hb h0') hs with h1 | h1
  ·exact h1
  ·exfalso
   have h2:=hx.mem hx0
   have h3:=e ((Xf a).length-1)
   have h4:=h1 ((Xf a).length-1)
   rw [h4]at h3 h2
   generalize cf (Xf b) ((Xf a).length-1)=z at h3 h2
   rw [Int.mul_neg]at h3
   have h5:(m+n)*z=0:=by rw [Int.add_mul];omega
   rcases Int.mul_eq_zero.1 h5 with h6 | h6<;>omega
def Fu(y:List Int):Int:=if cf y (y.length-1)<0 then-cf y (y.length-1)else cf y (y.length-1)
def rb(x y:List Int):Int:=if cf y (y.length-1)<0 then-cf x (x.length-1)else cf x (x.length-1)
def Fi(x y:List Int):List Int:=Zan (Xw x (Fu y)) (shm y (rb x y) (x.length-y.length) y.length)
def Fc:Nat→List Int→List Int→List Int
 | 0,x,_=>x
 | f+1,x,y=>if x.length<y.length then x else Fc f (Fi x y) y
theorem Zgu{x y:List Int}(hx:Tr x)(hy:0<y.length)(hl:y.length≤x.length):(Fi x y).length<x.length:=by
 have h:=Zbr (p:=Fi x y) (n:=x.length-1) fun i hi=>by
  unfold Fi
  rw [Hu,Qo,Zpo]
  by_cases he:i=x.length-1
  ·subst he
   rw [if_pos (by omega),show x.length-1-(x.length-y.length)=y.length-1 by omega]
   unfold Fu rb
   split
   ·grind
   ·grind
  ·rw [Qe (p:=x) (by omega),if_neg (by omega)];omega
 rw [show tzl (Fi x y)=Fi x y from Zbq (Zds _ _)]at h
 omega
theorem Zz3(x:List Int){y:List Int}(t:Nat):Fu y*cf x t=(ps (mono (x.length-y.length) (rb x y))*ps y).c t+cf (Fi x y) t:=by
 unfold Fi
 rw [Zkn,Hu,Qo,Zpo,Md]
 by_cases h1:x.length-y.length≤t
 ·rw [if_pos h1]
  by_cases h2:t<x.length-y.length+y.length
  ·rw [if_pos ⟨h1,h2⟩,Int.mul_comm (cf x t)];omega
  ·rw [if_neg (by omega),Qe (p:=y) (by omega),Int.mul_comm (cf x t)];omega
 ·rw [if_neg h1,if_neg (by omega),Int.mul_comm (cf x t)];omega
theorem Zge{y:List Int}(hy:Tr y)(h0:y≠[]):0<Fu y:=by
 have:=hy.mem h0
 unfold Fu;split<;>omega
theorem Zbx{y:List Int}(hy:Tr y)(h0:y≠[]):∀(f:Nat) (x:List Int),Tr x→x.length<y.length+f→Tr (Fc f x y)∧(Fc f x y).length<y.length∧∃(k:Nat) (s:List Int),∀t,Fu y^k*cf x t=(ps s*ps y).c t+cf (Fc f x y) t
 | 0,x,hx,hl=>⟨hx,hl,0,[],fun t=>by rw [Kv (fun t=>Qe (Nat.zero_le _)),Int.pow_zero];unfold Fc;omega⟩
 | f+1,x,hx,hl=>by
  unfold Fc
  by_cases h:x.length<y.length
  ·rw [if_pos h]
   exact⟨hx,h,0,[],fun t=>by rw [Kv (fun t=>Qe (Nat.zero_le _)),Int.pow_zero];omega⟩
  ·rw [if_neg h]
   have h1:=Zgu hx (List.length_pos_iff.2 h0) (by omega)
   obtain⟨h2,h3,k,s,hs⟩:=Zbx hy h0 f (Fi x y) (Zds _ _) (by omega)
   refine⟨h2,h3,k+1,Zan (Xw s 1) (Xw (mono (x.length-y.length) (rb x y)) (-(Fu y^k))),fun t=>?_⟩
   have h4:=hs t
   have h5:=Zz3 x (y:=y) t
   rw [Zgr,Int.pow_succ]
   generalize Fu y^k=K at *
   generalize Fu y=a at *
   generalize (ps (mono (x.length-y.length) (rb x y))*ps y).c t=M at *
   generalize (ps s*ps y).c t=S at *
   generalize cf (Fi x y) t=X at *
   generalize cf (Fc f (Fi x y) y) t=Z at *
   have:K*a*cf x t=K*(a*cf x t):=by grind
   rw [this,h5];grind
theorem Zqz(l:Int)(h:l≠0):∀n:Nat,(l<0∧n%2=1→l^n<0)∧(¬(l<0∧n%2=1)→0<l^n)
 | 0=>⟨fun h=>by omega,fun _=>by rw [Int.pow_zero];decide⟩
 | n+1=>by
  have ih:=Zqz l h n
  rw [Int.pow_succ]
  by_cases h1:l<0
  ·by_cases h2:n%2=1
   ·have h3:=ih.1 ⟨h1,h2⟩
    exact⟨fun h=>by omega,fun _=>Int.mul_pos_of_neg_of_neg h3 h1⟩
   ·have h3:=ih.2 (by omega)
    exact⟨fun _=>Int.mul_neg_of_pos_of_neg h3 h1,fun h=>by omega⟩
  ·have h3:=ih.2 (by omega)
   exact⟨fun h=>by omega,fun _=>Int.mul_pos h3 (by omega)⟩
def Zfb(p:List Int):List Int:=Xw p (-1)
theorem Ch(p:List Int)(i:Nat):cf (Zfb p) i=- cf p i:=by unfold Zfb;rw [Qo];omega
theorem Ztc{p:List Int}(h:Tr p):Xf (Zfb p)=Zfb (Xf p):=by
 have hc:Ql (Zfb p)=Ql p:=by
  have d1:Ql (Zfb p)∣Ql p:=El fun i=>by
   have h:=Kp (Zfb p) i
   rw [Ch]at h;exact Int.dvd_neg.1 h
  have d2:Ql p∣Ql (Zfb p):=El fun i=>by rw [Ch];exact Int.dvd_neg.2 (Kp p i)
  exact Int.dvd_antisymm (Lt _) (Lt _) d1 d2
 refine(Qf (Oh _ _)).ext (Oh _ _) fun i=>?_
 show cf (Xf (Zfb p)) i=cf (Zfb (Xf p)) i
 rw [Ch,Zbi,Ch,hc,Zbi]
 exact Int.neg_ediv_of_dvd (Kp p i)
theorem Zdx{x y:List Int}{f:Nat}(hx:Tr x)(hy:Tr y)(h0:y≠[])(hl:y.length≤x.length)(hf:x.length<y.length+f):Xf (Zfb (Fc f x y))=Le x y:=by
 obtain⟨tr,lr,k,s,hs⟩:=Zbx hy h0 f x hx hf
 have ly:=List.length_pos_iff.2 h0
 obtain⟨s2,hs2⟩:=Zho (p:=x) ly hl _ (Nat.le_refl _)
 have hp:∀t,cf (Oe x y (x.length-y.length+1)) t=cf (Pr x y) t:=fun t=>by
  unfold Pr;rw [if_neg (by omega),Km]
 have lp:=Ov x h0
 have htp:=Il (q:=y) hx
 have hlead:=hy.mem h0
 have hK:0<Fu y^k:=Int.pow_pos (Zge hy h0)
 have hsg:=Zqz (cf y (y.length-1)) hlead (x.length-y.length+1)
 generalize hL:cf y (y.length-1)^(x.length-y.length+1)=L at hs2 hsg
 have hL0:L≠0:=by rw [←hL];exact La hlead _
 generalize Fu y^k=K at hs hK
 have key:∀t,(ps (Zan (Xw s2 K) (Xw s L))*ps y).c t=cf (Zan (Xw (Fc f x y) L) (Xw (Pr x y) K)) t:=fun t=>by
  rw [Zgr,Hu,Qo,Qo,←hp t]
  have h1:=hs t
  have h2:=hs2 t
  generalize cf (Oe x y (x.length-y.length+1)) t=A at *
  grind
 have z:=Zvs hy h0 key fun t ht=>by
  rw [Hu,Qo,Qo,Qe (p:=Fc f x y) (by omega),Qe (p:=Pr x y) (by omega)];omega
 have e:∀t,L*cf (Fc f x y) t=K*cf (Pr x y) t:=fun t=>by
  have h1:=key t
  rw [Kv z,Hu,Qo,Qo]at h1
  grind
 unfold Le
 by_cases hc:cf y (y.length-1)<0∧(x.length-y.length+1)%2=1
 ·rw [if_pos hc]
  have hn:=hsg.1 hc
  exact Zkb (Oh _ _) htp ⟨-L,K,by omega,hK,fun t=>by rw [Ch,←e];grind⟩
 ·rw [if_neg hc]
  have hn:=hsg.2 hc
  rw [show Xw (Xf (Pr x y)) (-1)=Zfb (Xf (Pr x y))from rfl,←Ztc htp]
  exact Zkb (Oh _ _) (Oh _ _) ⟨L,K,hn,hK,fun t=>by
   rw [Ch,Ch,Int.mul_neg,e,Int.mul_neg]⟩
theorem Zco{x y:List Int}(hx:Tr x):Tr (Le x y):=by
 unfold Le;split
 ·exact Qf (Il hx)
 ·exact Oh _ _
theorem Bm{x y:List Int}(hx:Tr x):(Le x y).length=(Pr x y).length:=by
 unfold Le
 have h:Tr (Xf (Pr x y)):=Qf (Il hx)
 split
 ·exact Xd _
 ·rw [←Xd (Pr x y)]
  exact((Ze8 (Xf (Pr x y)) (by decide:(-1:Int)≠0)).len h (Oh _ _)).symm
theorem Znp{n:Nat}{p:List Int}(h:Sz n p):Sz n (Qj p):=fun i=>by
 unfold Qj;rw [Dg];split
 ·rw [Int.natAbs_neg];exact Fg h i
 ·exact Fg h i
theorem Zhs{p:List Int}(h:Tr p)(h0:p≠[]):Qj p≠[]:=fun e=>h0 (List.eq_nil_of_length_eq_zero (by rw [←Ng h,e];rfl))
theorem Ai{g:List Int}(h:Tr g)(h0:g≠[]):0<cf (Kn g) ((Kn g).length-1):=by
 have h1:=h.mem h0
 rw [Zb5 h,Dg]
 have:g.length≠0:=fun e=>h0 (List.eq_nil_of_length_eq_zero e)
 split<;>omega
theorem Za6{p:List Int}(h:Tr p)(h0:p≠[]):Ql (Qj p)=1:=by unfold Qj;rw [Zib];exact Ir h h0
theorem Ztj{p:List Int}(h:Tr p)(h1:Ql p=1)(h2:0<cf p (p.length-1)):Qj p=p:=by
 unfold Qj;rw [Zgi h1];unfold Kn;rw [if_neg (by omega)]
theorem Mi{xs:List Int}{F:Nat}(hx:Tr xs)(h0:xs≠[])(hok:eok F (gA (Qj xs) (Qi (Qj xs))) (gB (Qj xs) (Qi (Qj xs)))) :
  pdv (Qj xs) (Ms F (Qj xs) (Qi (Qj xs)))∧Tr (sqf F xs)∧sqf F xs≠[]∧Qj xs=Ou (sqf F xs) (Ms F (Qj xs) (Qi (Qj xs)))∧Ms F (Qj xs) (Qi (Qj xs))≠[]∧Qj (sqf F xs)=sqf F xs:=by
 have hs:Tr (Qj xs):=Mp (Qf hx)
 have hd:Tr (Qi (Qj xs)):=Mz hs
 have hs0:=Zhs hx h0
 have hdv:=(Zd6 hs hd hok).1
 have htg:=Zdt (F:=F) hs hd
 have hg0:Ms F (Qj xs) (Qi (Qj xs))≠[]:=fun e=>hs0 ((e▸hdv).zero hs)
 have hc:=Zkg hs hd hg0
 obtain⟨k,s,hk,h⟩:=hdv
 obtain⟨q,hq⟩:=gauss hc _ k s rfl hk h
 have hqe:Qj xs=Ou (tzl q) (Ms F (Qj xs) (Qi (Qj xs))):=hs.ext (Om _ _) fun i=>by
  rw [Gx,hq,Zoe]
 obtain⟨p1,p2⟩:=Zol (Nr q) htg hg0
 have hsq:sqf F xs=tzl q:=by
  unfold sqf
  have p2':=p2
  rw [←hqe]at p2'
  exact p2'
 rw [←hqe]at p1
 have hq0:tzl q≠[]:=fun e=>hs0 (by rw [hqe,e,Fw])
 refine⟨p1,by rw [hsq];exact Nr q,by rw [hsq];exact hq0,by rw [hsq];exact hqe,hg0,?_⟩
 rw [hsq]
 refine Ztj (Nr q) ?_ ?_
 ·have h1:=Za6 hx h0
  have h2:Ql (tzl q)∣Ql (Qj xs):=El fun i=>by
   rw [hqe,Gx,PS.mul_c]
   have key:∀m,Ql (tzl q)∣Qr (fun k=>(ps (tzl q)).c k*(ps (Ms F (Qj xs) (Qi (Qj xs)))).c (i-k)) m:=fun m=>by
    induction m with
    | zero=>exact Int.dvd_zero _
    | succ m ih=>rw [Qq];exact Int.dvd_add ih (Int.dvd_trans (Kp (tzl q) m) (Int.dvd_mul_right _ _))
   exact key _
  rw [h1]at h2
  have h3:=Lt (tzl q)
  have h4:=Int.le_of_dvd (by decide) h2
  have h5:Ql (tzl q)≠0:=Af (Nr q) hq0
  omega
 ·have l1:=List.length_pos_iff.2 hq0
  have l2:=List.length_pos_iff.2 hg0
  have h1:0<cf (Qj xs) ((Qj xs).length-1):=Ai (Qf hx) (fun e=>h0 (List.eq_nil_of_length_eq_zero (by rw [←Xd,e];rfl)))
  have h2:0<cf (Ms F (Qj xs) (Qi (Qj xs))) ((Ms F (Qj xs) (Qi (Qj xs))).length-1):=Ai (Zk4 F (Zh2 hs hd) (Zh1 hs hd)) (fun e=>hg0 (by unfold Ms;rw [e];rfl))
  have h3:=Nz (Nr q) htg hq0 hg0
  rw [←hqe]at h3
  have h4:cf (Qj xs) ((Qj xs).length-1)=cf (tzl q) ((tzl q).length-1)*cf (Ms F (Qj xs) (Qi (Qj xs))) ((Ms F (Qj xs) (Qi (Qj xs))).length-1):=by
   rw [h3,hqe,Gx,←hqe,show(tzl q).length+(Ms F (Qj xs) (Qi (Qj xs))).length-1-1=((tzl q).length-1)+((Ms F (Qj xs) (Qi (Qj xs))).length-1) by omega]
   exact Am (fun i hi=>Qe (by omega)) (fun i hi=>Qe (by omega))
  rw [h4]at h1
  rcases Int.lt_or_le 0 (cf (tzl q) ((tzl q).length-1))with h5 | h5
  ·exact h5
  ·exfalso
   have:=Int.mul_nonpos_of_nonpos_of_nonneg h5 (Int.le_of_lt h2)
   omega
theorem Nv(p:List Int):(Qi p).length=p.length-1:=Qp _ _
theorem Zty{p:List Int}{n:Nat}(hp:Sz n p)(hl:p.length≤25)(i:Nat):bl (cf p (i+1)*((i:Int)+1)).natAbs≤n+5:=by
 rcases Nat.lt_or_ge (i+1) p.length with h | h
 ·have h1:=Qk (cf p (i+1)) ((i:Int)+1)
  have h2:=hp (i+1)
  have h3:bl ((i:Int)+1).natAbs≤5:=(Mo 5 _).2 (by omega)
  omega
 ·rw [Qe h];simp [Ly]
theorem Zg8(p:List Int)(i:Nat):cf (Qi p) i=cf p (i+1)*((i:Int)+1):=by
 unfold Qi
 rw [It]
 split
 ·rfl
 ·rw [Qe (by omega),Int.zero_mul]
theorem Fh{p:List Int}{n:Nat}(hp:Sz n p)(hl:p.length≤25):Sz (n+5) (Qi p):=fun i=>by rw [Zg8];exact Zty hp hl i
theorem Zfs{p:List Int}(h:Vp p)(hz:∀i,i<p.length→bl (cf p (i+1)*((i:Int)+1)).natAbs≤65536):Vp (Qi p):=by
 refine⟨fun i=>?_,Mz h.tr,by rw [Nv];have:=h.len;omega⟩
 rw [Zg8]
 by_cases hi:i<p.length
 ·exact hz i hi
 ·rw [Qe (by omega)];simp [Ly]
theorem sf_t{xs:List Int}(h:xs.length=0):Value.bool (decide (Zax xs))= .bool true:=congrArg Value.bool (decide_eq_true (.inl h))
theorem sf_i{xs:List Int}{n:Int}(h:xs.length≠0)(hn:n=(((xs.length+2)*(xs.length+2)*(Pi xs+16):Nat):Int)):Value.bool (decide (Zax xs))= .bool (decide (n≤65536)):=congrArg Value.bool (decide_eq_decide.2 (by
 subst hn
 show(xs.length=0∨(xs.length+2)*(xs.length+2)*(Pi xs+16)≤65536)↔_
 constructor
 ·intro h1;rcases h1 with h1 | h1
  ·exact absurd h1 h
  ·exact Int.ofNat_le.2 h1
 ·intro h1;exact .inr (Int.ofNat_le.1 h1)))
theorem Zxi{x y:List Int}(h:(Pr x y).length=0):Le x y=[]:=by
 have h1:Pr x y=[]:=List.eq_nil_of_length_eq_zero h
 unfold Le;rw [h1];split<;>rfl
theorem Ydq{x y:List Int}(hl:y.length≤x.length)(h1:(cf y (y.length-1)).sign<0)(h2:((x.length:Int)-(y.length:Int)+1)%2=1):Le x y=Xf (Pr x y):=by
 unfold Le;rw [if_pos ⟨(Qz _).1 h1,by omega⟩]
theorem Zuo{x y:List Int}(h1:¬(cf y (y.length-1)).sign<0):Le x y=Xw (Xf (Pr x y)) (-1):=by
 unfold Le;rw [if_neg (fun h=>h1 ((Qz _).2 h.1))]
theorem Zun{x y:List Int}(hl:y.length≤x.length)(h2:¬((x.length:Int)-(y.length:Int)+1)%2=1):Le x y=Xw (Xf (Pr x y)) (-1):=by
 unfold Le;rw [if_neg (fun h=>h2 (by omega))]
theorem Zjm{xs:List Int}{F:Nat}(hv:Vp xs)(h0:xs≠[])(h:Ydp F xs):Vp (sqf F xs):=by
 obtain⟨_,_,_,h4,h5⟩:=h
 have hn:=Zsr hv
 unfold sqf Kt
 split
 ·exact⟨Sz.nil _,Tr.nil,by simp⟩
 ·rename_i h6
  rcases h5 with h5 | h5
  ·exact absurd h5 h6
  ·have h7:=(Zb8 h4).2 h5.1
   refine⟨?_,Nr _,?_⟩
   ·rw [←Zde];exact(Zum h7 h5.2.1 _).tzl
   ·have h8:=Hc (Zdf (Qj xs) (Ms F (Qj xs) (Qi (Qj xs))) ((Qj xs).length-(Ms F (Qj xs) (Qi (Qj xs))).length+1))
    rw [Zde,Zaa]at h8
    have:=hn.len
    have:=(Zb8 h4).1
    omega
theorem Zkr{xs:List Int}{F:Nat}(hv:Vp xs)(h:Ydp F xs):(sqf F xs).length≤xs.length:=by
 obtain⟨_,_,_,h4,h5⟩:=h
 have hl:=Ng hv.tr
 unfold sqf Kt
 split
 ·exact Nat.zero_le _
 ·rename_i h6
  rcases h5 with h5 | h5
  ·exact absurd h5 h6
  ·have h8:=Hc (Zdf (Qj xs) (Ms F (Qj xs) (Qi (Qj xs))) ((Qj xs).length-(Ms F (Qj xs) (Qi (Qj xs))).length+1))
   rw [Zde,Zaa]at h8
   have:=(Zb8 h4).1
   have:=h5.1
   omega
theorem Zwx{L:List Int}{i:Nat}{n l s:Int}(hi:i<L.length)(h:(n,l)=(L.take i).foldl Mu (0,0))(hs:L.getD i 0=s)(h0:s=0):(n,l)=(L.take (i+1)).foldl Mu (0,0):=by
 rw [Mc 0 L i hi,Zb7,←h,hs];unfold Mu;rw [if_pos h0]
theorem Zww{L:List Int}{i:Nat}{n l s:Int}(hi:i<L.length)(h:(n,l)=(L.take i).foldl Mu (0,0))(hs:L.getD i 0=s)(h0:s≠0)(h1:s=-l):(n+1,s)=(L.take (i+1)).foldl Mu (0,0):=by
 rw [Mc 0 L i hi,Zb7,←h,hs];unfold Mu;rw [if_neg h0];dsimp only;rw [if_pos h1]
theorem Zwv{L:List Int}{i:Nat}{n l s:Int}(hi:i<L.length)(h:(n,l)=(L.take i).foldl Mu (0,0))(hs:L.getD i 0=s)(h0:s≠0)(h1:¬s=-l):(n,s)=(L.take (i+1)).foldl Mu (0,0):=by
 rw [Mc 0 L i hi,Zb7,←h,hs];unfold Mu;rw [if_neg h0];dsimp only;rw [if_neg h1]
theorem Yf0{L:List Int}{i:Nat}{n l:Int}(hi:L.length≤i)(h:(n,l)=(L.take i).foldl Mu (0,0)):n=chg L:=by
 rw [List.take_of_length_le hi]at h
 unfold chg;rw [←h]
theorem Zzs(z:Int):-1≤z.sign∧z.sign≤1:=by
 rcases Int.lt_trichotomy z 0 with h | h | h
 ·rw [Int.sign_eq_neg_one_of_neg h];omega
 ·subst h;simp
 ·rw [Int.sign_eq_one_of_pos h];omega
theorem Ybj{α:Type}(d:α)(f:α→Int)(ls:List α){i:Nat}(h:i<ls.length):(ls.map f).getD i 0=f (ls.getD i d):=by
 simp [List.getD_eq_getElem?_getD,h]
def sgx(ls:List (SL×List Int))(f:List Int→Int):List Int:=ls.map fun z=>f z.2
theorem Zqe(ls:List (SL×List Int))(f:List Int→Int){i:Nat}(h:i<ls.length):(sgx ls f).getD i 0=f (ls.getD i ((none,0,0),[])).2:=Ybj _ _ _ h
theorem Zks(ls:List (SL×List Int))(f:List Int→Int):(sgx ls f).length=ls.length:=List.length_map ..
def fr(p:List Int):Int:=(cf p (p.length-1)).sign
def fl(p:List Int):Int:=if p.length%2=0 then-(cf p (p.length-1)).sign else(cf p (p.length-1)).sign
def fat(x y:Int)(p:List Int):Int:=(pev p x y).sign
theorem fat_r(x y:Int)(p:List Int):-1≤fat x y p∧fat x y p≤1:=Zzs _
theorem Zl8:∀(f:Nat) {x y:List Int},Vp x→Vp y→cok f x y→∀p∈Li f x y,Vp p
 | 0,x,y,hx,_,_,p,hp=>by rw [List.mem_singleton.1 hp];exact hx
 | f+1,x,y,hx,hy,h,p,hp=>by
  unfold Li at hp
  split at hp
  ·rw [List.mem_singleton.1 hp];exact hx
  ·rcases h with h | h
   ·contradiction
   ·rcases List.mem_cons.1 hp with rfl | hp
    ·exact hx
    ·exact Zl8 f hy (Zjn hx h.1) h.2.2 p hp
theorem Zy2{xs:List Int}{F:Nat}(hv:Vp xs)(h0:xs≠[])(hC:Ar F xs):∀p∈chn F xs,Vp p:=by
 obtain⟨h1,h2,h3⟩:=hC
 have hq:=Zjm hv h0 h1
 exact Zl8 F hq (Ii (Zfs hq (fun i hi=>h2 i (by have:=Zkr hv h1;omega)))) h3
def cnt(F:Nat)(xs:List Int)(x y:Int):Int:=chg ((chn F xs).map (fat x y))
def sright(F:Nat)(xs:List Int):Int:=chg ((chn F xs).map fr)
def sleft(F:Nat)(xs:List Int):Int:=chg ((chn F xs).map fl)
theorem Zur{ls:List (SL×List Int)}{C:List (List Int)}(h:ls.map Prod.snd=C)(f:List Int→Int):sgx ls f=C.map f:=by
 rw [←h,List.map_map];rfl
theorem Qv{ls:List (SL×List Int)}{C:List (List Int)}{p:List Int→Prop}(h:ls.map Prod.snd=C)(hp:∀q∈C,p q):∀z∈ls,p z.2:=fun z hz=>hp _ (h▸List.mem_map_of_mem hz)
theorem Zbh(L:List Int):0≤chg L∧chg L≤L.length:=by
 unfold chg
 suffices h:∀(l:List Int) (s:Int×Int),s.1≤(l.foldl Mu s).1∧(l.foldl Mu s).1≤s.1+l.length by
  have:=h L (0,0);simpa using this
 intro l
 induction l with
 | nil=>intro s;simp
 | cons x l ih=>
  intro s
  have h1:=ih (Mu s x)
  have h2:=chg1_n s x
  simp only [List.foldl_cons,List.length_cons]
  omega
theorem Zaq:∀(f:Nat) (x y:List Int),(Li f x y).length≤f+1
 | 0,x,y=>Nat.le_refl _
 | f+1,x,y=>by
  unfold Li;split
  ·simp
  ·have:=Zaq f y (Le x y);simp;omega
def sm(xs:List Int)(i:Nat):Nat:=(xs.take i).foldl (fun m c=>max m c.natAbs) 0
theorem Zfe{x y:Int}(h:¬He x y):Bj x y=x/Kw x y∧Cn x y=y/Kw x y∧Yaa x y=0:=⟨if_neg h,if_neg h,if_neg h⟩
theorem nr_bl{x y:Int}(h:¬He x y):bl (Bj x y).natAbs≤65536∧bl (Cn x y).natAbs≤65536:=by
 obtain⟨h1,h2,_⟩:=Zfe h
 rw [h1,h2]
 unfold He at h
 omega
theorem Ztk{x y:Int}(h:¬He x y)(hy:0<y):0<Cn x y:=by
 rw [(Zfe h).2.1];exact Zyc hy
abbrev R2:=Int×Int
def Nd(a b:R2):R2:=(Bj (Bj (a.1*b.2+b.1*a.2) (a.2*b.2)*1) (Cn (a.1*b.2+b.1*a.2) (a.2*b.2)*2),Cn (Bj (a.1*b.2+b.1*a.2) (a.2*b.2)*1) (Cn (a.1*b.2+b.1*a.2) (a.2*b.2)*2))
def Zeu(a b:R2):Prop:=¬He (a.1*b.2+b.1*a.2) (a.2*b.2)∧¬He (Bj (a.1*b.2+b.1*a.2) (a.2*b.2)*1) (Cn (a.1*b.2+b.1*a.2) (a.2*b.2)*2)
instance (a b:R2):Decidable (Zeu a b):=by unfold Zeu;infer_instance
theorem Zx8{a b:R2}(h:Zeu a b):Yaa (Bj (a.1*b.2+b.1*a.2) (a.2*b.2)*1) (Cn (a.1*b.2+b.1*a.2) (a.2*b.2)*2)=0:=(Zfe h.2).2.2
def isp(cv:R2→Int)(hv:Int):Nat→R2→R2→Int→Int→Nat→List (R2×R2)
 | 0,_,_,_,_,_=>[]
 | f+1,a,b,fr,to,d=>if fr=to then []else if fr-to=1∧hv≤(d:Int)then [(a,b)]else isp cv hv f a (Nd a b) fr (cv (Nd a b)) (d+1) ++ isp cv hv f (Nd a b) b (cv (Nd a b)) to (d+1)
def Zvz(cv:R2→Int)(ok:R2→Prop)(hv:Int):Nat→R2→R2→Int→Int→Nat→Prop
 | 0,_,_,_,_,_=>False
 | f+1,a,b,fr,to,d=>fr=to∨(fr-to=1∧hv≤(d:Int))∨(d<1000∧Zeu a b∧ok (Nd a b)∧Zvz cv ok hv f a (Nd a b) fr (cv (Nd a b)) (d+1)∧Zvz cv ok hv f (Nd a b) b (cv (Nd a b)) to (d+1))
instance ispDec (cv:R2→Int) (ok:R2→Prop) [DecidablePred ok] (hv:Int):∀f a b fr to d,Decidable (Zvz cv ok hv f a b fr to d)
 | 0,_,_,_,_,_=>inferInstanceAs (Decidable False)
 | f+1,a,b,fr,to,d=>@instDecidableOr _ _ _ (@instDecidableOr _ _ _ (@instDecidableAnd _ _ _ (@instDecidableAnd _ _ _ (@instDecidableAnd _ _ _ (@instDecidableAnd _ _ (ispDec cv ok hv f a (Nd a b) fr (cv (Nd a b)) (d+1)) (ispDec cv ok hv f (Nd a b) b (cv (Nd a b)) to (d+1)))))))
def okQ(z:R2):Prop:=bl z.1.natAbs≤65536∧bl z.2.natAbs≤65536∧0<z.2
def evok(ls:List (SL×List Int))(m:R2):Prop:=∀z∈ls,¬Iw z.2 m.1 m.2
def cvx(ls:List (SL×List Int))(m:R2):Int:=chg (sgx ls (fat m.1 m.2))
def cvc(F:Nat)(xs:List Int)(m:R2):Int:=cnt F xs m.1 m.2
def evc(F:Nat)(xs:List Int)(m:R2):Prop:=∀p∈chn F xs,¬Iw p m.1 m.2
def slow(a:R2):R2:=(Bj a.1 a.2,Cn a.1 a.2)
def sisol(F:Nat)(xs:List Int)(f:Nat)(a b:R2)(hq:Int):List (R2×R2):=isp (cvc F xs) hq f (slow a) (slow b) (cvc F xs a) (cvc F xs b) 0
def isOK(F:Nat)(xs:List Int)(f:Nat)(a b:R2)(hq:Int):Prop:=Ar F xs∧evc F xs a∧evc F xs b∧¬He a.1 a.2∧¬He b.1 b.2∧Zvz (cvc F xs) (evc F xs) hq f (slow a) (slow b) (cvc F xs a) (cvc F xs b) 0∧(sisol F xs f a b hq).length≤1000000
theorem Zdy{c:Int} : c.sign<0↔c<0:=Qz c
abbrev RWL:=List (Bool×ByteArray)
def smallR(r:RWL):Bool:=decide (r.length≤8) && r.all fun c=>decide (c.2.size≤6)
noncomputable def dec (r:RWL):List Int:=if h:okP r=true then(Ya6 h).choose else []
theorem Zpc{r:RWL}(h:okP r=true):Vp (dec r)∧r=(dec r).map wr:=by
 unfold dec;rw [dif_pos h];exact(Ya6 h).choose_spec
noncomputable def bdE (r:RWL):Int:=if okP r=true then Zt2 (dec r)else 2
noncomputable def bdZ (r:RWL):Int:=if bdE r=0 then sbound (dec r)else 0
theorem Znq{r:RWL}(h:okP r=true)(v:Value)(w:World)(hh:(Px 2 Aq v r).holds w):(Px 2 wv v (dec r)).holds w:=
 Zup v (dec r) w ((Zpc h).2▸hh)
theorem Yac{y:List Int}{c:Int}{n:Nat}(hn:y.length=n)(hc:c=cf y (n-1))(h:c.sign<0):Fu y=-c:=by
 subst hn;unfold Fu;rw [←hc,if_pos (Zdy.1 h)]
theorem Yab{y:List Int}{c:Int}{n:Nat}(hn:y.length=n)(hc:c=cf y (n-1))(h:¬c.sign<0):Fu y=c:=by
 subst hn;unfold Fu;rw [←hc,if_neg (fun h2=>h (Zdy.2 h2))]
theorem rb_n{x y:List Int}{c d:Int}{n m:Nat}(hn:y.length=n)(hm:x.length=m)(hc:c=cf y (n-1))(hd:d=cf x (m-1))(h:c.sign<0):rb x y=-d:=by
 subst hn hm;unfold rb;rw [←hc,if_pos (Zdy.1 h),hd]
theorem rb_p{x y:List Int}{c d:Int}{n m:Nat}(hn:y.length=n)(hm:x.length=m)(hc:c=cf y (n-1))(hd:d=cf x (m-1))(h:¬c.sign<0):rb x y=d:=by
 subst hn hm;unfold rb;rw [←hc,if_neg (fun h2=>h (Zdy.2 h2)),hd]
theorem Zw3(y:List Int):bl (Fu y).natAbs≤Pi y:=by
 have:=Ot y (y.length-1)
 unfold Fu;split
 ·rwa [Int.natAbs_neg]
 ·exact this
theorem bl_rb(x y:List Int):bl (rb x y).natAbs≤Pi x:=by
 have:=Ot x (x.length-1)
 unfold rb;split
 ·rwa [Int.natAbs_neg]
 ·exact this
theorem Zbt{p:List Int}{c:Int}{n m:Nat}(hp:Sz n p)(hc:bl c.natAbs≤m):Sz (n+m) (Xw p c):=fun i=>by
 rw [Qo];have h1:=Qk (cf p i) c;have h2:=hp i;omega
theorem Zza{p q:List Int}{n:Nat}(hp:Sz n p)(hq:Sz n q):Sz (n+1) (Zan p q):=fun i=>by
 rw [Hu];have h1:=Cj (cf p i) (cf q i);have h2:=hp i;have h3:=hq i;omega
theorem sz_shm'{x y:List Int}{s i:Nat} : Sz (Pi x+Pi y) (shm y (rb x y) s i):=Znr fun t=>by
 have h1:=Qk (rb x y) (cf y t);have h2:=bl_rb x y;have h3:=Ot y t;omega
theorem Zm0(x y:List Int):Pi (Fi x y)≤Pi x+Pi y+1:=by
 refine Oi ?_
 unfold Fi
 exact Zza (Zbt (Ot x) (Zw3 y)) sz_shm'
theorem Zxo{x y:List Int}{f S:Nat}(hy0:0<y.length)(hle:y.length≤x.length)(hL:x.length<y.length+f)(hT:Tr x)(hS:Pi x+f*(Pi y+1)≤S) :
  ∃g,f=g+1∧Fc f x y=Fc g (Fi x y) y∧(Fi x y).length<y.length+g∧Tr (Fi x y)∧Pi (Fi x y)+g*(Pi y+1)≤S∧(Fi x y).length<x.length:=by
 obtain⟨g,rfl⟩:∃g,f=g+1:=⟨f-1,by omega⟩
 have h1:=Zgu hT hy0 hle
 have h2:=Zm0 x y
 refine⟨g,rfl,?_,by omega,Zds _ _,?_,h1⟩
 ·rw [Fc,if_neg (by omega)]
 ·rw [Nat.succ_mul]at hS;omega
theorem Zz2{x y:List Int}{f:Nat}(h:x.length<y.length):Fc f x y=x:=by
 cases f with
 | zero=>rfl
 | succ f=>rw [Fc,if_pos h]
theorem Zrd(y:List Int):∀(f:Nat) (x:List Int),Pi (Fc f x y)≤Pi x+f*(Pi y+1)
 | 0,x=>by rw [Fc];omega
 | f+1,x=>by
  rw [Fc]
  split
  ·omega
  ·have h1:=Zrd y f (Fi x y)
   have h2:=Zm0 x y
   rw [Nat.succ_mul];omega
theorem Cal.toS {P:Program} {f:FuncId} {args:Array Value} {pre:List Pc} {al:Bool} {φ:Value×List (Int×SL)→Prop}
  (h:Cal P f args pre al (G:=Value×List (Int×SL)) φ (fun r=>r.1) (fun r=>[pp r.1 r.2])) :
  Cal P f args pre al (G:=SL×List (Int×SL)) (fun r=>φ (svv r.1,r.2)) (fun r=>svv r.1) (fun r=>[pp (svv r.1) r.2]):=fun w hw=>by
 refine(h w hw).mono fun e w' ⟨g,he,hφ,hb,hi⟩=>?_
 obtain⟨v,z⟩:=g
 have h0:=(hi _ (List.mem_cons_self ..)).1
 obtain⟨ad,c,h1,_⟩:=Yg w' h0
 have h2:v=svv (ad,z.length,c):=h1
 subst h2
 exact⟨((ad,z.length,c),z),he,hφ,hb,hi⟩
abbrev qT (z:SL×List (Int×SL)):Pc:=pp (svv z.1) z.2
abbrev T0:SL×List (Int×SL):=((none,0,0),[])
abbrev Bf (zs:List (SL×List (Int×SL))):List (List Int):=zs.map fun z=>Zj z.2
def firstE(r:RWL)(x y x2 y2:Int):Int:=if okP r=true then(if r.length=0∨0<x*y2-x2*y then 3 else 0)else 2
theorem Zyi{z:List (SL×List (Int×SL))}{L:List (List Int)}(h:Bf z=L):z.length=L.length:=by rw [←h];simp
theorem Zne{n:Nat}(k:Nat)(h:(Xp n).size≤k):bl n≤8*k:=by
 have h1:=Hj n
 have h2:=Zfg n
 omega
theorem Zpm{n l x:Int}(h1:-1≤l)(h2:l≤1)(h3:-1≤x)(h4:x≤1):Mu (n,l) x=(if x*l<0 then n+1 else n,if x≠0 then x else l):=by
 obtain rfl | rfl | rfl:l=-1∨l=0∨l=1:=by omega
 all_goals obtain rfl | rfl | rfl:x=-1∨x=0∨x=1:=by omega
 all_goals simp [Mu]
theorem Zvb{n l x:Int}(h1:-1≤l)(h2:l≤1)(h3:-1≤x)(h4:x≤1)(ha:x*l<0)(hb:x≠0):Mu (n,l) x=(n+1,x):=by rw [Zpm h1 h2 h3 h4,if_pos ha,if_pos hb]
theorem Zva{n l x:Int}(h1:-1≤l)(h2:l≤1)(h3:-1≤x)(h4:x≤1)(ha:x*l<0)(hb:¬x≠0):Mu (n,l) x=(n+1,l):=by rw [Zpm h1 h2 h3 h4,if_pos ha,if_neg hb]
theorem Zu9{n l x:Int}(h1:-1≤l)(h2:l≤1)(h3:-1≤x)(h4:x≤1)(ha:¬x*l<0)(hb:x≠0):Mu (n,l) x=(n,x):=by rw [Zpm h1 h2 h3 h4,if_neg ha,if_pos hb]
theorem Zu8{n l x:Int}(h1:-1≤l)(h2:l≤1)(h3:-1≤x)(h4:x≤1)(ha:¬x*l<0)(hb:¬x≠0):Mu (n,l) x=(n,l):=by rw [Zpm h1 h2 h3 h4,if_neg ha,if_neg hb]
theorem Zdu{l:List Int}{i:Nat}{n m:Int}(hi:i<l.length)(h:(n,m)=(l.take i).foldl Mu (0,0)):(l.take (i+1)).foldl Mu (0,0)=Mu (n,m) (l.getD i 0):=by
 rw [Mc 0 l i hi,Zb7,h]
theorem mul_r{x m:Int}(h3:-1≤x)(h4:x≤1)(h1:-1≤m)(h2:m≤1):-9223372036854775808≤x*m∧x*m≤9223372036854775807:=by
 obtain rfl | rfl | rfl:m=-1∨m=0∨m=1:=by omega
 all_goals obtain rfl | rfl | rfl:x=-1∨x=0∨x=1:=by omega
 all_goals decide
theorem ev_b{p:List Int}{x y:Int}(hs:Sz 1000000 p)(hl:p.length≤30)(hx:bl x.natAbs≤1000000)(hy:bl y.natAbs≤1000000):bl (pev p x y).natAbs≤100000010:=
 Zpr (fun t _=>ev_tb hs (fun k=>Zbu hx k) (fun k=>Zbu hy k) hl t) (by omega)
theorem Zyh{z:List (SL×List (Int×SL))}{L:List (List Int)}(h:Bf z=L)(f:List Int→Int){i:Nat}(hi:i<z.length):(L.map f).getD i 0=f (Zj (z.getD i T0).2):=by
 subst h
 simp only [List.getD_eq_getElem?_getD,List.getElem?_map,List.getElem?_eq_getElem hi]
 rfl
def chke:Nat→Nat→Nat→Nat→Nat→Bool
 | 0,la,_,A,_=>Nat.ble (A+la*64) 65500
 | f+1,la,lb,A,B=>Nat.ble (A+la*64) 65500 && (Nat.beq lb 0 || (List.range lb).all fun l=>chke f lb l B (bif Nat.ble l 1 then 2 else A+(la-lb+1)*B))
abbrev RZ:=(Bool×ByteArray)×(Bool×ByteArray)
abbrev Q0:RZ:=((false,⟨#[]⟩),(false,⟨#[]⟩))
def Bd(z:RZ):Bool:=okR z.1.1 z.1.2 z.2.1 z.2.2
noncomputable def qx (z:RZ):Int:=if h:okR z.1.1 z.1.2 z.2.1 z.2.2=true then(Zti h).choose else 0
noncomputable def qy (z:RZ):Int:=if h:okR z.1.1 z.1.2 z.2.1 z.2.2=true then(Zti h).choose_spec.choose else 0
theorem Yed{z:RZ}(h:Bd z=true):bl (qx z).natAbs≤65536∧bl (qy z).natAbs≤65536∧0<qy z∧z=((decide (qx z<0),Xp (qx z).natAbs),(decide (qy z<0),Xp (qy z).natAbs)):=by
 have h':okR z.1.1 z.1.2 z.2.1 z.2.2=true:=h
 unfold qx qy
 rw [dif_pos h',dif_pos h']
 obtain⟨h1,h2,h3,e1,e2,e3,e4⟩:=(Zti h').choose_spec.choose_spec
 exact⟨h1,h2,h3,Prod.ext (Prod.ext e1 e2) (Prod.ext e3 e4)⟩
theorem vp_lit{l:List Int}(h1:∀x∈l,inI x)(h2:tzl l=l)(h3:l.length≤25):Vp l:=⟨Zfy h1,h2▸Nr l,h3⟩
theorem Zv1{l:List Int}(h:(l.all fun x=>decide (-1000000≤x) && decide (x≤1000000))=true):∀x∈l,inI x:=fun x hx=>by
 have h1:=List.all_eq_true.1 h x hx
 simp only [Bool.and_eq_true,decide_eq_true_eq]at h1
 exact⟨by omega,by omega⟩
def Zyb(l:List Int):Bool:=(l.all fun x=>decide (-1000000≤x) && decide (x≤1000000)) && (decide (tzl l=l) && decide (l.length≤25))
theorem vp_b{l:List Int}(h:Zyb l=true):Vp l:=by
 unfold Zyb at h
 rw [Bool.and_eq_true,Bool.and_eq_true]at h
 exact vp_lit (Zv1 h.1) (of_decide_eq_true h.2.1) (of_decide_eq_true h.2.2)
instance eokDec:∀f a b,Decidable (eok f a b)
 | 0,_,b=>inferInstanceAs (Decidable (b=[]))
 | f+1,a,b=>@instDecidableOr _ _ _ (@instDecidableAnd _ _ _ (eokDec f b (Xf (Pr a b))))
inductive SV:List Int→List Int→Prop
 | one (a:Int):SV [a] [a]
 | step (a:Int) (r t:List Int):SV r t→SV (a :: r) (a :: t)
 | skip (a u w:Int) (r t:List Int):(a=1∨a=-1)→(-1≤u∧u≤1)→(-1≤w∧w≤1)→SV (-a :: r) (-a :: t)→SV (a :: u :: -a :: r) (a :: w :: -a :: t)
theorem Znd{s:Int×Int}{a u:Int}(ha:a=1∨a=-1)(hu:-1≤u∧u≤1):Mu (Mu (Mu s a) u) (-a)=Mu (Mu s a) (-a):=by
 obtain⟨n,l⟩:=s
 have h3:u=-1∨u=0∨u=1:=by omega
 rcases ha with rfl | rfl<;>rcases h3 with rfl | rfl | rfl<;>simp [Mu]
theorem SV.fold{a b:List Int}(h:SV a b):∀s,a.foldl Mu s=b.foldl Mu s:=by
 induction h with
 | one a=>intro s;rfl
 | step a r t _ ih=>intro s;exact ih (Mu s a)
 | skip a u w r t ha hu hw _ ih=>
  intro s
  show(r.foldl Mu (Mu (Mu (Mu s a) u) (-a)))=(t.foldl Mu (Mu (Mu (Mu s a) w) (-a)))
  rw [Znd ha hu,Znd ha hw]
  exact ih (Mu s a)
theorem SV.chg{a b:List Int}(h:SV a b):chg a=chg b:=congrArg Prod.fst (h.fold (0,0))
def Ev(x:Rat):Int:=if x<0 then -1 else if x=0 then 0 else 1
theorem Zz0(x:Rat):-1≤Ev x∧Ev x≤1:=by unfold Ev;split;decide;split<;>decide
theorem Au{x:Rat}(h:0<x):Ev x=1:=by unfold Ev;rw [if_neg (by grind),if_neg (by grind)]
theorem Av{x:Rat}(h:x<0):Ev x=-1:=by unfold Ev;rw [if_pos h]
def Big(η x:Rat)(f:Rat→Rat):Prop:=η<f x∨f x < -η
def Tri(η x:Rat):(Rat→Rat)→List (Rat→Rat)→Prop
 | _,[]=>True
 | _,[g]=>Big η x g
 | f,g :: k :: r=>(Big η x g∧Tri η x g (k :: r))∨(Big η x k∧f x*k x<0∧Tri η x k r)
def Near(η x y:Rat)(f:Rat→Rat):Prop:=f x-f y≤η∧f y-f x≤η
theorem Zpx{η x y:Rat}{f:Rat→Rat}(h0:0≤η)(h:Big η x f)(hn:Near η x y f):Ev (f x)=Ev (f y)∧(Ev (f x)=1∨Ev (f x)=-1):=by
 obtain⟨h1,h2⟩:=hn
 rcases h with h | h
 ·rw [Au (by grind),Au (by grind)];exact⟨rfl,.inl rfl⟩
 ·rw [Av (by grind),Av (by grind)];exact⟨rfl,.inr rfl⟩
theorem opp_sg{a b:Rat}(h:a*b<0):Ev b=- Ev a:=by
 rcases(show a<0∨a=0∨0<a by grind)with h1 | h1 | h1
 ·rw [Av h1,Au (by
   rcases(show b≤0∨0<b by grind)with h2 | h2
   ·have:=Rat.mul_nonneg (a:=-a) (b:=-b) (by grind) (by grind);grind
   ·exact h2)];rfl
 ·subst h1;grind
 ·rw [Au h1,Av (by
   rcases(show 0≤b∨b<0 by grind)with h2 | h2
   ·have:=Rat.mul_nonneg (a:=a) (b:=b) (by grind) h2;grind
   ·exact h2)]
theorem Znn{η x y:Rat}(h0:0≤η):∀(n:Nat) (f:Rat→Rat) (fs:List (Rat→Rat)),fs.length≤n→Big η x f→(∀g∈f :: fs,Near η x y g)→Tri η x f fs→
  SV ((f :: fs).map fun g=>Ev (g x)) ((f :: fs).map fun g=>Ev (g y))
 | _,f,[],_,hb,hn,_=>by
  have:=(Zpx h0 hb (hn f (List.mem_cons_self ..))).1
  simp only [List.map_cons,List.map_nil,this]
  exact SV.one _
 | 0,f,g :: r,hl,_,_,_=>absurd hl (by simp)
 | n+1,f,[g],hl,hb,hn,ht=>by
  have h1:=(Zpx h0 hb (hn f (List.mem_cons_self ..))).1
  have h2:=Znn h0 n g [] (by simp) ht (fun k hk=>hn k (List.mem_cons_of_mem _ hk)) trivial
  rw [List.map_cons,List.map_cons,h1]
  exact SV.step _ _ _ h2
 | n+1,f,g :: k :: r,hl,hb,hn,ht=>by
  have h1:=Zpx h0 hb (hn f (List.mem_cons_self ..))
  rcases ht with⟨hg,ht⟩ | ⟨hk,ho,ht⟩
  ·have h2:=Znn h0 n g (k :: r) (by simp at hl ⊢;omega) hg (fun k hk=>hn k (List.mem_cons_of_mem _ hk)) ht
   rw [List.map_cons (l:=g :: k :: r),List.map_cons (l:=g :: k :: r),h1.1]
   exact SV.step _ _ _ h2
  ·have h2:=Znn h0 n k r (by simp at hl ⊢;omega) hk (fun j hj=>hn j (List.mem_cons_of_mem _ (List.mem_cons_of_mem _ hj))) ht
   have h3:=(Zpx h0 hk (hn k (by simp))).1
   have h4:=opp_sg ho
   rw [List.map_cons (l:=r),List.map_cons (l:=r)]at h2
   simp only [List.map_cons]
   rw [←h3]at h2 ⊢
   rw [h4]at h2 ⊢
   rw [←h1.1]
   exact SV.skip _ _ _ _ _ h1.2 (Zz0 _) (Zz0 _) h2
structure Lnk (η x:Rat) (f g k:Rat→Rat):Prop where
 big:¬Big η x g→Big η x k
 opp:¬Big η x g→f x*k x<0
def Lnks(η x:Rat):(Rat→Rat)→List (Rat→Rat)→Prop
 | _,[]=>True
 | _,[g]=>Big η x g
 | f,g :: k :: r=>Lnk η x f g k∧Lnks η x g (k :: r)
theorem Zkp{η x:Rat} : ∀(n:Nat) (f:Rat→Rat) (fs:List (Rat→Rat)),fs.length≤n→Lnks η x f fs→Tri η x f fs
 | _,f,[],_,_=>trivial
 | 0,f,g :: r,hl,_=>absurd hl (by simp)
 | n+1,f,[g],_,h=>h
 | n+1,f,[g,k],hl,h=>by
  by_cases hg:Big η x g
  ·exact .inl ⟨hg,h.2⟩
  ·exact .inr ⟨h.1.big hg,h.1.opp hg,trivial⟩
 | n+1,f,g :: k :: j :: r,hl,h=>by
  by_cases hg:Big η x g
  ·exact .inl ⟨hg,Zkp n g (k :: j :: r) (by simp at hl ⊢;omega) h.2⟩
  ·exact .inr ⟨h.1.big hg,h.1.opp hg,Zkp n k (j :: r) (by simp at hl ⊢;omega) h.2.2⟩
def Rl3(s t:Rat)(f g k:Rat→Rat):Prop:=∃m n Q:Rat,0<m∧0<n∧0<Q∧∀x,s≤x→x≤t→∃q,-Q≤q∧q≤Q∧m*f x=q*g x-n*k x
def Rl2(s t:Rat)(f g:Rat→Rat):Prop:=∃m Q:Rat,0<m∧0<Q∧∀x,s≤x→x≤t→∃q,-Q≤q∧q≤Q∧m*f x=q*g x
def Rls(s t:Rat):(Rat→Rat)→List (Rat→Rat)→Prop
 | _,[]=>True
 | f,[g]=>Rl2 s t f g
 | f,g :: k :: r=>Rl3 s t f g k∧Rls s t g (k :: r)
theorem Zcg{q Q g e:Rat}(h1:-Q≤q)(h2:q≤Q)(h3:-e≤g)(h4:g≤e)(hQ:0≤Q):q*g≤Q*e∧-(Q*e)≤q*g:=by
 have a:=Rat.mul_nonneg (a:=Q-q) (b:=e+g) (by grind) (by grind)
 have b:=Rat.mul_nonneg (a:=Q+q) (b:=e-g) (by grind) (by grind)
 have c:=Rat.mul_nonneg (a:=Q-q) (b:=e-g) (by grind) (by grind)
 have d:=Rat.mul_nonneg (a:=Q+q) (b:=e+g) (by grind) (by grind)
 constructor<;>grind
theorem Zd9{η x:Rat}{g:Rat→Rat}(h:¬Big η x g):-η≤g x∧g x≤η:=by
 unfold Big at h;constructor<;>grind
theorem Zt8{η ε x:Rat}{g:Rat→Rat}(h:η≤ε)(hb:Big ε x g):Big η x g:=by
 unfold Big at *;grind
theorem Gn{ε a b:Rat}(h:0<ε)(ha:0<a)(hb:0<b):∃e:Rat,0<e∧e≤ε∧e*a≤b:=by
 have h1:0<b*a⁻¹:=Rat.mul_pos hb (Rat.inv_pos.2 ha)
 have h2:b*a⁻¹*a=b:=by grind
 rcases(show ε≤b*a⁻¹∨b*a⁻¹≤ε by grind)with h3 | h3
 ·exact⟨ε,h,by grind,by have:=Rat.mul_le_mul_of_nonneg_right h3 (show 0≤a by grind);grind⟩
 ·exact⟨b*a⁻¹,h1,h3,by grind⟩
theorem pair3{s t ε:Rat}{f g k:Rat→Rat}(h:Rl3 s t f g k)(he:0<ε)(hp:∀x,s≤x→x≤t→Big ε x f∨Big ε x g) :
  ∃e,0<e∧(∀x,s≤x→x≤t→Big e x g∨Big e x k)∧∀η,0<η→η≤e→∀x,s≤x→x≤t→Lnk η x f g k:=by
 obtain⟨m,n,Q,hm,hn,hQ,hr⟩:=h
 obtain⟨e,e1,e2,e3⟩:=Gn he (show 0<Q+n by grind) (Rat.mul_pos hm he)
 have key:∀η,0<η→η≤e→∀x,s≤x→x≤t→¬Big η x g→Big η x k∧f x*k x<0:=fun η h1 h2 x hs ht hg=>by
  obtain⟨q,q1,q2,q3⟩:=hr x hs ht
  obtain⟨g1,g2⟩:=Zd9 hg
  obtain⟨p1,p2⟩:=Zcg q1 q2 g1 g2 (by grind)
  have hf:Big ε x f:=(hp x hs ht).resolve_right fun h=>hg (Zt8 (by grind) h)
  have c1:η*(Q+n)≤m*ε:=by
   have:=Rat.mul_le_mul_of_nonneg_right h2 (show 0≤Q+n by grind);grind
  have c2:0<η*n:=Rat.mul_pos h1 hn
  rcases hf with hf | hf
  ·have d1:m*ε<m*f x:=by have:=Rat.mul_pos hm (show 0<f x-ε by grind);grind
   have d2:n*k x < - (n*η):=by grind
   have d3:k x < -η:=by
    rcases(show k x < -η∨-η≤k x by grind)with h9 | h9
    ·exact h9
    ·have:=Rat.mul_nonneg (a:=n) (b:=k x+η) (by grind) (by grind);grind
   refine⟨.inr d3,?_⟩
   have:=Rat.mul_pos (a:=f x) (b:=- k x) (by grind) (by grind);grind
  ·have d1:m*f x < - (m*ε):=by have:=Rat.mul_pos hm (show 0 < -ε-f x by grind);grind
   have d2:n*η<n*k x:=by grind
   have d3:η<k x:=by
    rcases(show η<k x∨k x≤η by grind)with h9 | h9
    ·exact h9
    ·have:=Rat.mul_nonneg (a:=n) (b:=η-k x) (by grind) (by grind);grind
   refine⟨.inl d3,?_⟩
   have:=Rat.mul_pos (a:=- f x) (b:=k x) (by grind) (by grind);grind
 refine⟨e,e1,fun x hs ht=>?_,fun η h1 h2 x hs ht=>⟨fun hg=>(key η h1 h2 x hs ht hg).1,fun hg=>(key η h1 h2 x hs ht hg).2⟩⟩
 by_cases hg:Big e x g
 ·exact .inl hg
 ·exact .inr (key e e1 (by grind) x hs ht hg).1
theorem pair2{s t ε:Rat}{f g:Rat→Rat}(h:Rl2 s t f g)(he:0<ε)(hp:∀x,s≤x→x≤t→Big ε x f∨Big ε x g) :
  ∃e,0<e∧∀η,0<η→η≤e→∀x,s≤x→x≤t→Big η x g:=by
 obtain⟨m,Q,hm,hQ,hr⟩:=h
 obtain⟨e,e1,e2,e3⟩:=Gn he hQ (Rat.mul_pos hm he)
 refine⟨e,e1,fun η h1 h2 x hs ht=>?_⟩
 by_cases hg:Big η x g
 ·exact hg
 ·exfalso
  obtain⟨q,q1,q2,q3⟩:=hr x hs ht
  obtain⟨g1,g2⟩:=Zd9 hg
  obtain⟨p1,p2⟩:=Zcg q1 q2 g1 g2 (by grind)
  have hf:Big ε x f:=(hp x hs ht).resolve_right fun h=>hg (Zt8 (by grind) h)
  have c1:η*Q≤m*ε:=by
   have:=Rat.mul_le_mul_of_nonneg_right h2 (show 0≤Q by grind);grind
  rcases hf with hf | hf
  ·have:=Rat.mul_pos hm (show 0<f x-ε by grind);grind
  ·have:=Rat.mul_pos hm (show 0 < -ε-f x by grind);grind
theorem Zrf{s t:Rat} : ∀(n:Nat) (f:Rat→Rat) (fs:List (Rat→Rat)) (ε:Rat),fs.length≤n→Rls s t f fs→0<ε→(∀g r,fs=g :: r→∀x,s≤x→x≤t→Big ε x f∨Big ε x g)→
  ∃e,0<e∧∀η,0<η→η≤e→∀x,s≤x→x≤t→Lnks η x f fs
 | _,f,[],ε,_,_,he,_=>⟨ε,he,fun _ _ _ _ _ _=>trivial⟩
 | 0,f,g :: r,ε,hl,_,_,_=>absurd hl (by simp)
 | n+1,f,[g],ε,_,h,he,hp=>pair2 h he (hp g [] rfl)
 | n+1,f,g :: k :: r,ε,hl,h,he,hp=>by
  obtain⟨e,e1,e2,e3⟩:=pair3 h.1 he (hp g (k :: r) rfl)
  obtain⟨e',e1',e2'⟩:=Zrf n g (k :: r) e (by simp at hl ⊢;omega) h.2 e1 (fun k' r' heq=>by
   injection heq with h1 h2;subst h1;exact e2)
  rcases(show e≤e'∨e'≤e by grind)with h9 | h9
  ·exact⟨e,e1,fun η h1 h2 x hs ht=>⟨e3 η h1 h2 x hs ht,e2' η h1 (by grind) x hs ht⟩⟩
  ·exact⟨e',e1',fun η h1 h2 x hs ht=>⟨e3 η h1 (by grind) x hs ht,e2' η h1 h2 x hs ht⟩⟩
def Lip(s t L:Rat)(f:Rat→Rat):Prop:=∀x y,s≤x→x≤y→y≤t→f x-f y≤L*(y-x)∧f y-f x≤L*(y-x)
def vat(fs:List (Rat→Rat))(x:Rat):Int:=chg (fs.map fun g=>Ev (g x))
theorem Ydm{s t L δ:Rat}{f:Rat→Rat}{fs:List (Rat→Rat)}(hL:0<L)(hl:∀g∈f :: fs,Lip s t L g)(hd:0<δ)(hb:∀x,s≤x→x≤t→Big δ x f)(hr:Rls s t f fs) :
  ∃h,0<h∧∀x y,s≤x→x≤y→y≤t→y-x≤h→vat (f :: fs) x=vat (f :: fs) y:=by
 obtain⟨e,e1,e2⟩:=Zrf fs.length f fs δ (Nat.le_refl _) hr hd (fun g r _ x hs ht=> .inl (hb x hs ht))
 obtain⟨η,n1,n2,n3⟩:=Gn hd (show(0:Rat)<1 by decide) e1
 obtain⟨h,h1,h2,h3⟩:=Gn n1 hL n1
 refine⟨h,h1,fun x y hx hxy hy hh=>SV.chg ?_⟩
 refine Znn (by grind) fs.length f fs (Nat.le_refl _) (Zt8 (by grind) (hb x hx (by grind))) (fun g hg=>?_) (Zkp _ _ _ (Nat.le_refl _) (e2 η n1 (by grind) x hx (by grind)))
 obtain⟨a,b⟩:=hl g hg x y hx hxy hy
 have:=Rat.mul_le_mul_of_nonneg_right hh (show 0≤L by grind)
 exact⟨by grind,by grind⟩
theorem Zxd{s t L δ:Rat}{f:Rat→Rat}{fs:List (Rat→Rat)}(hL:0<L)(hl:∀g∈f :: fs,Lip s t L g)(hd:0<δ)(hb:∀x,s≤x→x≤t→Big δ x f)(hr:Rls s t f fs)(hst:s≤t) :
  vat (f :: fs) s=vat (f :: fs) t:=by
 obtain⟨h,h1,h2⟩:=Ydm hL hl hd hb hr
 have key:∀n:Nat,∀y,s≤y→y≤t→y-s≤(n:Rat)*h→vat (f :: fs) s=vat (f :: fs) y:=fun n=>by
  induction n with
  | zero=>
    intro y h3 h4 h5;have:y=s:=by simp at h5;grind
    rw [this]
  | succ n ih=>
   intro y h3 h4 h5
   have h6:((n+1:Nat):Rat)*h=(n:Rat)*h+h:=by push_cast;grind
   rcases(show y-s≤(n:Rat)*h∨(n:Rat)*h<y-s by grind)with h7 | h7
   ·exact ih y h3 h4 h7
   ·have h8:(0:Rat)≤(n:Rat)*h:=Rat.mul_nonneg (by exact_mod_cast Nat.zero_le n) (by grind)
    rcases(show s≤y-h∨y-h<s by grind)with h9 | h9
    ·rw [ih (y-h) h9 (by grind) (by grind)]
     exact h2 (y-h) y h9 (by grind) h4 (by grind)
    ·exact h2 s y (by grind) h3 h4 (by grind)
 have h3:∃n:Nat,t-s≤(n:Rat)*h:=by
  have h4:0<h⁻¹:=Rat.inv_pos.2 h1
  refine⟨((t-s)*h⁻¹).ceil.toNat,?_⟩
  have h5:=@Rat.le_ceil ((t-s)*h⁻¹)
  have h6:((((t-s)*h⁻¹).ceil:Int):Rat)≤((((t-s)*h⁻¹).ceil.toNat:Nat):Rat):=by
   have:((t-s)*h⁻¹).ceil≤((((t-s)*h⁻¹).ceil.toNat:Nat):Int):=Int.self_le_toNat _
   exact_mod_cast this
  have h7:=Rat.mul_le_mul_of_nonneg_right (Rat.le_trans h5 h6) (show 0≤h by grind)
  have h8:(t-s)*h⁻¹*h=t-s:=by grind
  grind
 obtain⟨n,hn⟩:=h3
 exact key n t hst (by grind) hn
def Zw:List Int→Rat→Rat
 | [],_=>0
 | c :: p,x=>(c:Rat)+x*Zw p x
theorem Ye6(s t:Rat):∃K:Rat,0<K∧∀x,s≤x→x≤t→-K≤x∧x≤K:=by
 rcases(show(0≤s∨s<0) by grind)with h | h<;>rcases(show(0≤t∨t<0) by grind)with h' | h'
 ·exact⟨t+1,by grind,fun x _ _=>by grind⟩
 ·exact⟨1,by grind,fun x _ _=>by grind⟩
 ·exact⟨t-s+1,by grind,fun x _ _=>by grind⟩
 ·exact⟨-s+1,by grind,fun x _ _=>by grind⟩
theorem Zqq(s t:Rat):∀p:List Int,∃B:Rat,0<B∧∀x,s≤x→x≤t→-B≤Zw p x∧Zw p x≤B
 | []=>⟨1,by decide,fun x _ _=>by unfold Zw;grind⟩
 | c :: p=>by
  obtain⟨B,b1,b2⟩:=Zqq s t p
  obtain⟨K,k1,k2⟩:=Ye6 s t
  obtain⟨C,c1,c2⟩:=Ye6 (c:Rat) (c:Rat)
  have hc:=c2 (c:Rat) (by grind) (by grind)
  refine⟨C+K*B,by have:=Rat.mul_pos k1 b1;grind,fun x hs ht=>?_⟩
  obtain⟨d1,d2⟩:=b2 x hs ht
  obtain⟨e1,e2⟩:=k2 x hs ht
  obtain⟨f1,f2⟩:=Zcg e1 e2 d1 d2 (by grind)
  unfold Zw
  constructor<;>grind
theorem Bk(s t:Rat):∀p:List Int,∃L:Rat,0<L∧Lip s t L (Zw p)
 | []=>⟨1,by decide,fun x y _ _ _=>by unfold Zw;constructor<;>grind⟩
 | c :: p=>by
  obtain⟨L,l1,l2⟩:=Bk s t p
  obtain⟨B,b1,b2⟩:=Zqq s t p
  obtain⟨K,k1,k2⟩:=Ye6 s t
  refine⟨K*L+B,by have:=Rat.mul_pos k1 l1;grind,fun x y hs hxy ht=>?_⟩
  obtain⟨a1,a2⟩:=l2 x y hs hxy ht
  obtain⟨d1,d2⟩:=b2 y (by grind) ht
  obtain⟨e1,e2⟩:=k2 x hs (by grind)
  obtain⟨f1,f2⟩:=Zcg (q:=x) (g:=Zw p x-Zw p y) (e:=L*(y-x)) e1 e2 (by grind) (by grind) (by grind)
  have g1:=Rat.mul_nonneg (a:=B-Zw p y) (b:=y-x) (by grind) (by grind)
  have g2:=Rat.mul_nonneg (a:=B+Zw p y) (b:=y-x) (by grind) (by grind)
  unfold Zw
  constructor<;>grind
theorem Zj7(x:Rat):∀q:List Int,(∀i,cf q i=0)→Zw q x=0
 | [],_=>rfl
 | c :: q,h=>by
  have h0:c=0:=h 0
  have h1:=Zj7 x q fun i=>h (i+1)
  unfold Zw;rw [h1,h0];grind
theorem Kh(x:Rat):∀p q:List Int,(∀i,cf p i=cf q i)→Zw p x=Zw q x
 | [],q,h=>by rw [Zj7 x q fun i=>(h i).symm.trans (Qe (Nat.zero_le _))];rfl
 | c :: p,[],h=>by rw [Zj7 x (c :: p) fun i=>(h i).trans (Qe (Nat.zero_le _))];rfl
 | c :: p,d :: q,h=>by
  have h0:c=d:=h 0
  have h1:=Kh x p q fun i=>h (i+1)
  unfold Zw;rw [h1,h0]
def Kq:List Int→List Int→List Int
 | [],q=>q
 | p,[]=>p
 | a :: p,b :: q=>(a+b) :: Kq p q
theorem Zrp(p:List Int):Kq p []=p:=by cases p<;>rfl
theorem Pe(x:Rat):∀p q:List Int,Zw (Kq p q) x=Zw p x+Zw q x
 | [],q=>by unfold Kq;show Zw q x=0+Zw q x;grind
 | a :: p,[]=>by rw [Zrp];show Zw (a :: p) x=Zw (a :: p) x+0;grind
 | a :: p,b :: q=>by
  have h:=Pe x p q
  unfold Kq Zw;rw [h];push_cast;grind
theorem Hb:∀(p q:List Int) (i:Nat),cf (Kq p q) i=cf p i+cf q i
 | [],q,i=>by unfold Kq;rw [show cf [] i=0 from Qe (Nat.zero_le _)];omega
 | a :: p,[],i=>by rw [Zrp,show cf [] i=0 from Qe (Nat.zero_le _)];omega
 | a :: p,b :: q,0=>rfl
 | a :: p,b :: q,i+1=>Hb p q i
theorem Yq(x:Rat)(c:Int):∀p:List Int,Zw (p.map fun a=>c*a) x=(c:Rat)*Zw p x
 | []=>by show(0:Rat)=c*0;grind
 | a :: p=>by
  have h:=Yq x c p
  simp only [List.map_cons];unfold Zw;rw [h];push_cast;grind
theorem Ok(c:Int):∀(p:List Int) (i:Nat),cf (p.map fun a=>c*a) i=c*cf p i
 | [],i=>by simp [cf]
 | a :: p,0=>rfl
 | a :: p,i+1=>Ok c p i
def Nc:List Int→List Int→List Int
 | [],_=>[]
 | c :: p,q=>Kq (q.map fun a=>c*a) (0 :: Nc p q)
theorem Xn(x:Rat):∀p q:List Int,Zw (Nc p q) x=Zw p x*Zw q x
 | [],q=>by show(0:Rat)=0*Zw q x;grind
 | c :: p,q=>by
  have h:=Xn x p q
  unfold Nc;rw [Pe,Yq]
  show(c:Rat)*Zw q x+(((0:Int):Rat)+x*Zw (Nc p q) x)=((c:Rat)+x*Zw p x)*Zw q x
  rw [h];grind
theorem Df:∀(p q:List Int) (i:Nat),cf (Nc p q) i=Qr (fun k=>cf p k*cf q (i-k)) (i+1)
 | [],q,i=>by
  rw [show cf (Nc [] q) i=0 from Qe (Nat.zero_le _)]
  exact(Fp fun k _=>by rw [show cf [] k=0 from Qe (Nat.zero_le _),Int.zero_mul]).symm
 | c :: p,q,0=>by
  unfold Nc;rw [Hb,Ok,Qq,Dq]
  show c*cf q 0+0=0+c*cf q 0
  omega
 | c :: p,q,i+1=>by
  have h:=Df p q i
  unfold Nc;rw [Hb,Ok,Gj]
  show c*cf q (i+1)+cf (Nc p q) i=c*cf q (i+1)+_
  rw [h]
  congr 1
  refine Qh fun k hk=>?_
  show cf p k*cf q (i-k)=cf p k*cf q (i+1-(k+1))
  rw [show i+1-(k+1)=i-k by omega]
theorem Ce{a c:Int}{x s y z:List Int}(h:∀t,a*cf x t=(ps s*ps y).c t-c*cf z t)(q:Rat):(a:Rat)*Zw x q=Zw s q*Zw y q-(c:Rat)*Zw z q:=by
 have h1:∀t,cf (Kq (x.map fun b=>a*b) (z.map fun b=>c*b)) t=cf (Nc s y) t:=fun t=>by
  rw [Hb,Ok,Ok,Df,h t,PS.mul_c]
  show Qr (fun k=>cf s k*cf y (t-k)) (t+1)-c*cf z t+c*cf z t=_
  omega
 have h2:=Kh q _ _ h1
 rw [Pe,Yq,Yq,Xn]at h2
 grind
theorem Zxq{s t:Rat}{x y:List Int}(hx:Tr x)(hy:Tr y)(h0:y≠[])(hl:y.length≤x.length):Rl3 s t (Zw x) (Zw y) (Zw (Le x y)):=by
 have l0:=List.length_pos_iff.2 h0
 obtain⟨r1,r2,k,u,hk⟩:=Zbx hy h0 x.length x hx (by omega)
 have hs:=Zdx (f:=x.length) hx hy h0 hl (by omega)
 have htn:Tr (Zfb (Fc x.length x y)):=Oh _ _
 obtain⟨m,n,hm,hn,hp⟩:=Zfa htn
 rw [hs]at hp
 have hK:0<Fu y^k:=Int.pow_pos (Zge hy h0)
 obtain⟨B,b1,b2⟩:=Zqq s t u
 have hm':(0:Rat)<(m:Rat):=by exact_mod_cast hm
 have hn':(0:Rat)<(n:Rat):=by exact_mod_cast hn
 have hK':(0:Rat)<((Fu y^k:Int):Rat):=by exact_mod_cast hK
 refine⟨(n:Rat)*((Fu y^k:Int):Rat),(m:Rat),(n:Rat)*B,Rat.mul_pos hn' hK',hm',Rat.mul_pos hn' b1,fun q hq1 hq2=>⟨(n:Rat)*Zw u q,?_,?_,?_⟩⟩
 ·have:=Rat.mul_nonneg (a:=(n:Rat)) (b:=Zw u q+B) (by grind) (by have:=b2 q hq1 hq2;grind);grind
 ·have:=Rat.mul_nonneg (a:=(n:Rat)) (b:=B-Zw u q) (by grind) (by have:=b2 q hq1 hq2;grind);grind
 ·have e1:=Ce (a:=Fu y^k) (c:=-1) (x:=x) (s:=u) (y:=y) (z:=Fc x.length x y) (fun t=>by rw [hk t];omega) q
  have e2:Zw ((Le x y).map fun b=>m*b) q=Zw ((Fc x.length x y).map fun b=>(-n)*b) q:=Kh q _ _ fun i=>by
   rw [Ok,Ok,hp i,Ch,Int.mul_neg,Int.neg_mul]
  rw [Yq,Yq]at e2
  push_cast at e1 e2 ⊢
  grind
theorem rl2_of{s t:Rat}{f g:Rat→Rat}(h:Rl3 s t f g (Zw [])):Rl2 s t f g:=by
 obtain⟨m,n,Q,hm,hn,hQ,hr⟩:=h
 refine⟨m,Q,hm,hQ,fun x h1 h2=>?_⟩
 obtain⟨q,q1,q2,q3⟩:=hr x h1 h2
 refine⟨q,q1,q2,?_⟩
 have:Zw [] x=0:=rfl
 rw [this]at q3;grind
theorem Zmp{s t:Rat} : ∀(f:Nat) (a b:List Int),Tr a→Tr b→cok f a b→∃r,Li f a b=a :: r∧Rls s t (Zw a) (r.map Zw)∧(b=[]→r=[])∧(b≠[]→∃r',r=b :: r'):=fun f=>by
 induction f with
 | zero=>
  intro a b ha hb h
  have h0:b=[]:=h
  subst h0
  exact⟨[],rfl,trivial,fun _=>rfl,fun h=>absurd rfl h⟩
 | succ f ih=>
  intro a b ha hb h
  by_cases h0:b=[]
  ·subst h0
   exact⟨[],Dt _ _,trivial,fun _=>rfl,fun h=>absurd rfl h⟩
  ·obtain⟨g,hg,hd,hle,hc,hs⟩:=Zg6 h h0
   obtain rfl:f=g:=by omega
   obtain⟨r,h1,h2,h3,h4⟩:=ih b (Le a b) hb (Zco ha) hc
   have hR:=Zxq (s:=s) (t:=t) ha hb h0 hle
   refine⟨b :: r,by rw [hs,h1],?_,fun h=>absurd h h0,fun _=>⟨r,rfl⟩⟩
   by_cases hz:Le a b=[]
   ·rw [h3 hz]
    rw [hz]at hR
    exact rl2_of hR
   ·obtain⟨r',rfl⟩:=h4 hz
    exact⟨hR,h2⟩
theorem Zrg{s t L M:Rat}{f:Rat→Rat}(h:L≤M)(hf:Lip s t L f):Lip s t M f:=fun x y h1 h2 h3=>by
 obtain⟨a,b⟩:=hf x y h1 h2 h3
 have:=Rat.mul_le_mul_of_nonneg_right h (show 0≤y-x by grind)
 constructor<;>grind
theorem Zvw(s t:Rat):∀ls:List (List Int),∃L:Rat,0<L∧∀g∈ls.map Zw,Lip s t L g
 | []=>⟨1,by decide,fun g hg=>by cases hg⟩
 | p :: ls=>by
  obtain⟨L,l1,l2⟩:=Zvw s t ls
  obtain⟨M,m1,m2⟩:=Bk s t p
  refine⟨L+M,by grind,fun g hg=>?_⟩
  rw [List.map_cons]at hg
  rcases List.mem_cons.1 hg with rfl | hg
  ·exact Zrg (by grind) m2
  ·exact Zrg (by grind) (l2 g hg)
theorem Zf8{s t δ:Rat}{f:Nat}{a b:List Int}(ha:Tr a)(hb:Tr b)(hc:cok f a b)(hst:s≤t)(hd:0<δ)(hB:∀x,s≤x→x≤t→Big δ x (Zw a)) :
  vat ((Li f a b).map Zw) s=vat ((Li f a b).map Zw) t:=by
 obtain⟨r,h1,h2,_,_⟩:=Zmp (s:=s) (t:=t) f a b ha hb hc
 obtain⟨L,l1,l2⟩:=Zvw s t (Li f a b)
 rw [h1]at l2 ⊢
 exact Zxd l1 l2 hd hB h2 hst
def alt:List Int→List Int
 | []=>[]
 | c :: p=>c :: (alt p).map fun a=>-1*a
theorem Yax(c:Int)(p:List Int)(X Y:Int)(h:p≠[]):pev (c :: p) X Y=c*Y^p.length+X*pev p X Y:=by
 have hl:=List.length_pos_iff.2 h
 unfold pev
 rw [List.length_cons,Gj,←Mq]
 congr 1
 ·show c*(X^0*Y^(p.length+1-1-0))=_
  rw [Int.pow_zero,Int.one_mul,show p.length+1-1-0=p.length by omega]
 ·refine Qh fun i hi=>?_
  show cf p i*(X^(i+1)*Y^(p.length+1-1-(i+1)))=X*(cf p i*(X^i*Y^(p.length-1-i)))
  rw [show p.length+1-1-(i+1)=p.length-1-i by omega,Int.pow_succ]
  grind
theorem Zvk{X Y:Int}(hY:0<Y):∀p:List Int,((pev p X Y:Int):Rat)=Zw p ((X:Rat)/(Y:Rat))*(Y:Rat)^(p.length-1)
 | []=>by show(0:Rat)=0*_;grind
 | [c]=>by
  have:pev [c] X Y=c:=by unfold pev;show 0+c*(X^0*Y^0)=c;rw [Int.pow_zero,Int.pow_zero];omega
  rw [this];show(c:Rat)=(c+X/Y*0)*(Y:Rat)^0;rw [Rat.pow_zero];grind
 | c :: d :: p=>by
  have h:=Zvk (X:=X) hY (d :: p)
  rw [Yax c (d :: p) X Y (by simp)]
  have hy:(Y:Rat)≠0:=by
    have:(0:Rat)<(Y:Rat):=by exact_mod_cast hY
    grind
  push_cast
  rw [h]
  show(c:Rat)*(Y:Rat)^(p.length+1)+X*(Zw (d :: p) (X/Y)*(Y:Rat)^(p.length+1-1))=((c:Rat)+X/Y*Zw (d :: p) (X/Y))*(Y:Rat)^(p.length+1+1-1)
  rw [show p.length+1-1=p.length by omega,show p.length+1+1-1=p.length+1 by omega,Rat.pow_succ]
  generalize Zw (d :: p) (X/Y)=R
  generalize (Y:Rat)^p.length=P
  have:(X:Rat)/Y*Y=X:=by grind
  grind
theorem Zzo{z:Int}{r q:Rat}(hq:0<q)(h:(z:Rat)=r*q):z.sign=Ev r:=by
 rcases(show r<0∨r=0∨0<r by grind)with h1 | h1 | h1
 ·rw [Av h1]
  have:=Rat.mul_pos (a:=-r) (b:=q) (by grind) hq
  have h2:(z:Rat)<0:=by grind
  have h3:z<0:=by exact_mod_cast h2
  exact Int.sign_eq_neg_one_of_neg h3
 ·subst h1
  have h2:(z:Rat)=0:=by grind
  have h3:z=0:=by exact_mod_cast h2
  subst h3;rfl
 ·rw [Au h1]
  have:=Rat.mul_pos h1 hq
  have h2:(0:Rat)<z:=by grind
  have h3:0<z:=by exact_mod_cast h2
  exact Int.sign_eq_one_of_pos h3
theorem Zeg{X Y:Int}(hY:0<Y)(p:List Int):fat X Y p=Ev (Zw p ((X:Rat)/(Y:Rat))):=by
 have:(0:Rat)<(Y:Rat):=by exact_mod_cast hY
 exact Zzo (Rat.pow_pos this) (Zvk hY p)
theorem Yd3{xs:List Int}{F:Nat}(hx:Tr xs)(h0:xs≠[])(hok:eok F (gA (Qj xs) (Qi (Qj xs))) (gB (Qj xs) (Qi (Qj xs)))):∃g:List Int,∀x,Zw xs x=Zw (sqf F xs) x*Zw g x:=by
 obtain⟨f1,f2,f3,f4,f5,f6⟩:=Mi (F:=F) hx h0 hok
 have hk:∃k:Int,∀i,cf xs i=k*cf (Qj xs) i:=by
  unfold Qj Kn
  split
  ·refine⟨-Ql xs,fun i=>?_⟩
   rw [Qo,←Eh xs i];grind
  ·refine⟨Ql xs,fun i=>?_⟩
   rw [←Eh xs i];grind
 obtain⟨k,hk⟩:=hk
 refine⟨(Ms F (Qj xs) (Qi (Qj xs))).map fun a=>k*a,fun x=>?_⟩
 have h1:Zw (Qj xs) x=Zw (sqf F xs) x*Zw (Ms F (Qj xs) (Qi (Qj xs))) x:=by
  have:=Ce (a:=1) (c:=0) (x:=Qj xs) (s:=sqf F xs) (y:=Ms F (Qj xs) (Qi (Qj xs))) (z:=[]) (fun t=>by
   have h2:=Gx (sqf F xs) (Ms F (Qj xs) (Qi (Qj xs))) t
   rw [←f4]at h2
   rw [h2];omega) x
  push_cast at this
  grind
 have h2:Zw xs x=Zw ((Qj xs).map fun a=>k*a) x:=Kh x _ _ fun i=>by rw [Ok];exact hk i
 rw [h2,Yq,Yq,h1];grind
theorem Ydb{ls:List (List Int)}{x:Rat}{f:List Int→Int}(h:∀p∈ls,Ev (Zw p x)=f p):vat (ls.map Zw) x=chg (ls.map f):=by
 unfold vat
 rw [List.map_map]
 exact congrArg chg (List.map_congr_left fun p hp=>h p hp)
theorem Yfp{F:Nat}{xs:List Int}{X Y:Int}(hY:0<Y):cnt F xs X Y=vat ((chn F xs).map Zw) ((X:Rat)/(Y:Rat)):=
 (Ydb fun p _=>(Zeg hY p).symm).symm
theorem Zv3(t:Int):∀p:List Int,Zw p (t:Rat)=((Ap p t:Int):Rat)
 | []=>rfl
 | c :: p=>by
  have h:=Zv3 t p
  rw [show Zw (c :: p) (t:Rat)=(c:Rat)+(t:Rat)*Zw p (t:Rat)from rfl,show Ap (c :: p) t=c+t*Ap p t from rfl,h];push_cast;rfl
theorem Zu6{p:List Int}(h:∀x:Rat,Zw p x=0)(i:Nat):cf p i=0:=by
 by_cases h0:cf p i=0
 ·exact h0
 ·exfalso
  have:=Zj5 p.length p ((List.range p.length).map fun n:Nat=>(n:Int)) rfl ⟨i,h0⟩ (by
   refine List.Pairwise.map _ (fun a b hab=>?_) List.nodup_range
   intro e;exact hab (by exact_mod_cast e)) (fun t ht=>by
   have h1:=Zv3 t p
   rw [h]at h1
   exact_mod_cast h1.symm)
  simp at this
theorem Lr{p q:List Int}(h:∀x:Rat,Zw p x=Zw q x)(i:Nat):cf p i=cf q i:=by
 have h1:=Zu6 (p:=Kq p (q.map fun a=>(-1)*a)) (fun x=>by rw [Pe,Yq,h x];push_cast;grind) i
 rw [Hb,Ok]at h1;omega
theorem Kl(p:List Int)(x:Rat):Zw (tzl p) x=Zw p x:=Kh x _ _ fun i=>Km p i
theorem Xy(p q:List Int)(x:Rat):Zw (Ou p q) x=Zw p x*Zw q x:=by
 rw [←Xn];exact Kh x _ _ fun i=>by rw [Gx,Df,PS.mul_c];rfl
theorem Nu(c:Int)(x:Rat):Zw [c] x=(c:Rat):=by show(c:Rat)+x*0=c;grind
def ld:List Int→List Int
 | []=>[]
 | _ :: p=>Kq p (0 :: ld p)
theorem Zgc(c:Int)(p:List Int)(x:Rat):Zw (ld (c :: p)) x=Zw p x+x*Zw (ld p) x:=by
 rw [show ld (c :: p)=Kq p (0 :: ld p)from rfl,Pe];show Zw p x+(((0:Int):Rat)+x*Zw (ld p) x)=_;push_cast;grind
theorem Zg9:∀(p:List Int) (i:Nat),cf (ld p) i=cf p (i+1)*((i:Int)+1)
 | [],i=>by rw [Zca,show ld []=[]from rfl,Zca,Int.zero_mul]
 | c :: p,0=>by
  rw [show ld (c :: p)=Kq p (0 :: ld p)from rfl,Hb];show cf p 0+0=cf p 0*_;simp
 | c :: p,i+1=>by
  have h:=Zg9 p i
  rw [show ld (c :: p)=Kq p (0 :: ld p)from rfl,Hb];show cf p (i+1)+cf (ld p) i=cf p (i+1)*_
  rw [h];push_cast;grind
theorem Ha(p:List Int)(x:Rat):Zw (Qi p) x=Zw (ld p) x:=Kh x _ _ fun i=>by rw [Zg8,Zg9]
theorem Co{p q:List Int}(h:∀x,Zw p x=Zw q x)(x:Rat):Zw (ld p) x=Zw (ld q) x:=Kh x _ _ fun i=>by rw [Zg9,Zg9,Lr h]
theorem Yd8(p q:List Int)(x:Rat):Zw (ld (Kq p q)) x=Zw (ld p) x+Zw (ld q) x:=by
 rw [←Pe];exact Kh x _ _ fun i=>by rw [Zg9,Hb,Hb,Zg9,Zg9];grind
theorem Ax(c:Int)(p:List Int)(x:Rat):Zw (ld (p.map fun a=>c*a)) x=(c:Rat)*Zw (ld p) x:=by
 rw [←Yq];exact Kh x _ _ fun i=>by rw [Zg9,Ok,Ok,Zg9];grind
theorem Bl(x:Rat):∀p q:List Int,Zw (ld (Nc p q)) x=Zw (ld p) x*Zw q x+Zw p x*Zw (ld q) x
 | [],q=>by show(0:Rat)=0*Zw q x+0*Zw (ld q) x;grind
 | c :: p,q=>by
  have h:=Bl x p q
  rw [show Nc (c :: p) q=Kq (q.map fun a=>c*a) (0 :: Nc p q)from rfl,Yd8,Ax,Zgc,Zgc,h,Xn,show Zw (c :: p) x=(c:Rat)+x*Zw p x from rfl]
  grind
def Ed(g a:List Int):Prop:=∃(k:Int) (s:List Int),k≠0∧∀x:Rat,(k:Rat)*Zw a x=Zw s x*Zw g x
theorem Ed.refl(a:List Int):Ed a a:=⟨1,[1],by decide,fun x=>by rw [Nu]⟩
theorem Ed.nil(g:List Int):Ed g []:=⟨1,[],by decide,fun x=>by show(((1:Int)):Rat)*0=0*Zw g x;grind⟩
theorem Ed.trans{a b c:List Int} : Ed a b→Ed b c→Ed a c:=fun⟨k,s,hk,h⟩ ⟨m,u,hm,e⟩=>
 ⟨k*m,Nc u s,Int.mul_ne_zero hk hm,fun x=>by
  have h1:=h x
  have h2:=e x
  rw [Xn];push_cast
  have:(k:Rat)*m*Zw c x=k*(m*Zw c x):=by grind
  rw [this,h2];grind⟩
theorem Ed.congr{g a b:List Int}(h:Ed g a)(e:∀x,Zw a x=Zw b x):Ed g b:=by
 obtain⟨k,s,hk,h⟩:=h
 exact⟨k,s,hk,fun x=>by rw [←e x];exact h x⟩
theorem Ed.congr_l{g g' a:List Int}(h:Ed g a)(e:∀x,Zw g x=Zw g' x):Ed g' a:=by
 obtain⟨k,s,hk,h⟩:=h
 exact⟨k,s,hk,fun x=>by rw [←e x];exact h x⟩
theorem Ed.sim{g a b:List Int}(h:Ed g a)(e:Sim a b):Ed g b:=by
 obtain⟨k,s,hk,h⟩:=h
 obtain⟨m,n,hm,hn,e⟩:=e
 refine⟨k*n,s.map fun c=>m*c,Int.mul_ne_zero hk hn,fun x=>?_⟩
 have h1:Zw (a.map fun c=>m*c) x=Zw (b.map fun c=>n*c) x:=Kh x _ _ fun i=>by rw [Ok,Ok,e]
 rw [Yq,Yq]at h1
 rw [Yq]
 have:=h x
 push_cast
 have e2:(k:Rat)*n*Zw b x=k*(n*Zw b x):=by grind
 rw [e2,←h1];grind
theorem Ed.lin{g a b c:List Int}(ha:Ed g a)(hb:Ed g b)(s:List Int)(L:Int)(hL:L≠0)(h:∀x,(L:Rat)*Zw c x=Zw s x*Zw a x+Zw b x):Ed g c:=by
 obtain⟨k,u,hk,h1⟩:=ha
 obtain⟨m,v,hm,h2⟩:=hb
 refine⟨L*(k*m),Kq ((Nc s u).map fun c=>m*c) (v.map fun c=>k*c),Int.mul_ne_zero hL (Int.mul_ne_zero hk hm),fun x=>?_⟩
 have h1:=h1 x
 have h2:=h2 x
 have h:=h x
 rw [Pe,Yq,Yq,Xn]
 push_cast
 have e:(L:Rat)*(k*m)*Zw c x=k*m*(L*Zw c x):=by grind
 rw [e,h]
 have e2:(k:Rat)*m*(Zw s x*Zw a x+Zw b x)=m*Zw s x*(k*Zw a x)+k*(m*Zw b x):=by grind
 rw [e2,h1,h2];grind
theorem Ztw{g a s:List Int}{k:Int}(hk:k≠0)(hg:Tr g)(ha:Tr a)(h0:a≠[])(h:∀x:Rat,(k:Rat)*Zw a x=Zw s x*Zw g x):g≠[]∧tzl s≠[]∧(tzl s).length+g.length≤a.length+1:=by
 have hc:∀i,k*cf a i=(ps (tzl s)*ps g).c i:=fun i=>by
  have h1:=Lr (p:=a.map fun c=>k*c) (q:=Nc (tzl s) g) (fun x=>by rw [Yq,Xn,Kl];exact h x) i
  rw [Ok,Df]at h1
  rw [h1,PS.mul_c];rfl
 have hz:∀i,k*cf a i=0→cf a i=0:=fun i hi=>(Int.mul_eq_zero.1 hi).resolve_left hk
 have hla:=ha.mem h0
 have h1:tzl s≠[]:=fun e=>hla (hz _ (by rw [hc,e,Kv (fun t=>Qe (Nat.zero_le _))]))
 have h2:g≠[]:=fun e=>hla (hz _ (by rw [hc,e,PS.mul_comm',Kv (fun t=>Qe (Nat.zero_le _))]))
 refine⟨h2,h1,?_⟩
 have l1:=List.length_pos_iff.2 h1
 have l2:=List.length_pos_iff.2 h2
 have ht:=Am (p:=tzl s) (q:=g) (a:=(tzl s).length-1) (b:=g.length-1) (fun i hi=>Qe (by omega)) (fun i hi=>Qe (by omega))
 rw [←hc]at ht
 have hne:=Int.mul_ne_zero ((Nr s).mem h1) (hg.mem h2)
 rcases Nat.lt_or_ge ((tzl s).length-1+(g.length-1)) a.length with h9 | h9
 ·omega
 ·rw [Qe h9,Int.mul_zero]at ht;exact absurd ht.symm hne
theorem Ed.len{g a:List Int}(h:Ed g a)(hg:Tr g)(ha:Tr a)(h0:a≠[]):g≠[]∧g.length≤a.length:=by
 obtain⟨k,s,hk,h⟩:=h
 obtain⟨a1,a2,a3⟩:=Ztw hk hg ha h0 h
 have:=List.length_pos_iff.2 a2
 exact⟨a1,by omega⟩
theorem Ed.same{g a:List Int}(h:Ed g a)(hg:Tr g)(ha:Tr a)(h0:a≠[])(hl:g.length=a.length):Ed a g:=by
 obtain⟨k,s,hk,h⟩:=h
 obtain⟨a1,a2,a3⟩:=Ztw hk hg ha h0 h
 have hl1:=List.length_pos_iff.2 a2
 match hs:tzl s,hl1,a3 with
 | [c],_,_=>
  have hc:c≠0:=by have:=(Nr s).mem a2;rw [hs]at this;exact this
  refine⟨c,[k],hc,fun x=>?_⟩
  have h1:=h x
  rw [←Kl s,hs,Nu]at h1
  rw [Nu];exact h1.symm
 | c :: d :: r,_,h9=>simp at h9;omega
theorem Zlj:∀(n:Nat) (a b:List Int),Tr a→Tr b→b.length≤n→∃g A B:List Int,Tr g∧Ed g a∧Ed g b∧∀x,Zw g x=Zw A x*Zw a x+Zw B x*Zw b x
 | n,a,[],ha,hb,_=>⟨a,[1],[],ha,Ed.refl a,Ed.nil a,fun x=>by rw [Nu];show _=_+0*(0:Rat);push_cast;grind⟩
 | 0,a,c :: r,_,_,hl=>absurd hl (by simp)
 | n+1,a,c :: b',ha,hb,hl=>by
  have h0:(c :: b')≠[]:=by simp
  generalize c :: b'=b at *
  obtain⟨k,s,hs⟩:=Cq a h0
  have hL:=La (hb.mem h0) k
  generalize cf b (b.length-1)^k=L at hs hL
  have hlt:=Ov a h0
  obtain⟨g,A,B,g1,g2,g3,g4⟩:=Zlj n b (Pr a b) hb (Il ha) (by omega)
  have he:∀x,(L:Rat)*Zw a x=Zw s x*Zw b x+Zw (Pr a b) x:=fun x=>by
   have:=Ce (a:=L) (c:=-1) (x:=a) (s:=s) (y:=b) (z:=Pr a b) (fun t=>by rw [hs t];omega) x
   push_cast at this;grind
  refine⟨g,B.map fun c=>L*c,Kq A ((Nc B s).map fun c=>(-1)*c),g1,g2.lin g3 s L hL he,g2,fun x=>?_⟩
  rw [Yq,Pe,Yq,Xn,g4 x]
  have:=he x
  have e:Zw (Pr a b) x=L*Zw a x-Zw s x*Zw b x:=by grind
  rw [e];push_cast;grind
def Irr(q:List Int):Prop:=Tr q∧2≤q.length∧∀d,Tr d→Ed d q→d.length≤1∨d.length=q.length
theorem Zea{q:List Int}(h:2≤q.length):q≠[]:=fun e=>by rw [e]at h;simp at h
theorem Yby:∀(n:Nat) (q:List Int),q.length≤n→Tr q→2≤q.length→∃p,Irr p∧Ed p q
 | 0,q,hl,_,h2=>by omega
 | n+1,q,hl,ht,h2=>by
  by_cases h:Irr q
  ·exact⟨q,h,Ed.refl q⟩
  ·have:∃d,Tr d∧Ed d q∧¬(d.length≤1∨d.length=q.length):=by
    refine Classical.byContradiction fun h9=>h ⟨ht,h2,fun d hd he=>Classical.byContradiction fun h8=>h9 ⟨d,hd,he,h8⟩⟩
   obtain⟨d,hd,he,hn⟩:=this
   have hle:=(he.len hd ht (Zea h2)).2
   obtain⟨p,hp,hp2⟩:=Yby n d (by omega) hd (by omega)
   exact⟨p,hp,hp2.trans he⟩
theorem Zbb{q f h m:List Int}{k:Int}(hq:Irr q)(hk:k≠0)(e:∀x:Rat,(k:Rat)*(Zw f x*Zw h x)=Zw m x*Zw q x):Ed q f∨Ed q h:=by
 obtain⟨hq1,hq2,hq3⟩:=hq
 obtain⟨g,A,B,g1,g2,g3,g4⟩:=Zlj _ q (tzl f) hq1 (Nr f) (Nat.le_refl _)
 have hg:=(g2.len g1 hq1 (Zea hq2)).1
 rcases hq3 g g1 g2 with h1 | h1
 ·right
  match g,hg,h1,g1,g4 with
  | [c],_,_,g1,g4=>
   have hc:c≠0:=g1.mem (by simp)
   refine⟨c*k,Kq ((Nc A h).map fun c=>k*c) (Nc B m),Int.mul_ne_zero hc hk,fun x=>?_⟩
   have h4:=g4 x
   have h5:=e x
   rw [Nu,Kl]at h4
   rw [Pe,Yq,Xn,Xn]
   push_cast
   rw [h4]
   have:(Zw A x*Zw q x+Zw B x*Zw f x)*k*Zw h x=k*Zw A x*Zw q x*Zw h x+Zw B x*(k*(Zw f x*Zw h x)):=by grind
   rw [this,h5];grind
  | c :: d :: r,_,h9,_,_=>simp at h9
 ·left
  have h2:=g2.same g1 hq1 (Zea hq2) h1
  exact(h2.trans g3).congr fun x=>Kl f x
def Fv(q:List Int):Nat→List Int
 | 0=>[1]
 | n+1=>Ou q (Fv q n)
theorem Za2{q:List Int}(hq:Tr q)(h2:2≤q.length):∀n,Tr (Fv q n)∧n+1≤(Fv q n).length
 | 0=>⟨.inr (show cf [1] 0≠0 by decide),Nat.le_refl _⟩
 | n+1=>by
  obtain⟨h1,h3⟩:=Za2 hq h2 n
  refine⟨Om _ _,?_⟩
  show n+1+1≤(Ou q (Fv q n)).length
  rw [Nz hq h1 (Zea h2) (fun e=>by rw [e]at h3;simp at h3)]
  omega
theorem Ew(q:List Int)(n:Nat)(x:Rat):Zw (Fv q (n+1)) x=Zw q x*Zw (Fv q n) x:=Xy _ _ _
theorem Zn8(q:List Int):∀(n:Nat) (x:Rat),Zw (ld (Fv q (n+1))) x=((n:Rat)+1)*(Zw (Fv q n) x*Zw (ld q) x)
 | n,x=>by
  have h1:Zw (ld (Fv q (n+1))) x=Zw (ld (Nc q (Fv q n))) x:=Co (fun y=>by rw [Ew,Xn]) x
  rw [h1,Bl]
  match n with
  | 0=>
   rw [show Zw (ld (Fv q 0)) x=0 from by rw [show Fv q 0=[1]from rfl,Zgc];show(0:Rat)+x*0=0;grind]
   simp;grind
  | n+1=>
   rw [Zn8 q n x,Ew];push_cast;grind
theorem Zzk{p s g q u:List Int}{c:Int}{k:Nat}(hps:∀x:Rat,Zw p x=Zw s x*Zw g x)(hgr:∀d,Tr d→Ed d p→Ed d (ld p)→Ed d g)(hq:Irr q)(h1:Ed q s)(h2:Ed q (ld s))(hk:Ed (Fv q k) g):Ed (Fv q (k+1)) g:=by
 obtain⟨hq1,hq2,hq3⟩:=hq
 obtain⟨c1,s1,k1,e1⟩:=h1
 obtain⟨c2,s2,k2,e2⟩:=h2
 have d1:∀x:Rat,(c1:Rat)*Zw (ld s) x=Zw (ld s1) x*Zw q x+Zw s1 x*Zw (ld q) x:=fun x=>by
  have:=Co (p:=s.map fun a=>c1*a) (q:=Nc s1 q) (fun y=>by rw [Yq,Xn];exact e1 y) x
  rwa [Ax,Bl]at this
 have h3:Ed q s1:=by
  rcases Zbb (f:=s1) (h:=ld q) (m:=Kq (s2.map fun a=>c1*a) ((ld s1).map fun a=>(-c2)*a)) ⟨hq1,hq2,hq3⟩ k2 (fun x=>by
   have a1:=d1 x
   have a2:=e2 x
   rw [Pe,Yq,Yq];push_cast
   have:(c2:Rat)*(Zw s1 x*Zw (ld q) x)=c1*(c2*Zw (ld s) x)-c2*(Zw (ld s1) x*Zw q x):=by grind
   rw [this,a2];grind)with h9 | h9
  ·exact h9
  ·exfalso
   have h8:Ed q (Qi q):=h9.congr fun x=>(Ha q x).symm
   have hl:=Nv q
   have:=(h8.len hq1 (Mz hq1) (fun e=>by rw [e]at hl;simp at hl;omega)).2
   omega
 obtain⟨c3,s3,k3,e3⟩:=h3
 obtain⟨c,u,kc,eu⟩:=hk
 have hP:∀x:Rat,((c1*c3*c:Int):Rat)*Zw p x=Zw (Nc s3 u) x*Zw (Fv q (k+1+1)) x:=fun x=>by
  rw [hps x,Xn,Ew,Ew];push_cast
  have a1:=e1 x
  have a3:=e3 x
  have a4:=eu x
  have:(c1:Rat)*c3*c*(Zw s x*Zw g x)=c3*(c1*Zw s x)*(c*Zw g x):=by grind
  rw [this,a1,a4]
  have:(c3:Rat)*(Zw s1 x*Zw q x)*(Zw u x*Zw (Fv q k) x)=(c3*Zw s1 x)*Zw q x*(Zw u x*Zw (Fv q k) x):=by grind
  rw [this,a3];grind
 have hC:c1*c3*c≠0:=Int.mul_ne_zero (Int.mul_ne_zero k1 k3) kc
 generalize c1*c3*c=C at hP hC
 have hD:∀x:Rat,(C:Rat)*Zw (ld p) x=Zw (ld (Nc s3 u)) x*Zw (Fv q (k+1+1)) x+Zw (Nc s3 u) x*((((k+1:Nat):Rat)+1)*(Zw (Fv q (k+1)) x*Zw (ld q) x)):=fun x=>by
  have:=Co (p:=p.map fun a=>C*a) (q:=Nc (Nc s3 u) (Fv q (k+1+1))) (fun y=>by rw [Yq,Xn];exact hP y) x
  rwa [Ax,Bl,Zn8]at this
 refine hgr _ (Za2 hq1 hq2 _).1 ⟨C,Nc (Nc s3 u) q,hC,fun x=>?_⟩ ⟨C,Kq (Nc (ld (Nc s3 u)) q) ((Nc (Nc s3 u) (ld q)).map fun a=>((k+2:Nat):Int)*a),hC,fun x=>?_⟩
 ·rw [hP x,Xn _ (Nc s3 u),Ew q (k+1)];grind
 ·rw [hD x,Pe,Yq,Xn _ (ld (Nc s3 u)),Xn _ (Nc s3 u),Ew q (k+1)];push_cast;grind
theorem Zzm{p s g q:List Int}(hps:∀x:Rat,Zw p x=Zw s x*Zw g x)(hg:Tr g)(g0:g≠[])(hgr:∀d,Tr d→Ed d p→Ed d (ld p)→Ed d g)(hq:Tr q)(h1:Ed q s)(h2:Ed q (ld s)):q.length≤1:=by
 refine Classical.byContradiction fun h=>?_
 obtain⟨r,hr,hr2⟩:=Yby _ q (Nat.le_refl _) hq (by omega)
 have key:∀k,Ed (Fv r k) g:=fun k=>by
  induction k with
  | zero=>exact⟨1,g,by decide,fun x=>by rw [show Fv r 0=[1]from rfl,Nu];push_cast;grind⟩
  | succ k ih=>exact Zzk (u:=[]) (c:=0) hps hgr hr (hr2.trans h1) (hr2.trans h2) ih
 obtain⟨a1,a2⟩:=Za2 hr.1 hr.2.1 g.length
 have:=((key g.length).len a1 hg g0).2
 omega
theorem Ye9{d a b:List Int}(hb:Tr b)(h0:b≠[])(h1:Ed d a)(h2:Ed d b):Ed d (Pr a b):=by
  obtain⟨k,s,hs⟩:=Cq a h0
  have hL:=La (hb.mem h0) k
  generalize cf b (b.length-1)^k=L at hs hL
  have he:∀x,(L:Rat)*Zw a x=Zw s x*Zw b x+Zw (Pr a b) x:=fun x=>by
    have:=Ce (a:=L) (c:=-1) (x:=a) (s:=s) (y:=b) (z:=Pr a b) (fun t=>by rw [hs t];omega) x
    push_cast at this;grind
  have h3:Ed d (a.map fun c=>L*c):=by
    obtain⟨k,u,hk,e⟩:=h1
    exact⟨k,u.map fun c=>L*c,hk,fun x=>by rw [Yq,Yq];have:=e x;grind⟩
  exact h2.lin h3 (s.map fun c=>(-1)*c) 1 (by decide) fun x=>by
    rw [Yq,Yq];push_cast;have:=he x;grind
theorem Zrx{d:List Int} : ∀(f:Nat) {a b:List Int},Tr a→Tr b→Ed d a→Ed d b→Ed d (eu f a b)
  | 0,a,b,_,_,h1,_=>h1
  | f+1,a,b,ha,hb,h1,h2=>by
    by_cases h0:b=[]
    · rw [h0,Dz];exact h1
    · rw [show eu (f + 1) a b = eu f b (Xf (Pr a b)) by
          conv=>lhs;unfold eu
          rw [if_neg h0]]
      have t1:=Il (q:=b) ha
      exact Zrx f hb (Qf t1) h2 ((Ye9 hb h0 h1 h2).sim (Py t1).symm)
theorem Zke{F:Nat}{d p q:List Int}(hp:Tr p)(hq:Tr q)(h1:Ed d p)(h2:Ed d q):Ed d (Ms F p q):=by
  have a1:=h1.sim (Py hp).symm
  have a2:=h2.sim (Py hq).symm
  unfold Ms
  refine Ed.sim ?_ (Hy _).symm
  refine Zrx F (Zh2 hp hq) (Zh1 hp hq) ?_ ?_
  · unfold gA;split<;>assumption
  · unfold gB;split<;>assumption
theorem Zf2{xs:List Int}{F:Nat}(hx:Tr xs)(h0:xs≠[])(hok:eok F (gA (Qj xs) (Qi (Qj xs))) (gB (Qj xs) (Qi (Qj xs)))){q:List Int}(hq:Tr q)(h1:Ed q (sqf F xs))(h2:Ed q (Qi (sqf F xs))):q.length≤1:=by
  obtain⟨f1,f2,f3,f4,f5,f6⟩:=Mi (F:=F) hx h0 hok
  have hs:Tr (Qj xs):=Mp (Qf hx)
  have hd:Tr (Qi (Qj xs)):=Mz hs
  refine Zzm (p:=Qj xs) (s:=sqf F xs) (g:=Ms F (Qj xs) (Qi (Qj xs))) (fun x=>?_) (Zdt hs hd) f5 (fun d _ a b=>?_) hq h1 (h2.congr fun x=>Ha _ x)
  · have:Zw (Qj xs) x=Zw (Ou (sqf F xs) (Ms F (Qj xs) (Qi (Qj xs)))) x:=by rw [←f4]
    rw [this,Xy]
  · exact Zke hs hd a (b.congr fun x=>(Ha _ x).symm)
theorem Zbg:∀(l:List Int) (n z:Int),(l.foldl Mu (n,z)).1=n+(l.foldl Mu (0,z)).1
 | [],n,z=>by simp
 | x :: l,n,z=>by
  simp only [List.foldl_cons]
  by_cases h:x=0
  ·have e:∀n,Mu (n,z) x=(n,z):=fun n=>by unfold Mu;rw [if_pos h]
   rw [e,e];exact Zbg l n z
  ·by_cases h2:x=-z
   ·have e:∀n,Mu (n,z) x=(n+1,x):=fun n=>by unfold Mu;rw [if_neg h,if_pos (by dsimp only;exact h2)]
    rw [e,e,Zbg l (n+1) x,Zbg l (0+1) x];omega
   ·have e:∀n,Mu (n,z) x=(n,x):=fun n=>by unfold Mu;rw [if_neg h,if_neg (by dsimp only;exact h2)]
    rw [e,e];exact Zbg l n x
theorem Yfz{x y:Int}(l:List Int)(hy:y≠0):chg (x :: y :: l)=chg (y :: l)+(if x=-y then 1 else 0):=by
 unfold chg
 simp only [List.foldl_cons]
 have h1:Mu (0,0) y=(0,y):=by unfold Mu;rw [if_neg hy,if_neg (by dsimp only;omega)]
 rw [h1]
 by_cases hx:x=0
 ·have h2:Mu (0,0) x=(0,0):=by unfold Mu;rw [if_pos hx]
  rw [h2,h1,if_neg (by omega)];omega
 ·have h2:Mu (0,0) x=(0,x):=by unfold Mu;rw [if_neg hx,if_neg (by dsimp only;omega)]
  rw [h2]
  have h3:Mu (0,x) y=(if x=-y then 1 else 0,y):=by
   unfold Mu;rw [if_neg hy]
   by_cases h:x=-y
   ·rw [if_pos (by dsimp only;omega),if_pos h];rfl
   ·rw [if_neg (by dsimp only;omega),if_neg h]
  rw [h3,Zbg];omega
def crs(f:Rat→Rat)(u v:Rat):Int:=if f u≠0∧f u*f v≤0 then 1 else 0
theorem Ziy(s t:Rat):∀p:List Int,∃M:Rat,0<M∧∀x y,s≤x→x≤y→y≤t→
  -(M*(y-x)*(y-x))≤Zw p y-Zw p x-(y-x)*Zw (ld p) x∧Zw p y-Zw p x-(y-x)*Zw (ld p) x≤M*(y-x)*(y-x)
 | []=>⟨1,by decide,fun x y h1 h2 h3=>by
   have:=Rat.mul_nonneg (a:=y-x) (b:=y-x) (by grind) (by grind)
   show -(1*(y-x)*(y-x))≤(0:Rat)-0-(y-x)*0∧(0:Rat)-0-(y-x)*0≤1*(y-x)*(y-x)
   constructor<;>grind⟩
 | c :: p=>by
  obtain⟨M,m1,m2⟩:=Ziy s t p
  obtain⟨L,l1,l2⟩:=Bk s t p
  obtain⟨K,k1,k2⟩:=Ye6 s t
  refine⟨L+K*M,by have:=Rat.mul_pos k1 m1;grind,fun x y hs hxy ht=>?_⟩
  obtain⟨a1,a2⟩:=m2 x y hs hxy ht
  obtain⟨b1,b2⟩:=l2 x y hs hxy ht
  obtain⟨e1,e2⟩:=k2 x hs (by grind)
  have hd:0≤y-x:=by grind
  obtain⟨f1,f2⟩:=Zcg (q:=x) (Q:=K) (g:=Zw p y-Zw p x-(y-x)*Zw (ld p) x) (e:=M*(y-x)*(y-x)) e1 e2 a1 a2 (by grind)
  have g1:=Rat.mul_nonneg (a:=y-x) (b:=L*(y-x)-(Zw p y-Zw p x)) hd (by grind)
  have g2:=Rat.mul_nonneg (a:=y-x) (b:=L*(y-x)+(Zw p y-Zw p x)) hd (by grind)
  rw [Zgc,show Zw (c :: p) y=(c:Rat)+y*Zw p y from rfl,show Zw (c :: p) x=(c:Rat)+x*Zw p x from rfl]
  constructor<;>grind
theorem Zwj{a b:List Int}(ha:Tr a)(hb:Tr b)(h0:a≠[])(hc:∀q,Tr q→Ed q a→Ed q b→q.length≤1)(s t:Rat):∃ε:Rat,0<ε∧∀x,s≤x→x≤t→Big ε x (Zw a)∨Big ε x (Zw b):=by
 obtain⟨g,A,B,g1,g2,g3,g4⟩:=Zlj _ a b ha hb (Nat.le_refl _)
 have hl:=hc g g1 g2 g3
 have hg:=(g2.len g1 ha h0).1
 match g,hg,hl,g1,g4 with
 | [c],_,_,g1,g4=>
  have hc0:c≠0:=g1.mem (by simp)
  obtain⟨P,p1,p2⟩:=Zqq s t A
  obtain⟨Q,q1,q2⟩:=Zqq s t B
  obtain⟨ε,e1,e2,e3⟩:=Gn (show(0:Rat)<1 by decide) (show 0<(P+Q)+(P+Q) by grind) (show(0:Rat)<1 by decide)
  refine⟨ε,e1,fun x hs ht=>?_⟩
  by_cases h1:Big ε x (Zw a)
  ·exact .inl h1
  ·by_cases h2:Big ε x (Zw b)
   ·exact .inr h2
   ·exfalso
    obtain⟨a1,a2⟩:=Zd9 h1
    obtain⟨b1,b2⟩:=Zd9 h2
    obtain⟨c1,c2⟩:=p2 x hs ht
    obtain⟨d1,d2⟩:=q2 x hs ht
    obtain⟨u1,u2⟩:=Zcg c1 c2 a1 a2 (by grind)
    obtain⟨v1,v2⟩:=Zcg d1 d2 b1 b2 (by grind)
    have h4:=g4 x
    rw [Nu]at h4
    have h5:(c:Rat)≤-1∨1≤(c:Rat):=by
     rcases Int.lt_or_gt_of_ne hc0 with h | h
     ·left;have:((c:Int):Rat)≤((-1:Int):Rat):=by exact_mod_cast (show c≤-1 by omega)
      rwa [show(((-1:Int)):Rat)=-1 from rfl]at this
     ·right;have:1≤c:=by omega
      exact_mod_cast this
    rcases h5 with h5 | h5<;>grind
 | c :: d :: r,_,h9,_,_=>simp at h9
theorem Big.near{ε x y:Rat}{f:Rat→Rat}(h:Big ε x f)(h1:f x-f y≤ε/2)(h2:f y-f x≤ε/2):Big (ε/2) y f:=by
 unfold Big at *;grind
theorem Zh7(x:Rat):Ev x=-1↔x<0:=by
 unfold Ev
 by_cases h:x<0
 ·rw [if_pos h];simp [h]
 ·rw [if_neg h]
  by_cases h2:x=0
  ·rw [if_pos h2];simp [h]
  ·rw [if_neg h2];simp [h]
theorem Zz1(x:Rat):Ev (-x)=- Ev x:=by
 unfold Ev
 by_cases h:x<0
 ·rw [if_pos h,if_neg (by grind),if_neg (by grind)];rfl
 ·rw [if_neg h]
  by_cases h2:x=0
  ·rw [if_pos h2,if_neg (by grind),if_pos (by grind)];rfl
  ·rw [if_neg h2,if_pos (by grind)]
theorem Zl9{f g:Rat→Rat}(r:List (Rat→Rat)){x:Rat}(h:Ev (g x)≠0):vat (f :: g :: r) x=vat (g :: r) x+(if Ev (f x)=- Ev (g x)then 1 else 0):=by
 unfold vat
 simp only [List.map_cons]
 exact Yfz _ h
def Tay(s t M:Rat)(p:List Int):Prop:=∀x y,s≤x→x≤y→y≤t→-(M*(y-x)*(y-x))≤Zw p y-Zw p x-(y-x)*Zw (ld p) x∧Zw p y-Zw p x-(y-x)*Zw (ld p) x≤M*(y-x)*(y-x)
theorem Zh4 {s t:Rat} {f:Nat} {a b:List Int} (ha:Tr a) (hb:Tr b) (hok:cok f a b) {κ:Rat} (hκ:0<κ) (hder:∀x,Zw (ld a) x=κ*Zw b x)
  {ε L L' M h:Rat} (e1:0<ε) (e2:∀x,s≤x→x≤t→Big ε x (Zw a)∨Big ε x (Zw b)) (l1:0≤L) (l2:Lip s t L (Zw a)) (l1':0≤L') (l2':Lip s t L' (Zw b)) (m1:0≤M) (m2:Tay s t M a)
  (h5:0<h) (h3:h*(L+L')≤ε/2) (h7:h*M≤κ*ε/2) {u v:Rat} (hs:s≤u) (huv:u≤v) (ht:v≤t) (hh:v-u≤h) :
  vat ((Li f a b).map Zw) u-vat ((Li f a b).map Zw) v=crs (Zw a) u v:=by
 have hL:∀w,u≤w→w≤v→L*(w-u)≤ε/2∧L'*(w-u)≤ε/2:=fun w q1 q2=>by
  have p1:=Rat.mul_nonneg (a:=L) (b:=h-(w-u)) (by grind) (by grind)
  have p2:=Rat.mul_nonneg (a:=L') (b:=h-(w-u)) (by grind) (by grind)
  have p3:=Rat.mul_nonneg (a:=L) (b:=h) (by grind) (by grind)
  have p4:=Rat.mul_nonneg (a:=L') (b:=h) (by grind) (by grind)
  constructor<;>grind
 by_cases hba:Big ε u (Zw a)
 ·have hB:∀w,u≤w→w≤v→Big (ε/2) w (Zw a):=fun w q1 q2=>by
   obtain⟨x1,x2⟩:=l2 u w hs q1 (by grind)
   have:=hL w q1 q2
   exact hba.near (by grind) (by grind)
  rw [Zf8 ha hb hok huv (show 0<ε/2 by grind) hB]
  have hv:=hB v huv (by grind)
  have:crs (Zw a) u v=0:=by
   unfold crs
   refine if_neg fun⟨_,h9⟩=>?_
   obtain⟨x1,x2⟩:=l2 u v hs huv ht
   have hLv:=hL v huv (by grind)
   unfold Big at hba hv
   rcases hba with hp | hp
   ·have:0<Zw a v:=by grind
    have:=Rat.mul_pos (show 0<Zw a u by grind) this
    grind
   ·have:0 < - Zw a v:=by grind
    have:=Rat.mul_pos (show 0 < - Zw a u by grind) this
    grind
  omega
 ·have hbb:Big ε u (Zw b):=(e2 u hs (by grind)).resolve_left hba
  have hB:∀w,u≤w→w≤v→Big (ε/2) w (Zw b):=fun w q1 q2=>by
   obtain⟨x1,x2⟩:=l2' u w hs q1 (by grind)
   have:=hL w q1 q2
   exact hbb.near (by grind) (by grind)
  have hb0:b≠[]:=fun e=>by
   rw [e]at hbb;unfold Big at hbb
   have:Zw [] u=0:=rfl
   rw [this]at hbb;grind
  obtain⟨g,hg,hd,hle,hcg,hsc⟩:=Zg6 hok hb0
  have hT:=Zf8 hb (Zco ha) hcg huv (show 0<ε/2 by grind) hB
  obtain⟨r,hr,_,_,_⟩:=Zmp (s:=u) (t:=v) g b (Le a b) hb (Zco ha) hcg
  rw [hsc,hr]
  rw [hr]at hT
  simp only [List.map_cons]at hT ⊢
  have hsg:∃σ:Rat,(σ=1∨σ=-1)∧ε<σ*Zw b u∧∀w,u≤w→w≤v→0<σ*Zw b w:=by
   unfold Big at hbb
   rcases hbb with hp | hp
   ·refine⟨1,.inl rfl,by grind,fun w q1 q2=>?_⟩
    obtain⟨x1,x2⟩:=l2' u w hs q1 (by grind)
    have:=hL w q1 q2
    grind
   ·refine⟨-1,.inr rfl,by grind,fun w q1 q2=>?_⟩
    obtain⟨x1,x2⟩:=l2' u w hs q1 (by grind)
    have:=hL w q1 q2
    grind
  obtain⟨σ,hσ,hbu,hbw⟩:=hsg
  have hmono:u<v→σ*Zw a u<σ*Zw a v:=fun hlt=>by
   obtain⟨y1,y2⟩:=m2 u v hs huv ht
   rw [hder u]at y1 y2
   have hd:0<v-u:=by grind
   have z1:M*(v-u)≤κ*ε/2:=by
    have:=Rat.mul_nonneg (a:=M) (b:=h-(v-u)) (by grind) (by grind)
    grind
   have z2:0<κ*(σ*Zw b u)-M*(v-u):=by
    have:=Rat.mul_pos hκ (show 0<σ*Zw b u-ε by grind)
    have:=Rat.mul_pos hκ e1
    grind
   have z3:=Rat.mul_pos hd z2
   rcases hσ with rfl | rfl<;>grind
  have hne:∀w,u≤w→w≤v→Ev (Zw b w)≠0:=fun w q1 q2=>by
   have:=hbw w q1 q2
   rcases hσ with rfl | rfl
   ·rw [Au (by grind)];decide
   ·rw [Av (by grind)];decide
  rw [Zl9 _ (hne u (by grind) huv),Zl9 _ (hne v huv (by grind)),hT]
  have hite:∀w,u≤w→w≤v→(Ev (Zw a w)=- Ev (Zw b w)↔σ*Zw a w<0):=fun w q1 q2=>by
   have:=hbw w q1 q2
   rcases hσ with rfl | rfl
   ·rw [Au (x:=Zw b w) (by grind),Zh7]
    constructor<;>intro<;>grind
   ·rw [Av (x:=Zw b w) (by grind),show(-(-1:Int))=- -1 from rfl]
    have h9:=Zh7 (-(Zw a w))
    rw [Zz1]at h9
    constructor
    ·intro h8
     have:=h9.1 (by omega)
     grind
    ·intro h8
     have:=h9.2 (by grind)
     omega
  rw [show(if Ev (Zw a u)=- Ev (Zw b u)then(1:Int)else 0)=if σ*Zw a u<0 then 1 else 0 from by simp only [hite u (by grind) huv]]
  rw [show(if Ev (Zw a v)=- Ev (Zw b v)then(1:Int)else 0)=if σ*Zw a v<0 then 1 else 0 from by simp only [hite v huv (by grind)]]
  have hcrs:crs (Zw a) u v=if σ*Zw a u<0∧¬σ*Zw a v<0 then 1 else 0:=by
   unfold crs
   have hpp:Zw a u*Zw a v=(σ*Zw a u)*(σ*Zw a v):=by rcases hσ with rfl | rfl<;>grind
   have hz:Zw a u≠0↔σ*Zw a u≠0:=by rcases hσ with rfl | rfl<;>constructor<;>intro h9 h8<;>exact h9 (by grind)
   have hiff:(Zw a u≠0∧Zw a u*Zw a v≤0)↔(σ*Zw a u<0∧¬σ*Zw a v<0):=by
    rw [hpp,hz]
    generalize hp:σ*Zw a u=p at *
    generalize hq:σ*Zw a v=q at *
    constructor
    ·intro ⟨n1,n2⟩
     rcases(show u<v∨u=v by grind)with hlt | heq
     ·have:=hmono hlt
      rcases(show p<0∨0<p by grind)with n3 | n3
      ·refine⟨n3,fun n4=>?_⟩
       have:=Rat.mul_pos (show 0 < -p by grind) (show 0 < -q by grind)
       grind
      ·have:=Rat.mul_pos n3 (show 0<q by grind)
       grind
     ·exfalso
      have:q=p:=by rw [←hp,←hq,heq]
      rw [this]at n2
      rcases(show p<0∨0<p by grind)with n3 | n3
      ·have:=Rat.mul_pos (show 0 < -p by grind) (show 0 < -p by grind)
       grind
      ·have:=Rat.mul_pos n3 n3
       grind
    ·intro ⟨n1,n2⟩
     refine⟨by grind,?_⟩
     have:=Rat.mul_nonneg (show 0≤-p by grind) (show 0≤q by grind)
     grind
   simp only [hiff]
  rw [hcrs]
  by_cases k1:σ*Zw a u<0<;>by_cases k2:σ*Zw a v<0
  ·simp [k1,k2]
  ·simp [k1,k2]
   omega
  ·exfalso
   rcases(show u<v∨u=v by grind)with hlt | heq
   ·have:=hmono hlt;grind
   ·rw [heq]at k1;exact k1 k2
  ·simp [k1,k2]
theorem Zjx{s t:Rat}{f:Nat}{a b:List Int}(ha:Tr a)(hb:Tr b)(h0:a≠[])(hok:cok f a b){κ:Rat}(hκ:0<κ)(hder:∀x,Zw (ld a) x=κ*Zw b x)(hc:∀q,Tr q→Ed q a→Ed q b→q.length≤1) :
  ∃h:Rat,0<h∧∀u v,s≤u→u≤v→v≤t→v-u≤h→vat ((Li f a b).map Zw) u-vat ((Li f a b).map Zw) v=crs (Zw a) u v:=by
 obtain⟨ε,e1,e2⟩:=Zwj ha hb h0 hc s t
 obtain⟨L,l1,l2⟩:=Bk s t a
 obtain⟨L',l1',l2'⟩:=Bk s t b
 obtain⟨M,m1,m2⟩:=Ziy s t a
 obtain⟨h1,h2,h3,h4⟩:=Gn (show(0:Rat)<1 by decide) (show 0<L+L' by grind) (show 0<ε/2 by grind)
 obtain⟨h,h5,h6,h7⟩:=Gn h2 m1 (show 0<κ*ε/2 by have:=Rat.mul_pos hκ e1;grind)
 refine⟨h,h5,fun u v hs huv ht hh=>Zh4 ha hb hok hκ hder e1 e2 (by grind) l2 (by grind) l2' (by grind) m2 h5 ?_ h7 hs huv ht hh⟩
 have:=Rat.mul_nonneg (a:=L+L') (b:=h1-h) (by grind) (by grind)
 grind
theorem Yb0:∀(n m:Nat) (f:Nat→Nat),(∀k,k<n→f k<m)→(∀a b,a<n→b<n→f a=f b→a=b)→n≤m
 | 0,_,_,_,_=>Nat.zero_le _
 | n+1,m,f,hf,hi=>by
  have h0:=hf n (by omega)
  have:=Yb0 n (m-1) (fun k=>if f n<f k then f k-1 else f k) (fun k hk=>by
   have h1:=hf k (by omega)
   have h2:f k≠f n:=fun e=>by have:=hi k n (by omega) (by omega) e;omega
   split<;>omega) (fun a b ha hb e=>by
   have h2:f a≠f n:=fun e=>by have:=hi a n (by omega) (by omega) e;omega
   have h3:f b≠f n:=fun e=>by have:=hi b n (by omega) (by omega) e;omega
   refine hi a b (by omega) (by omega) ?_
   split at e<;>split at e<;>omega)
  omega
theorem php{n m:Nat}{f:Nat→Nat}(h:m<n)(hf:∀k,k<n→f k<m):∃a b,a<n∧b<n∧a≠b∧f a=f b:=by
 refine Classical.byContradiction fun h9=>?_
 have:=Yb0 n m f hf fun a b ha hb e=>Classical.byContradiction fun h8=>h9 ⟨a,b,ha,hb,h8,e⟩
 omega
def enc(B:Nat)(d:Nat→Nat):Nat→Nat
 | 0=>0
 | n+1=>enc B d n+d n*B^n
theorem Zo6{B:Nat}{d:Nat→Nat} : ∀n,(∀i,i<n→d i<B)→enc B d n<B^n
 | 0,_=>by simp [enc]
 | n+1,h=>by
  have h1:=Zo6 n fun i hi=>h i (by omega)
  have h2:=h n (by omega)
  have h3:(d n+1)*B^n≤B*B^n:=Nat.mul_le_mul_right _ h2
  rw [Nat.add_mul,Nat.one_mul]at h3
  rw [Nat.pow_succ,Nat.mul_comm (B^n) B]
  show enc B d n+d n*B^n<_
  omega
theorem Zv9{B:Nat}{d e:Nat→Nat} : ∀n,(∀i,i<n→d i<B)→(∀i,i<n→e i<B)→enc B d n=enc B e n→∀i,i<n→d i=e i
 | 0,_,_,_,i,hi=>absurd hi (Nat.not_lt_zero i)
 | n+1,h1,h2,h,i,hi=>by
  have a1:=Zo6 n fun i hi=>h1 i (by omega)
  have a2:=Zo6 n fun i hi=>h2 i (by omega)
  have h:enc B d n+d n*B^n=enc B e n+e n*B^n:=h
  have hp:0<B^n:=by omega
  have hd:d n=e n:=by
   have b1:(enc B d n+d n*B^n)/B^n=d n:=by rw [Nat.add_mul_div_right _ _ hp,Nat.div_eq_of_lt a1,Nat.zero_add]
   have b2:(enc B e n+e n*B^n)/B^n=e n:=by rw [Nat.add_mul_div_right _ _ hp,Nat.div_eq_of_lt a2,Nat.zero_add]
   rw [←b1,←b2,h]
  rcases Nat.lt_or_ge i n with h3 | h3
  ·exact Zv9 n (fun i hi=>h1 i (by omega)) (fun i hi=>h2 i (by omega)) (by rw [hd]at h;omega) i h3
  ·rw [show i=n by omega];exact hd
def dig(B k j:Nat):Nat:=k/B^j%B
theorem Zo7(B k:Nat):∀n,enc B (dig B k) n=k%B^n
 | 0=>by simp [enc,Nat.mod_one]
 | n+1=>by
  show enc B (dig B k) n+dig B k n*B^n=_
  rw [Zo7 B k n,Nat.pow_succ,Nat.mod_mul]
  unfold dig;rw [Nat.mul_comm]
theorem Zjw{f:Nat→Int}{C:Int} : ∀n,(∀i,i<n→-C≤f i∧f i≤C)→-((n:Int)*C)≤Qr f n∧Qr f n≤(n:Int)*C
 | 0,_=>by simp [Dq]
 | n+1,h=>by
  have h1:=Zjw n fun i hi=>h i (by omega)
  have h2:=h n (by omega)
  have h3:((n+1:Nat):Int)*C=(n:Int)*C+C:=by push_cast;grind
  rw [Qq,h3];omega
theorem Zmf(f g:Nat→Int):∀n,Qr (fun i=>f i-g i) n=Qr f n-Qr g n
 | 0=>by simp [Dq]
 | n+1=>by rw [Qq,Qq,Qq,Zmf f g n];omega
theorem siegel{N M A:Nat}(hMN:M<N)(hA:0<A)(c:Nat→Nat→Int)(hc:∀i j,i<M→j<N→(c i j).natAbs≤A) :
  ∃x:Nat→Int,(∃j,j<N∧x j≠0)∧(∀j,j<N→(x j).natAbs≤(2*N*A)^M)∧∀i,i<M→Qr (fun j=>c i j*x j) N=0:=by
 generalize hX:(2*N*A)^M=X
 generalize hW:N*(A*X)=W
 let d:=fun k j=>dig (X+1) k j
 have hd:∀k j,d k j≤X:=fun k j=>Nat.le_of_lt_succ (Nat.mod_lt _ (Nat.succ_pos X))
 let y:=fun k i=>Qr (fun j=>c i j*(d k j:Int)) N
 have hy:∀k i,i<M→-(W:Int)≤y k i∧y k i≤(W:Int):=fun k i hi=>by
  have h1:=Zjw (f:=fun j=>c i j*(d k j:Int)) (C:=((A*X:Nat):Int)) N fun j hj=>by
   have h2:=hc i j hi hj
   have h3:(c i j*(d k j:Int)).natAbs≤A*X:=by
    rw [Int.natAbs_mul,Int.natAbs_natCast];exact Nat.mul_le_mul h2 (hd k j)
   omega
  have h4:((N:Int)*((A*X:Nat):Int))=(W:Int):=by rw [←hW];push_cast;rfl
  rw [h4]at h1;exact h1
 let e:=fun k=>enc (2*W+1) (fun i=>(y k i+(W:Int)).toNat) M
 have he:∀k i,i<M→(y k i+(W:Int)).toNat<2*W+1:=fun k i hi=>by have:=hy k i hi;omega
 have hlt:(2*W+1)^M<(X+1)^N:=by
  have h1:2*W+1≤(2*N*A)*(X+1):=by
   have:0<N*A:=Nat.mul_pos (by omega) hA
   have e1:2*N*A*(X+1)=2*W+2*(N*A):=by rw [←hW];grind
   omega
  have h2:=Nat.pow_le_pow_left h1 M
  rw [Nat.mul_pow,hX]at h2
  have h3:(X+1)^(M+1)≤(X+1)^N:=Nat.pow_le_pow_right (by omega) (by omega)
  rw [Nat.pow_succ]at h3
  have h4:0<(X+1)^M:=Nat.pow_pos (by omega)
  have h5:X*(X+1)^M<(X+1)^M*(X+1):=by rw [Nat.mul_comm];exact Nat.mul_lt_mul_of_pos_left (by omega) h4
  omega
 obtain⟨a,b,ha,hb,hab,hf⟩:=php (f:=e) hlt (fun k _=>Zo6 M (he k))
 have hyy:=Zv9 M (he a) (he b) hf
 refine⟨fun j=>(d a j:Int)-(d b j:Int),?_,fun j _=>?_,fun i hi=>?_⟩
 ·refine Classical.byContradiction fun h9=>hab ?_
  have h8:∀j,j<N→d a j=d b j:=fun j hj=>Classical.byContradiction fun h7=>h9 ⟨j,hj,fun h6=>h7 (by have h6:(d a j:Int)-(d b j:Int)=0:=h6;omega)⟩
  have e1:=Zo7 (X+1) a N
  have e2:=Zo7 (X+1) b N
  rw [Nat.mod_eq_of_lt ha]at e1
  rw [Nat.mod_eq_of_lt hb]at e2
  have e3:∀n,n≤N→enc (X+1) (dig (X+1) a) n=enc (X+1) (dig (X+1) b) n:=fun n=>by
   induction n with
   | zero=>intro _;rfl
   | succ n ih=>
    intro hn
    have h7:dig (X+1) a n=dig (X+1) b n:=h8 n (by omega)
    show enc _ _ n+dig (X+1) a n*_=enc _ _ n+dig (X+1) b n*_
    rw [ih (by omega),h7]
  rw [←e1,←e2];exact e3 N (Nat.le_refl _)
 ·have h1:=hd a j
  have h2:=hd b j
  dsimp only;omega
 ·have h1:Qr (fun j=>c i j*((d a j:Int)-(d b j:Int))) N=y a i-y b i:=by
   rw [←Zmf];exact Qh fun j _=>by grind
  rw [h1]
  have h2:=hyy i hi
  have h3:=hy a i hi
  have h4:=hy b i hi
  omega
end Go.Sky

