/- Rules, arithmetic and contracts: part 6. No conditions but those that each theorem names. -/
import Derived.Test.YtcmiiammekgooaaGreatSc04
set_option linter.all false
namespace Go.Sky
theorem Zh3(f:Nat→Int)(p:Nat):∀q,Qr f (p+q)=Qr f p+Qr (fun k=>f (p+k)) q
 | 0=>by simp [Dq]
 | q+1=>by rw [←Nat.add_assoc,Qq,Qq,Zh3 f p q];omega
def sft(a:List Int)(t k:Nat):Int:=if k≤t then cf a (t-k)else 0
theorem Zk9{U a:List Int}{p:Nat}(h:U.length=p)(t:Nat):(ps U*ps a).c t=Qr (fun k=>sft a t k*cf U k) p:=by
 rw [←Zsl,←h]
 refine Qh fun k _=>?_
 unfold sft;split<;>grind
theorem Zej{U a:List Int}{p t:Nat}(h:U.length≤p)(ht:p+a.length≤t+1):(ps U*ps a).c t=0:=by
 rw [PS.mul_c]
 refine Fp fun k hk=>?_
 rw [Md,Md]
 rcases Nat.lt_or_ge k U.length with h1 | h1
 ·rw [Qe (p:=a) (by omega),Int.mul_zero]
 ·rw [Qe h1,Int.zero_mul]
theorem Zh5{a b:List Int}{p q lo A:Nat}(hA:0<A)(ha:∀i,(cf a i).natAbs≤A)(hb:∀i,(cf b i).natAbs≤A)(h0:0<p+q)(h1:p+a.length≤p+q+lo)(h2:q+b.length≤p+q+lo) :
  ∃U V:List Int,U.length=p∧V.length=q∧((∃i,cf U i≠0)∨∃i,cf V i≠0)∧(∀i,(cf U i).natAbs≤(2*(p+q)*A)^(p+q-1))∧(∀i,(cf V i).natAbs≤(2*(p+q)*A)^(p+q-1))∧
   ∀t,lo≤t→(ps U*ps a).c t+(ps V*ps b).c t=0:=by
 obtain⟨x,⟨j,hj,hne⟩,hx,he⟩:=siegel (N:=p+q) (M:=p+q-1) (A:=A) (by omega) hA (fun i j=>if j<p then sft a (lo+i) j else sft b (lo+i) (j-p)) (fun i j _ _=>by
  split<;>unfold sft<;>split
  ·exact ha _
  ·simp
  ·exact hb _
  ·simp)
 have cU:∀i,cf (mk p x) i=if i<p then x i else 0:=fun i=>It _ _ _
 have cV:∀i,cf (mk q fun k=>x (p+k)) i=if i<q then x (p+i)else 0:=fun i=>It _ _ _
 refine⟨mk p x,mk q fun k=>x (p+k),Qp _ _,Qp _ _,?_,fun i=>?_,fun i=>?_,fun t ht=>?_⟩
 ·rcases Nat.lt_or_ge j p with h | h
  ·exact .inl ⟨j,by rw [cU,if_pos h];exact hne⟩
  ·exact .inr ⟨j-p,by rw [cV,if_pos (by omega),show p+(j-p)=j by omega];exact hne⟩
 ·rw [cU];split
  ·exact hx i (by omega)
  ·exact Nat.zero_le _
 ·rw [cV];split
  ·exact hx _ (by omega)
  ·exact Nat.zero_le _
 ·rcases Nat.lt_or_ge (t-lo) (p+q-1)with h | h
  ·have h3:=he (t-lo) h
   rw [show lo+(t-lo)=t by omega,Zh3]at h3
   rw [Zk9 (Qp _ _),Zk9 (Qp _ _),←h3]
   congr 1
   ·exact Qh fun k hk=>by rw [if_pos hk,cU,if_pos hk]
   ·exact Qh fun k hk=>by rw [if_neg (by omega),cV,if_pos hk,show p+k-p=k by omega]
  ·rw [Zej (Nat.le_of_eq (Qp _ _)) (by omega),Zej (Nat.le_of_eq (Qp _ _)) (by omega)];rfl
theorem Zwk{U a:List Int}{p t X A:Nat}(h:U.length=p)(hU:∀i,(cf U i).natAbs≤X)(ha:∀i,(cf a i).natAbs≤A):((ps U*ps a).c t).natAbs≤p*(X*A):=by
 rw [Zk9 h]
 have h1:=Zjw (f:=fun k=>sft a t k*cf U k) (C:=((X*A:Nat):Int)) p fun k _=>by
  have:(sft a t k*cf U k).natAbs≤X*A:=by
   rw [Int.natAbs_mul,Nat.mul_comm]
   refine Nat.mul_le_mul (hU k) ?_
   unfold sft;split
   ·exact ha _
   ·simp
  omega
 have h2:((p:Int)*((X*A:Nat):Int))=((p*(X*A):Nat):Int):=by push_cast;rfl
 rw [h2]at h1;omega
theorem Zgh{w q y:List Int}{n:Nat}(h:∀x,Zw w x=Zw q x*Zw y x)(hy:Tr y)(h0:y≠[])(hn:∀i,n≤i→cf w i=0):tzl q=[]∨(tzl q).length+y.length≤n+1:=by
 by_cases hq:tzl q=[]
 ·exact .inl hq
 ·right
  have hc:∀i,cf w i=(ps (tzl q)*ps y).c i:=fun i=>by
   rw [Lr (p:=w) (q:=Nc (tzl q) y) (fun x=>by rw [Xn,Kl];exact h x) i,Df,PS.mul_c];rfl
  have l1:=List.length_pos_iff.2 hq
  have l2:=List.length_pos_iff.2 h0
  have ht:=Am (p:=tzl q) (q:=y) (a:=(tzl q).length-1) (b:=y.length-1) (fun i hi=>Qe (by omega)) (fun i hi=>Qe (by omega))
  rw [←hc]at ht
  have hne:=Int.mul_ne_zero ((Nr q).mem hq) (hy.mem h0)
  rcases Nat.lt_or_ge ((tzl q).length-1+(y.length-1)) n with h9 | h9
  ·omega
  ·rw [hn _ h9]at ht;exact absurd ht.symm hne
theorem Ey{v f:List Int}(hv:tzl v≠[])(h:∀x,Zw v x*Zw f x=0)(x:Rat):Zw f x=0:=by
 by_cases hf:tzl f=[]
 ·rw [←Kl,hf];rfl
 ·exfalso
  rcases Zgh (w:=[]) (q:=v) (y:=tzl f) (n:=0) (fun x=>by rw [Kl,h x];rfl) (Nr f) hf (fun i _=>Zca i)with h9 | h9
  ·exact hv h9
  ·have:=List.length_pos_iff.2 hf
   have:=List.length_pos_iff.2 hv
   omega
structure Inv (a b x y:List Int):Prop where
 ex:∃(α β γ:Int) (u' v' u v:List Int),α≠0∧β≠0∧γ≠0∧
  (∀t:Rat,(α:Rat)*Zw x t=Zw u' t*Zw a t+Zw v' t*Zw b t)∧(∀t:Rat,(β:Rat)*Zw y t=Zw u t*Zw a t+Zw v t*Zw b t)∧
  (∀t:Rat,Zw u' t*Zw v t-Zw u t*Zw v' t=(γ:Rat))∧(tzl v).length≤a.length-x.length+1∧(tzl v').length≤a.length-x.length+1
 xl:x.length≤b.length
 yl:y.length<x.length
theorem Zve{x q y z:List Int}{L:Int}{c:Int}(hy:Tr y)(h0:y≠[])(hz:z.length≤x.length)(h:∀t:Rat,(L:Rat)*Zw x t=Zw q t*Zw y t+(c:Rat)*Zw z t):tzl q=[]∨(tzl q).length+y.length≤x.length+1:=
 Zgh (w:=Kq (x.map fun a=>L*a) (z.map fun a=>(-c)*a)) (n:=x.length) (fun t=>by rw [Pe,Yq,Yq];have:=h t;push_cast;grind) hy h0 fun i hi=>by
  rw [Hb,Ok,Ok,Qe hi,Qe (p:=z) (by omega)];omega
theorem Zab{p q:List Int}{m n:Nat}(hp:(tzl p).length≤m)(hq:(tzl q).length≤n)(i:Nat)(hi:m+n≤i+1):cf (Nc p q) i=0:=by
 have h1:cf (Nc p q) i=cf (Nc (tzl p) (tzl q)) i:=Lr (fun x=>by rw [Xn,Xn,Kl,Kl]) i
 rw [h1,Df]
 have h2:=Zej (U:=tzl p) (a:=tzl q) (p:=m) (t:=i) hp (by omega)
 rw [PS.mul_c]at h2
 exact h2
theorem Znl{p:List Int}{n:Nat}(h:∀i,n≤i→cf p i=0):(tzl p).length≤n:=Zbr h
theorem Zwz{p:List Int}{n i:Nat}(h:(tzl p).length≤n)(hi:n≤i):cf p i=0:=by
 rw [←Km];exact Qe (by omega)
theorem Inv.next{a b x y z z' q:List Int}{L:Int}(hI:Inv a b x y)(hab:b.length≤a.length)(hx:Tr x)(hy:Tr y)(h0:y≠[])(hL:L≠0)(h:∀t:Rat,(L:Rat)*Zw x t=Zw q t*Zw y t+Zw z' t)(hz:Sim z' z)(hzl:z.length<y.length):Inv a b y z:=by
 obtain⟨⟨α,β,γ,u',v',u,v,hα,hβ,hγ,e1,e2,e3,l1,l2⟩,xl,yl⟩:=hI
 obtain⟨m,n,hm,hn,hs⟩:=hz
 have hs':∀t:Rat,(m:Rat)*Zw z' t=(n:Rat)*Zw z t:=fun t=>by
  have:=Kh t (z'.map fun a=>m*a) (z.map fun a=>n*a) fun i=>by rw [Ok,Ok,hs]
  rwa [Yq,Yq]at this
 have h9:∀t:Rat,((L*m:Int):Rat)*Zw x t=Zw (q.map fun a=>m*a) t*Zw y t+(n:Rat)*Zw z t:=fun t=>by
  rw [Yq];push_cast
  have:=h t;have:=hs' t;grind
 have hql:=Zve hy h0 (by omega) h9
 have hqz:(tzl (q.map fun a=>m*a)).length≤x.length-y.length+1:=by
  rcases hql with hq | hq
  ·rw [hq];simp
  ·omega
 generalize hQ:(q.map fun a=>m*a)=Q at *
 have key:∀t:Rat,((n*(α*β):Int):Rat)*Zw z t=Zw (Kq (u'.map fun c=>(L*m*β)*c) ((Nc Q u).map fun c=>(-α)*c)) t*Zw a t+Zw (Kq (v'.map fun c=>(L*m*β)*c) ((Nc Q v).map fun c=>(-α)*c)) t*Zw b t:=fun t=>by
  rw [Pe,Pe,Yq,Yq,Yq,Yq,Xn,Xn]
  have a1:=h9 t;have a2:=e1 t;have a3:=e2 t
  push_cast at a1 ⊢
  have:(n:Rat)*(α*β)*Zw z t=α*β*(n*Zw z t):=by grind
  rw [this,show(n:Rat)*Zw z t=L*m*Zw x t-Zw Q t*Zw y t by grind]
  have:(α:Rat)*β*(L*m*Zw x t-Zw Q t*Zw y t)=L*m*β*(α*Zw x t)-α*Zw Q t*(β*Zw y t):=by grind
  rw [this,a2,a3];grind
 refine⟨⟨β,n*(α*β),-(L*m*β*γ),u,v,_,_,hβ,Int.mul_ne_zero hn (Int.mul_ne_zero hα hβ),?_,e2,key,fun t=>?_,?_,?_⟩,by omega,hzl⟩
 ·have:=Int.mul_ne_zero (Int.mul_ne_zero (Int.mul_ne_zero hL hm) hβ) hγ;omega
 ·rw [Pe,Pe,Yq,Yq,Yq,Yq,Xn,Xn]
  have:=e3 t;push_cast;grind
 ·refine Znl fun i hi=>?_
  rw [Hb,Ok,Ok,Zwz (p:=v') l2 (by omega),Zab hqz l1 i (by omega)];omega
 ·omega
theorem Inv.first{a b z z' q:List Int}{L:Int}(hab:b.length≤a.length)(ha:Tr a)(hb:Tr b)(h0:b≠[])(hL:L≠0)(h:∀t:Rat,(L:Rat)*Zw a t=Zw q t*Zw b t+Zw z' t)(hz:Sim z' z)(hzl:z.length<b.length):Inv a b b z:=by
 obtain⟨m,n,hm,hn,hs⟩:=hz
 have hs':∀t:Rat,(m:Rat)*Zw z' t=(n:Rat)*Zw z t:=fun t=>by
  have:=Kh t (z'.map fun a=>m*a) (z.map fun a=>n*a) fun i=>by rw [Ok,Ok,hs]
  rwa [Yq,Yq]at this
 have h9:∀t:Rat,((L*m:Int):Rat)*Zw a t=Zw (q.map fun a=>m*a) t*Zw b t+(n:Rat)*Zw z t:=fun t=>by
  rw [Yq];push_cast
  have:=h t;have:=hs' t;grind
 have hql:=Zve hb h0 (by omega) h9
 have hqz:(tzl (q.map fun a=>m*a)).length≤a.length-b.length+1:=by
  rcases hql with hq | hq
  ·rw [hq];simp
  ·omega
 generalize hQ:(q.map fun a=>m*a)=Q at *
 refine⟨⟨1,n,-(L*m),[],[1],[L*m],Q.map fun c=>(-1)*c,by decide,hn,?_,fun t=>?_,fun t=>?_,fun t=>?_,?_,?_⟩,Nat.le_refl _,hzl⟩
 ·have:=Int.mul_ne_zero hL hm;omega
 ·rw [Nu];show _=(0:Rat)*_+_;grind
 ·rw [Nu,Yq];have:=h9 t;push_cast at this ⊢;grind
 ·rw [Nu,Nu];show(0:Rat)*_-_=_;push_cast;grind
 ·refine Znl fun i hi=>?_
  rw [Ok,Zwz hqz (by omega)];omega
 ·refine Nat.le_trans (Hc _) ?_
  simp
theorem Zhj{n:Nat}{a:List Int}(h:Sz n a)(i:Nat):(cf a i).natAbs≤2^n:=Nat.le_of_lt ((Mo n _).1 (h i))
theorem Aw{p:List Int}(h:tzl p=[])(x:Rat):Zw p x=0:=by rw [←Kl,h];rfl
theorem tzl_ne{p:List Int}{i:Nat}(h:cf p i≠0):tzl p≠[]:=fun e=>h ((Ij p).1 e i)
theorem nn_eq{x a b:Nat}(h1:x≤b)(h2:b≤a):b-x+1+(a-x+1)=a+b-2*x+2:=by omega
theorem Inv.bound{a b x y:List Int}{n s:Nat}(hI:Inv a b x y)(hab:b.length≤a.length)(ha:Tr a)(hx:Tr x)(hy:Tr y)(h0:y≠[])(hp:Ql y=1)(na:Sz n a)(nb:Sz n b)(hs:a.length+b.length-2*x.length+2≤2^s) :
  Pi y≤(s+1+n)*(a.length+b.length-2*x.length+2):=by
 obtain⟨⟨α,β,γ,u',v',u,v,hα,hβ,hγ,e1,e2,e3,l1,l2⟩,xl,yl⟩:=hI
 have hy1:=List.length_pos_iff.2 h0
 have hx0:x≠[]:=fun e=>by rw [e]at yl;simp at yl
 have ha0:a≠[]:=fun e=>by
  have h9:a.length=0:=by rw [e];rfl
  omega
 obtain⟨U,V,lU,lV,hne,bU,bV,hz⟩:=Zh5 (a:=a) (b:=b) (p:=b.length-x.length+1) (q:=a.length-x.length+1) (lo:=x.length-1) (A:=2^n) (Nat.pow_pos (by decide)) (Zhj na) (Zhj nb) (by omega) (by omega) (by omega)
 have hv:a.length+1≤(tzl v).length+x.length:=by
  refine Classical.byContradiction fun h9=>?_
  have hid:∀i,cf (Kq (a.map fun c=>γ*c) ((Nc y v').map fun c=>β*c)) i=cf (Nc (tzl v) (x.map fun c=>α*c)) i:=fun i=>Lr (fun t=>by
   rw [Pe,Yq,Yq,Xn,Xn,Yq,Kl]
   have a1:=e1 t;have a2:=e2 t;have a3:=e3 t
   have:Zw v t*(α*Zw x t)=(Zw u' t*Zw v t-Zw u t*Zw v' t)*Zw a t+(Zw u t*Zw a t+Zw v t*Zw b t)*Zw v' t:=by rw [a1];grind
   rw [this,a3,←a2];grind) i
  have h1:=hid (a.length-1)
  rw [Hb,Ok,Ok,Zab (m:=y.length) (n:=a.length-x.length+1) (Hc _) l2 _ (by omega),Df]at h1
  have h2:=Zej (U:=tzl v) (a:=x.map fun c=>α*c) (p:=(tzl v).length) (t:=a.length-1) (Nat.le_refl _) (by rw [List.length_map];omega)
  rw [PS.mul_c]at h2
  have h3:Qr (fun k=>cf (tzl v) k*cf (x.map fun c=>α*c) (a.length-1-k)) (a.length-1+1)=0:=h2
  rw [h3]at h1
  have:=Int.mul_ne_zero hγ (ha.mem ha0)
  omega
 have hvne:tzl v≠[]:=fun e=>by rw [e]at hv;simp at hv;omega
 have cR:∀i,cf (Kq (Nc U a) (Nc V b)) i=(ps U*ps a).c i+(ps V*ps b).c i:=fun i=>by
  rw [Hb,Df,Df,PS.mul_c,PS.mul_c];rfl
 generalize hR:Kq (Nc U a) (Nc V b)=R at cR
 have rR:∀t,Zw R t=Zw U t*Zw a t+Zw V t*Zw b t:=fun t=>by rw [←hR,Pe,Xn,Xn]
 have lR:(tzl R).length≤x.length-1:=Znl fun i hi=>by rw [cR];exact hz i hi
 have hf:tzl (Kq (Nc U v) ((Nc u V).map fun c=>(-1)*c))=[]:=by
  rcases Zgh (w:=Kq (Nc R v) ((Nc y V).map fun c=>(-β)*c)) (q:=Kq (Nc U v) ((Nc u V).map fun c=>(-1)*c)) (y:=a) (n:=a.length-1) (fun t=>by
   rw [Pe,Yq,Xn,Xn,Pe,Yq,Xn,Xn,rR]
   have a2:=e2 t
   push_cast
   have:(-(β:Rat))*(Zw y t*Zw V t)=- (β*Zw y t)*Zw V t:=by grind
   rw [this,a2];grind) ha ha0 (fun i hi=>by
   rw [Hb,Ok,Zab lR l1 i (by omega),Zab (m:=y.length) (n:=a.length-x.length+1) (Hc _) (Nat.le_trans (Hc _) (Nat.le_of_eq lV)) i (by omega)];omega)with h9 | h9
  ·exact h9
  ·refine Classical.byContradiction fun h8=>?_
   have:=List.length_pos_iff.2 h8;omega
 have huv:∀t,Zw U t*Zw v t=Zw u t*Zw V t:=fun t=>by
  have:=Aw hf t
  rw [Pe,Yq,Xn,Xn]at this
  push_cast at this;grind
 have hRv:∀t,Zw R t*Zw v t=β*Zw y t*Zw V t:=fun t=>by
  rw [rR,e2 t]
  have:=huv t;grind
 have hw:∀t,(γ:Rat)*Zw V t=Zw v t*Zw (Kq (Nc u' V) ((Nc v' U).map fun c=>(-1)*c)) t:=fun t=>by
  rw [Pe,Yq,Xn,Xn,←e3 t]
  have:=huv t;push_cast;grind
 generalize Kq (Nc u' V) ((Nc v' U).map fun c=>(-1)*c)=w at hw
 have hV:tzl V≠[]:=fun e=>by
  rcases hne with⟨i,hi⟩ | ⟨i,hi⟩
  ·refine hi (Lr (p:=U) (q:=[]) (fun t=>?_) i▸Zca i)
   exact Ey (v:=v) (f:=U) hvne (fun t=>by have:=huv t;rw [Aw e]at this;grind) t
  ·exact tzl_ne hi e
 have hwl:∃c:Int,c≠0∧∀t,Zw w t=(c:Rat):=by
  have hwne:tzl w≠[]:=fun e=>hV ((Ij V).2 fun i=>by
   have:=Lr (p:=V.map fun c=>γ*c) (q:=[]) (fun t=>by rw [Yq,hw t,Aw e];show _=(0:Rat);grind) i
   rw [Ok,Zca]at this
   exact(Int.mul_eq_zero.1 this).resolve_left hγ)
  rcases Zgh (w:=V.map fun c=>γ*c) (q:=w) (y:=tzl v) (n:=a.length-x.length+1) (fun t=>by rw [Yq,Kl,hw t];grind) (Nr v) hvne (fun i hi=>by rw [Ok,Qe (by omega)];omega)with h9 | h9
  ·exact absurd h9 hwne
  ·have h8:=List.length_pos_iff.2 hwne
   have h7:(tzl w).length=1:=by omega
   match hc:tzl w,h7 with
   | [c],_=>
    refine⟨c,?_,fun t=>by rw [←Kl,hc,Nu]⟩
    have:=(Nr w).mem hwne
    rw [hc]at this;exact this
 obtain⟨c,hc0,hc⟩:=hwl
 have hsim:Sim R y:=by
  refine⟨γ,β*c,hγ,Int.mul_ne_zero hβ hc0,fun i=>?_⟩
  have:=Lr (p:=R.map fun d=>γ*d) (q:=y.map fun d=>(β*c)*d) (fun t=>by
   rw [Yq,Yq];push_cast
   have h1:Zw (Kq (R.map fun d=>γ*d) (y.map fun d=>(-(β*c))*d)) t=0:=Ey (v:=v) hvne (fun t=>by
    rw [Pe,Yq,Yq];push_cast
    have a1:=hRv t;have a2:=hw t;rw [hc]at a2
    have:Zw v t*(γ*Zw R t + -(β*c:Rat)*Zw y t)=γ*(Zw R t*Zw v t)-β*Zw y t*(Zw v t*c):=by grind
    rw [this,a1,←a2];grind) t
   rw [Pe,Yq,Yq]at h1
   push_cast at h1;grind) i
  rwa [Ok,Ok]at this
 have hsz:Sz ((s+1+n)*(a.length+b.length-2*x.length+2)) R:=fun i=>by
  rw [cR]
  have c1:=Zwk (t:=i) lU bU (Zhj na)
  have c2:=Zwk (t:=i) lV bV (Zhj nb)
  have hN3:b.length-x.length+1+(a.length-x.length+1)=a.length+b.length-2*x.length+2:=nn_eq xl hab
  rw [←hN3]at hs ⊢
  generalize hN:b.length-x.length+1+(a.length-x.length+1)=N at *
  generalize hXX:(2*N*2^n)^(N-1)=X at *
  have c3:((ps U*ps a).c i+(ps V*ps b).c i).natAbs≤N*(X*2^n):=by
   rw [←hN,Nat.add_mul]
   have:=Int.natAbs_add_le ((ps U*ps a).c i) ((ps V*ps b).c i)
   omega
  refine(Mo _ _).2 (Nat.lt_of_le_of_lt c3 ?_)
  have hX0:0<X:=by rw [←hXX];exact Nat.pow_pos (Nat.mul_pos (by omega) (Nat.pow_pos (by decide)))
  have c4:N*(X*2^n)<(2*N*2^n)^N:=by
   have e:(2*N*2^n)^N=X*(2*N*2^n):=by
    rw [←hXX,←Nat.pow_succ,Nat.succ_eq_add_one,show N-1+1=N by omega]
   rw [e]
   have:0<N*(X*2^n):=Nat.mul_pos (by omega) (Nat.mul_pos hX0 (Nat.pow_pos (by decide)))
   have e2:X*(2*N*2^n)=2*(N*(X*2^n)):=by grind
   omega
  have c5:2*N*2^n≤2^(s+1+n):=by
   rw [Nat.pow_add,Nat.pow_succ]
   exact Nat.mul_le_mul_right _ (by omega)
  have c6:=Nat.pow_le_pow_left c5 N
  rw [←Nat.pow_mul]at c6
  exact Nat.lt_of_lt_of_le c4 c6
 have h1:tzl R≠[]:=fun e=>by
  obtain⟨m,k,hm,hk,e9⟩:=hsim
  have:=e9 (y.length-1)
  rw [(Ij R).1 e,Int.mul_zero]at this
  exact Int.mul_ne_zero hk (hy.mem h0) this.symm
 have hsim2:Sim (tzl R) y:=by
  obtain⟨m,k,hm,hk,e9⟩:=hsim
  exact⟨m,k,hm,hk,fun i=>by rw [Km];exact e9 i⟩
 have h2:=(Py (Nr R)).trans hsim2
 have h3:∀i,(cf y i).natAbs=(cf (Xf (tzl R)) i).natAbs:=fun i=>by
  rcases Zjy (Qf (Nr R)) hy (fun e=>h1 (List.eq_nil_of_length_eq_zero (by rw [←Xd,e];rfl))) (Ir (Nr R) h1) hp h2 with h9 | h9
  ·rw [h9]
  ·rw [h9 i,Int.natAbs_neg]
 exact Oi fun i=>by rw [h3];exact Fg hsz.tzl i
def Zq9(la lb K:Nat):Prop:=∀l,l≤lb→(l+1)*(K*(la+lb-2*l+2)+1)≤65536
theorem Zsh{la lb K l m:Nat}(h:l≤m):K*(la+lb-2*m+2)≤K*(la+lb-2*l+2):=Nat.mul_le_mul_left _ (by omega)
theorem Zg5{x y:List Int}{C:Nat}(hy:y≠[])(hl:y.length<x.length)(h1:Pi x≤C)(h2:Pi y≤C)(h:(x.length+1)*(C+1)≤65536):Bp x y=0:=by
 have l1:=List.length_pos_iff.2 hy
 unfold Bp
 rw [if_neg (by omega),if_neg (by omega)]
 have h3:(x.length-y.length+1)*(Pi y+1)≤x.length*(C+1):=Nat.mul_le_mul (by omega) (by omega)
 rw [Nat.add_mul,Nat.one_mul]at h
 rw [if_neg (by omega)]
theorem Zyg{a b x y:List Int}(hI:Inv a b x y)(hab:b.length≤a.length)(hx:Tr x)(hy:Tr y)(h0:y≠[]):Inv a b y (Xf (Pr x y)):=by
 obtain⟨k,s,hs⟩:=Cq x h0
 have hL:=La (hy.mem h0) k
 generalize cf y (y.length-1)^k=L at hs hL
 have he:∀t:Rat,(L:Rat)*Zw x t=Zw s t*Zw y t+Zw (Pr x y) t:=fun t=>by
  have:=Ce (a:=L) (c:=-1) (x:=x) (s:=s) (y:=y) (z:=Pr x y) (fun t=>by rw [hs t];omega) t
  push_cast at this;grind
 exact hI.next hab hx hy h0 hL he (Py (Il hx)).symm (by rw [Xd];exact Ov x h0)
theorem Zgk{p:List Int}(h:Tr p):Xf p=[]∨Ql (Xf p)=1:=by
 by_cases h0:p=[]
 ·left;rw [h0];rfl
 ·right;exact Ir h h0
theorem Bn{x y:List Int}(hx:Tr x)(h0:y≠[]):(Le x y).length<y.length:=by rw [Bm hx];exact Ov x h0
theorem Zyf{a b x y:List Int}(hI:Inv a b x y)(hab:b.length≤a.length)(hx:Tr x)(hy:Tr y)(h0:y≠[]):Inv a b y (Le x y)∧(Le x y=[]∨Ql (Le x y)=1):=by
 have l0:=List.length_pos_iff.2 h0
 have hxy:=hI.yl
 obtain⟨r1,r2,k,u,hk⟩:=Zbx hy h0 x.length x hx (by omega)
 have hs:=Zdx (f:=x.length) hx hy h0 (by omega) (by omega)
 have htn:Tr (Zfb (Fc x.length x y)):=Oh _ _
 have hK:Fu y^k≠0:=La (by have:=Zge hy h0;omega) _
 constructor
 ·refine hI.next (z':=Fc x.length x y) (q:=u) hab hx hy h0 hK (fun t=>?_) ?_ (Bn hx h0)
  ·have:=Ce (a:=Fu y^k) (c:=-1) (x:=x) (s:=u) (y:=y) (z:=Fc x.length x y) (fun t=>by rw [hk t];omega) t
   push_cast at this ⊢;grind
  ·rw [←hs]
   exact Sim.trans ⟨1,-1,by decide,by decide,fun i=>by rw [Ch];omega⟩ (Py htn).symm
 ·rw [←hs];exact Zgk htn
theorem Zv7{a b:List Int}{n s K:Nat}(hab:b.length≤a.length)(ha:Tr a)(na:Sz n a)(nb:Sz n b)(hs:a.length+b.length≤2^s)(hK:s+1+n≤K)(hN:Zq9 a.length b.length K) :
  ∀(f:Nat) (x y:List Int),Inv a b x y→Tr x→Tr y→(y=[]∨Ql y=1)→Pi x≤K*(a.length+b.length-2*x.length+2)→y.length≤f→eok f x y∧Pi (eu f x y)≤K*(a.length+b.length)
 | 0,x,y,hI,hx,hy,hp,hm,hl=>by
  have hxl:=hI.yl
  refine⟨List.eq_nil_of_length_eq_zero (by omega),Nat.le_trans hm (Nat.mul_le_mul_left _ (by have:=hI.xl;omega))⟩
 | f+1,x,y,hI,hx,hy,hp,hm,hl=>by
  have hyl:=hI.yl
  have hxl:=hI.xl
  by_cases h0:y=[]
  ·subst h0
   refine⟨.inl rfl,?_⟩
   rw [Dz]
   exact Nat.le_trans hm (Nat.mul_le_mul_left _ (by omega))
  ·have l0:=List.length_pos_iff.2 h0
   have hb:=hI.bound hab ha hx hy h0 (hp.resolve_left h0) na nb (s:=s) (by omega)
   have hb2:Pi y≤K*(a.length+b.length-2*x.length+2):=Nat.le_trans hb (Nat.mul_le_mul_right _ hK)
   have hd:=Zg5 h0 hyl hm hb2 (hN x.length hxl)
   have ht:=Il (q:=y) hx
   have ih:=Zv7 hab ha na nb hs hK hN f y (Xf (Pr x y)) (Zyg hI hab hx hy h0) hy (Qf ht) (Zgk ht) (Nat.le_trans hb2 (Zsh (by omega))) (by rw [Xd];have:=Ov x h0;omega)
   refine⟨.inr ⟨hd,ih.1⟩,?_⟩
   rw [show eu (f+1) x y=eu f y (Xf (Pr x y)) by
     conv=>lhs;unfold eu
     rw [if_neg h0]]
   exact ih.2
theorem Zwl{a b:List Int}{n s K:Nat}(hab:b.length≤a.length)(ha:Tr a)(na:Sz n a)(nb:Sz n b)(hs:a.length+b.length≤2^s)(hK:s+1+n≤K)(hN:Zq9 a.length b.length K) :
  ∀(f:Nat) (x y:List Int),Inv a b x y→Tr x→Tr y→(y=[]∨Ql y=1)→Pi x≤K*(a.length+b.length-2*x.length+2)→y.length≤f→cok f x y∧∀p∈Li f x y,Pi p≤K*(a.length+b.length)∧p.length≤a.length
 | 0,x,y,hI,hx,hy,hp,hm,hl=>by
  have hxl:=hI.yl
  have hxl2:=hI.xl
  have h0:y=[]:=List.eq_nil_of_length_eq_zero (by omega)
  refine⟨h0,fun p hp=>?_⟩
  have:p=x:=by unfold Li at hp;simpa using hp
  rw [this]
  exact⟨Nat.le_trans hm (Nat.mul_le_mul_left _ (by omega)),by omega⟩
 | f+1,x,y,hI,hx,hy,hp,hm,hl=>by
  have hyl:=hI.yl
  have hxl:=hI.xl
  by_cases h0:y=[]
  ·subst h0
   refine⟨.inl rfl,fun p hp=>?_⟩
   rw [Dt]at hp
   have:p=x:=by simpa using hp
   rw [this]
   exact⟨Nat.le_trans hm (Nat.mul_le_mul_left _ (by omega)),by omega⟩
  ·have l0:=List.length_pos_iff.2 h0
   have hb:=hI.bound hab ha hx hy h0 (hp.resolve_left h0) na nb (s:=s) (by omega)
   have hb2:Pi y≤K*(a.length+b.length-2*x.length+2):=Nat.le_trans hb (Nat.mul_le_mul_right _ hK)
   have hd:=Zg5 h0 hyl hm hb2 (hN x.length hxl)
   obtain⟨i1,i2⟩:=Zyf hI hab hx hy h0
   have ih:=Zwl hab ha na nb hs hK hN f y (Le x y) i1 hy (Zco hx) i2 (Nat.le_trans hb2 (Zsh (by omega))) (by have:=Bn hx h0;omega)
   refine⟨.inr ⟨hd,by omega,ih.1⟩,fun p hp=>?_⟩
   unfold Li at hp
   rw [if_neg h0]at hp
   rcases List.mem_cons.1 hp with rfl | hp
   ·exact⟨Nat.le_trans hm (Nat.mul_le_mul_left _ (by omega)),by omega⟩
   ·exact ih.2 p hp
theorem Zv8{a b:List Int}{n s K f:Nat}(hab:b.length<a.length)(ha:Tr a)(hb:Tr b)(na:Sz n a)(nb:Sz n b)(hs:a.length+b.length≤2^s)(hK:s+1+n≤K)(hN:Zq9 a.length b.length K)(hd:(a.length+1)*(n+1)≤65536)(hf:b.length≤f) :
  eok f a b∧Pi (eu f a b)≤K*(a.length+b.length):=by
 have ma:=Oi na
 have mb:=Oi nb
 have la:0<a.length:=by omega
 have hKn:n≤K*(a.length+b.length):=Nat.le_trans (by omega:n≤K*1) (Nat.mul_le_mul_left _ (by omega))
 by_cases h0:b=[]
 ·subst h0
  cases f with
  | zero=>exact⟨rfl,by rw [Dz];omega⟩
  | succ f=>exact⟨.inl rfl,by rw [Dz];omega⟩
 ·have l0:=List.length_pos_iff.2 h0
  obtain⟨g,rfl⟩:∃g,f=g+1:=⟨f-1,by omega⟩
  have ht:=Il (q:=b) ha
  obtain⟨k,q,hq⟩:=Cq a h0
  have hL:=La (hb.mem h0) k
  generalize cf b (b.length-1)^k=L at hq hL
  have he:∀t:Rat,(L:Rat)*Zw a t=Zw q t*Zw b t+Zw (Pr a b) t:=fun t=>by
   have:=Ce (a:=L) (c:=-1) (x:=a) (s:=q) (y:=b) (z:=Pr a b) (fun t=>by rw [hq t];omega) t
   push_cast at this;grind
  have hI:Inv a b b (Xf (Pr a b)):=Inv.first (by omega) ha hb h0 hL he (Py ht).symm (by rw [Xd];exact Ov a h0)
  have ih:=Zv7 (by omega) ha na nb hs hK hN g b (Xf (Pr a b)) hI hb (Qf ht) (Zgk ht) (Nat.le_trans (by omega:Pi b≤K*1) (Nat.mul_le_mul_left _ (by omega))) (by rw [Xd];have:=Ov a h0;omega)
  refine⟨.inr ⟨Zg5 h0 hab ma mb hd,ih.1⟩,?_⟩
  rw [show eu (g+1) a b=eu g b (Xf (Pr a b)) by
    conv=>lhs;unfold eu
    rw [if_neg h0]]
  exact ih.2
theorem Yfm{a b:List Int}{n s K f:Nat}(hab:b.length<a.length)(ha:Tr a)(hb:Tr b)(na:Sz n a)(nb:Sz n b)(hs:a.length+b.length≤2^s)(hK:s+1+n≤K)(hN:Zq9 a.length b.length K)(hd:(a.length+1)*(n+1)≤65536)(hf:b.length≤f) :
  cok f a b∧∀p∈Li f a b,Pi p≤K*(a.length+b.length)∧p.length≤a.length:=by
 have ma:=Oi na
 have mb:=Oi nb
 have la:0<a.length:=by omega
 have hKn:n≤K*(a.length+b.length):=Nat.le_trans (by omega:n≤K*1) (Nat.mul_le_mul_left _ (by omega))
 by_cases h0:b=[]
 ·subst h0
  have hall:∀p∈Li f a [],Pi p≤K*(a.length+([]:List Int).length)∧p.length≤a.length:=fun p hp=>by
   rw [Dt]at hp
   have:p=a:=by simpa using hp
   rw [this];exact⟨by omega,Nat.le_refl _⟩
  cases f with
  | zero=>exact⟨rfl,hall⟩
  | succ f=>exact⟨.inl rfl,hall⟩
 ·have l0:=List.length_pos_iff.2 h0
  obtain⟨g,rfl⟩:∃g,f=g+1:=⟨f-1,by omega⟩
  obtain⟨r1,r2,k,u,hk⟩:=Zbx hb h0 a.length a ha (by omega)
  have hs':=Zdx (f:=a.length) ha hb h0 (by omega) (by omega)
  have htn:Tr (Zfb (Fc a.length a b)):=Oh _ _
  have hKK:Fu b^k≠0:=La (by have:=Zge hb h0;omega) _
  have hI:Inv a b b (Le a b):=by
   refine Inv.first (z':=Fc a.length a b) (q:=u) (by omega) ha hb h0 hKK (fun t=>?_) ?_ (Bn ha h0)
   ·have:=Ce (a:=Fu b^k) (c:=-1) (x:=a) (s:=u) (y:=b) (z:=Fc a.length a b) (fun t=>by rw [hk t];omega) t
    push_cast at this ⊢;grind
   ·rw [←hs']
    exact Sim.trans ⟨1,-1,by decide,by decide,fun i=>by rw [Ch];omega⟩ (Py htn).symm
  have hp:Le a b=[]∨Ql (Le a b)=1:=by rw [←hs'];exact Zgk htn
  have ih:=Zwl (by omega) ha na nb hs hK hN g b (Le a b) hI hb (Zco ha) hp (Nat.le_trans (by omega:Pi b≤K*1) (Nat.mul_le_mul_left _ (by omega))) (by have:=Bn ha h0;omega)
  refine⟨.inr ⟨Zg5 h0 hab ma mb hd,by omega,ih.1⟩,fun p hp=>?_⟩
  unfold Li at hp
  rw [if_neg h0]at hp
  rcases List.mem_cons.1 hp with rfl | hp
  ·exact⟨by omega,Nat.le_refl _⟩
  ·exact ih.2 p hp
def kkR(R:Nat):Nat→Nat
 | 0=>0
 | d+1=>2*(R+1)*kkR R d+1
theorem Ybx(R:Nat):∀d,kkR R d≤kkR R (d+1)
 | 0=>Nat.zero_le _
 | d+1=>by
  have h:=Ybx R d
  show 2*(R+1)*kkR R d+1≤2*(R+1)*kkR R (d+1)+1
  exact Nat.succ_le_succ (Nat.mul_le_mul_left _ h)
theorem Ybw(R:Nat){d e:Nat}(h:d≤e):kkR R d≤kkR R e:=by
 induction e with
 | zero=>rw [show d=0 by omega];exact Nat.le_refl _
 | succ e ih=>
  rcases Nat.lt_or_ge d (e+1)with h1 | h1
  ·exact Nat.le_trans (ih (by omega)) (Ybx R e)
  ·rw [show d=e+1 by omega];exact Nat.le_refl _
theorem Zv0(R:Nat):∀(d:Nat) (u:List Int) (T:List Int) (B:Nat),u.length≤d→T.length=d→T.Nodup→(∀t∈T,t.natAbs≤R)→(∀t∈T,(Ap u t).natAbs≤B)→∀i,(cf u i).natAbs≤kkR R d*B
 | 0,u,T,B,hu,_,_,_,_,i=>by rw [Qe (by omega)];exact Nat.zero_le _
 | d+1,u,[],B,_,hT,_,_,_,_=>by simp at hT
 | d+1,u,t :: T,B,hu,hT,hd,hr,hB,i=>by
  have hl:=Zff u t
  have ht:=hr t (List.mem_cons_self ..)
  have hb:=hB t (List.mem_cons_self ..)
  have ih:=Zv0 R d (sdv u t) T (2*B) (by omega) (by simpa using hT) (List.nodup_cons.1 hd).2 (fun x hx=>hr x (List.mem_cons_of_mem _ hx)) fun x hx=>by
   have h1:=Zo5 u t x
   have h2:=hB x (List.mem_cons_of_mem _ hx)
   have hne:x≠t:=fun e=>(List.nodup_cons.1 hd).1 (e▸hx)
   have h3:((x-t)*Ap (sdv u t) x).natAbs≤2*B:=by omega
   rw [Int.natAbs_mul]at h3
   have h4:1*(Ap (sdv u t) x).natAbs≤(x-t).natAbs*(Ap (sdv u t) x).natAbs:=Nat.mul_le_mul_right _ (by omega)
   omega
  have hk:kkR R (d+1)*B=R*(kkR R d*(2*B))+kkR R d*(2*B)+B:=by
   show(2*(R+1)*kkR R d+1)*B=_
   grind
  have hmul:∀x:Int,x.natAbs≤kkR R d*(2*B)→(t*x).natAbs≤R*(kkR R d*(2*B)):=fun x hx=>by
   rw [Int.natAbs_mul];exact Nat.mul_le_mul (by omega) hx
  rw [hk]
  cases i with
  | zero=>
   rw [Zwy u t]
   have:=hmul _ (ih 0)
   omega
  | succ i=>
   rw [Zt3 u t]
   have h1:=ih i
   have h2:=hmul _ (ih (i+1))
   omega
theorem Zm6(R:Nat):∀(n:Nat) (s:List Int) (A:Nat) (t:Int),s.length≤n→(∀c∈s,c.natAbs≤A)→0≤t→t≤(R:Int)→(Ap s t).natAbs≤A*((R+1)^n)
 | n,[],A,t,_,_,_,_=>by simp [Ap]
 | 0,c :: s,A,t,h,_,_,_=>by simp at h
 | n+1,c :: s,A,t,h,hc,h0,h1=>by
  have ih:=Zm6 R n s A t (by simpa using h) (fun x hx=>hc x (List.mem_cons_of_mem _ hx)) h0 h1
  have h2:=hc c (List.mem_cons_self ..)
  have h3:(t*Ap s t).natAbs≤R*(A*(R+1)^n):=by rw [Int.natAbs_mul];exact Nat.mul_le_mul (by omega) ih
  show(c+t*Ap s t).natAbs≤A*(R+1)^(n+1)
  have h4:A*(R+1)^(n+1)=R*(A*(R+1)^n)+A*(R+1)^n:=by rw [Nat.pow_succ];grind
  have h5:A*1≤A*(R+1)^n:=Nat.mul_le_mul_left _ (Nat.pow_pos (by omega))
  omega
theorem Fy{s u v:List Int}{n L R e:Nat}(hu:Tr u)(hv:Tr v)(hs:Sz n s)(h0:s≠[])(hts:Tr s)(hl:s.length≤L)(hR:2*L≤R+2)(he:kkR R L*(R+1)^L<2^e)(h:s=Ou u v):Sz (n+e) u:=by
 have hne:u≠[]∧v≠[]:=by
  refine⟨fun e=>h0 ?_,fun e=>h0 ?_⟩
  ·rw [h,e,Fw]
  ·rw [h,e,Zfc]
 have hlen:=Nz hu hv hne.1 hne.2
 rw [←h]at hlen
 have lu:=List.length_pos_iff.2 hne.1
 have lv:=List.length_pos_iff.2 hne.2
 have hz:∃i,cf s i≠0:=⟨_,hts.mem h0⟩
 generalize hP:(List.range (R+1)).map (fun n:Nat=>(n:Int))=pts
 have hnp:pts.Nodup:=by
  rw [←hP]
  refine List.Pairwise.map _ (fun a b hab=>?_) List.nodup_range
  intro e;exact hab (by exact_mod_cast e)
 have h1:=Zk2 (fun t=>decide (Ap s t≠0)) pts
 have h2:=Zj5 s.length s (pts.filter fun t=>!decide (Ap s t≠0)) rfl hz (hnp.filter _) fun t ht=>by
  have:=(List.mem_filter.1 ht).2
  simpa using this
 have h3:pts.length=R+1:=by rw [←hP];simp
 generalize hT:pts.filter (fun t=>decide (Ap s t≠0))=T at h1
 have hTl:s.length≤T.length:=by omega
 have hTm:∀t∈T.take u.length,t∈pts∧Ap s t≠0:=fun t ht=>by
  have:=List.mem_of_mem_take ht
  rw [←hT,List.mem_filter]at this
  exact⟨this.1,by simpa using this.2⟩
 have hr:∀t∈T.take u.length,0≤t∧t≤(R:Int):=fun t ht=>by
  have:=(hTm t ht).1
  rw [←hP]at this
  obtain⟨k,hk,rfl⟩:=List.mem_map.1 this
  have:=List.mem_range.1 hk
  omega
 have hA:∀c∈s,c.natAbs≤2^n:=fun c hc=>Nat.le_of_lt ((Mo n _).1 (hs.mem hc))
 have hk:=Zv0 R u.length u (T.take u.length) (2^n*(R+1)^L) (Nat.le_refl _) (by rw [List.length_take];omega) ((hT▸hnp.filter _:T.Nodup).sublist (List.take_sublist _ _)) (fun t ht=>by have:=hr t ht;omega) fun t ht=>by
  have hb:=Zm6 R L s (2^n) t hl hA (hr t ht).1 (hr t ht).2
  have he:Ap s t=Ap u t*Ap v t:=by
   rw [Zk3,Zk3,Zk3,h,Yaw hu hv hne.1 hne.2]
  have hnz:=(hTm t ht).2
  have hd:Ap u t∣Ap s t:=⟨_,he⟩
  exact Nat.le_trans (Nat.le_of_dvd (by omega) (Int.natAbs_dvd_natAbs.2 hd)) hb
 intro i
 rw [Mo]
 refine Nat.lt_of_le_of_lt (hk i) ?_
 have hkk:=Ybw R (show u.length≤L by omega)
 rw [Nat.pow_add,Nat.mul_comm (kkR R u.length),Nat.mul_assoc]
 refine Nat.mul_lt_mul_of_pos_left ?_ (Nat.pow_pos (by decide))
 rw [Nat.mul_comm]
 exact Nat.lt_of_le_of_lt (Nat.mul_le_mul_right _ hkk) he
theorem Ya8{la lb K:Nat}(h1:la≤13)(h2:lb+1=la)(hK:K≤600):Zq9 la lb K:=fun l hl=>by
 have h3:∀l,l≤12→(l+1)*(600*(27-2*l)+1)≤65536:=by decide
 refine Nat.le_trans (Nat.mul_le_mul_left _ (Nat.succ_le_succ (Nat.mul_le_mul hK (by omega)))) (h3 l (by omega))
theorem chF{xs:List Int}{n:Nat}(F:Nat)(hx:Tr xs)(h0:xs≠[])(hs:Sz n xs)(hn:n≤260)(hl:xs.length≤13)(hF:xs.length≤F+1) :
  Ar F xs∧Sz (n+130) (sqf F xs)∧(sqf F xs).length≤xs.length∧∀p∈chn F xs,Pi p≤(n+141)*25∧p.length≤xs.length:=by
 have hnn:=Znp hs
 have hln:=Ng hx
 have ht:Tr (Qj xs):=Mp (Qf hx)
 have hd:=Fh hnn (by omega)
 have hld:=Nv (Qj xs)
 have htd:Tr (Qi (Qj xs)):=Mz ht
 have m1:=Oi hnn
 have m2:=Oi hd
 have l0:=List.length_pos_iff.2 h0
 have hgA:gA (Qj xs) (Qi (Qj xs))=Xf (Qj xs):=if_neg (by omega)
 have hgB:gB (Qj xs) (Qi (Qj xs))=Xf (Qi (Qj xs)):=if_neg (by omega)
 have hok:eok F (gA (Qj xs) (Qi (Qj xs))) (gB (Qj xs) (Qi (Qj xs))):=by
  rw [hgA,hgB]
  refine(Zv8 (n:=n+5) (s:=5) (K:=n+11) (by rw [Xd,Xd];omega) (Qf ht) (Qf htd) (Fg (hnn.mono (by omega))) (Fg hd) ?_ (by omega) ?_ ?_ ?_).1
  ·rw [Xd,Xd];omega
  ·rw [Xd,Xd];exact Ya8 (by omega) (by omega) (by omega)
  ·rw [Xd]
   exact Nat.le_trans (Nat.mul_le_mul (show(Qj xs).length+1≤14 by omega) (show n+5+1≤300 by omega)) (by decide)
  ·rw [Xd];omega
 obtain⟨f1,f2,f3,f4,f5,f6⟩:=Mi (F:=F) hx h0 hok
 have hg:=Zdt (F:=F) ht htd
 have hn0:=Zhs hx h0
 have hK:kkR 24 13*(24+1)^13<2^130:=by decide +kernel
 have hq:=Fy (L:=13) (R:=24) f2 hg hnn hn0 ht (by omega) (by decide) hK f4
 have hgs:=Fy (L:=13) (R:=24) hg f2 hnn hn0 ht (by omega) (by decide) hK (by rw [Bt];exact f4)
 have hlq:=Nz f2 hg f3 f5
 rw [←f4]at hlq
 have lg:=List.length_pos_iff.2 f5
 have lq:=List.length_pos_iff.2 f3
 have mg:=Oi hgs
 have hql:(sqf F xs).length≤xs.length:=by omega
 have hqd:=Fh hq (by omega)
 have hlqd:=Nv (sqf F xs)
 have hc:=Yfm (a:=sqf F xs) (b:=Xf (Qi (sqf F xs))) (n:=n+130+5) (s:=5) (K:=n+141) (f:=F) (by rw [Xd];omega) f2 (Qf (Mz f2)) (hq.mono (by omega)) (Fg hqd) (by rw [Xd];omega) (by omega) (by rw [Xd];exact Ya8 (by omega) (by omega) (by omega)) (Nat.le_trans (Nat.mul_le_mul (show(sqf F xs).length+1≤14 by omega) (show n+130+5+1≤400 by omega)) (by decide)) (by rw [Xd];omega)
 refine⟨⟨⟨fun i _=>Nat.le_trans (Zty hnn (by omega) i) (by omega),?_,hok,?_,f1⟩,fun i _=>Nat.le_trans (Zty hq (by omega) i) (by omega),hc.1⟩,hq,hql,fun p hp=>?_⟩
 ·intro h
  have h3:(max (Qj xs).length (Qi (Qj xs)).length+2)*(max (Qj xs).length (Qi (Qj xs)).length+2)*(max (Pi (Qj xs)) (Pi (Qi (Qj xs)))+8)≤15*15*280:=Nat.mul_le_mul (Nat.mul_le_mul (by omega) (by omega)) (by omega)
  have:=h.2.2
  omega
 ·unfold Bp
  rw [if_neg (by omega)]
  split
  ·rfl
  ·have:((Qj xs).length-(Ms F (Qj xs) (Qi (Qj xs))).length+1)*(Pi (Ms F (Qj xs) (Qi (Qj xs)))+1)≤14*400:=Nat.mul_le_mul (by omega) (by omega)
   rw [if_neg (by omega)]
 ·obtain⟨a1,a2⟩:=hc.2 p hp
  refine⟨Nat.le_trans a1 (Nat.mul_le_mul_left _ ?_),by omega⟩
  rw [Xd];omega
theorem Dv.ed{g a:List Int}(h:Dv g a):Ed g a:=by
 obtain⟨k,s,hk,h⟩:=h
 refine⟨k,s,hk,fun x=>?_⟩
 have:=Ce (a:=k) (c:=0) (x:=a) (s:=s) (y:=g) (z:=[]) (fun t=>by rw [h t];omega) x
 push_cast at this;grind
theorem Zlb{xs:List Int}{F:Nat}(hx:Tr xs)(h0:xs≠[])(hC:Ar F xs)(s t:Rat) :
  ∃h:Rat,0<h∧∀u v,s≤u→u≤v→v≤t→v-u≤h→vat ((chn F xs).map Zw) u-vat ((chn F xs).map Zw) v=crs (Zw (sqf F xs)) u v:=by
 have hok:=hC.1.2.2.1
 obtain⟨f1,f2,f3,f4,f5,f6⟩:=Mi (F:=F) hx h0 hok
 have htp:=Mz f2
 by_cases hd:Qi (sqf F xs)=[]
 ·refine Zjx (κ:=1) f2 (Qf htp) f3 hC.2.2 (by decide) (fun x=>?_) fun q hq a b=>?_
  ·rw [←Ha,hd];show(0:Rat)=1*0;grind
  ·exact Zf2 hx h0 hok hq a (b.sim (Py htp))
 ·have hpc:0<Ql (Qi (sqf F xs)):=by
   have h1:=Af htp hd
   have h2:=Lt (Qi (sqf F xs))
   omega
  refine Zjx (κ:=(Ql (Qi (sqf F xs)):Rat)) f2 (Qf htp) f3 hC.2.2 (by exact_mod_cast hpc) (fun x=>?_) fun q hq a b=>?_
  ·rw [←Ha,←Yq]
   exact Kh x _ _ fun i=>by rw [Ok,Int.mul_comm,Eh]
  ·exact Zf2 hx h0 hok hq a (b.sim (Py htp))
theorem Yez{p s g q:List Int}(hps:∀x:Rat,Zw p x=Zw s x*Zw g x)(hg:Tr g)(g0:g≠[])(hgd:Ed g (ld p))(hq:Irr q)(hqp:Ed q p):Ed q s:=by
 refine Classical.byContradiction fun hns=>?_
 have hq1:=hq.1
 have hq2:=hq.2.1
 have hqd:¬Ed q (ld q):=fun h=>by
  have h8:Ed q (Qi q):=h.congr fun x=>(Ha q x).symm
  have hl:=Nv q
  have:=(h8.len hq1 (Mz hq1) (fun e=>by rw [e]at hl;simp at hl;omega)).2
  omega
 obtain⟨c1,m1,k1,e1⟩:=hqp
 obtain⟨c2,m,k2,e2⟩:=hgd
 have key:∀k,Ed (Fv q k) g:=fun k=>by
  induction k with
  | zero=>exact⟨1,g,by decide,fun x=>by rw [show Fv q 0=[1]from rfl,Nu];push_cast;grind⟩
  | succ k ih=>
   cases k with
   | zero=>
    have h9:Ed q g:=(Zbb (f:=s) (h:=g) (m:=m1) hq k1 (fun x=>by rw [←hps x];exact e1 x)).resolve_left hns
    exact h9.congr_l fun x=>by rw [Ew,show Fv q 0=[1]from rfl,Nu];push_cast;grind
   | succ k=>
    obtain⟨c,u,kc,eu⟩:=ih
    have hd:∀x:Rat,(c:Rat)*Zw (ld g) x=Zw (ld u) x*Zw (Fv q (k+1)) x+Zw u x*(((k:Rat)+1)*(Zw (Fv q k) x*Zw (ld q) x)):=fun x=>by
     have:=Co (p:=g.map fun a=>c*a) (q:=Nc u (Fv q (k+1))) (fun y=>by rw [Yq,Xn];exact eu y) x
     rwa [Ax,Bl,Zn8]at this
    have hp:∀x:Rat,Zw (ld p) x=Zw (ld s) x*Zw g x+Zw s x*Zw (ld g) x:=fun x=>by
     have:=Co (p:=p) (q:=Nc s g) (fun y=>by rw [Xn];exact hps y) x
     rwa [Bl]at this
    have hz:∀x:Rat,Zw (Kq ((Nc (Nc s u) (ld q)).map fun a=>(c2*((k:Int)+1))*a) ((Nc (Kq ((Nc s (ld u)).map fun a=>c2*a) ((Nc (Kq m ((ld s).map fun a=>(-c2)*a)) u).map fun a=>(-1)*a)) q))) x=0:=fun x=>by
     refine Ey (v:=Fv q k) (fun e=>?_) (fun x=>?_) x
     ·rw [Zbq (Za2 hq1 hq2 k).1]at e
      have:=(Za2 hq1 hq2 k).2
      rw [e]at this;simp at this
     ·rw [Pe,Yq,Xn,Xn,Xn,Pe,Yq,Xn,Yq,Xn,Pe,Yq]
      have a1:=e2 x;have a2:=hp x;have a3:=hd x;have a4:=eu x
      rw [Ew]at a3 a4
      push_cast
      have b1:(c2:Rat)*Zw s x*(c*Zw (ld g) x)=(Zw m x-c2*Zw (ld s) x)*(c*Zw g x):=by
       have:(c2:Rat)*Zw s x*(c*Zw (ld g) x)=c*(c2*(Zw (ld p) x-Zw (ld s) x*Zw g x)):=by rw [a2];grind
       rw [this]
       have:(c:Rat)*(c2*(Zw (ld p) x-Zw (ld s) x*Zw g x))=c*(c2*Zw (ld p) x)-c*c2*Zw (ld s) x*Zw g x:=by grind
       rw [this,a1];grind
      rw [a3,a4]at b1
      grind
    have h9:=Zbb (f:=Nc s u) (h:=ld q) (k:=c2*((k:Int)+1)) (m:=Kq ((Nc (Kq m ((ld s).map fun a=>(-c2)*a)) u)) ((Nc s (ld u)).map fun a=>(-c2)*a)) hq (Int.mul_ne_zero k2 (by omega)) (fun x=>by
     have:=hz x
     rw [Pe,Yq,Xn,Xn,Xn,Pe,Yq,Xn,Yq,Xn,Pe,Yq]at this
     rw [Xn,Pe,Xn,Pe,Yq,Yq,Xn]
     push_cast at this ⊢
     grind)
    have h8:=Zbb (f:=s) (h:=u) (k:=1) (m:=[]) hq (by decide)
    have h7:Ed q u:=by
     obtain⟨c3,w,k3,e3⟩:=h9.resolve_right hqd
     exact(Zbb (f:=s) (h:=u) (k:=c3) (m:=w) hq k3 (fun x=>by have:=e3 x;rwa [Xn]at this)).resolve_left hns
    obtain⟨c3,w,k3,e3⟩:=h7
    refine⟨c3*c,w,Int.mul_ne_zero k3 kc,fun x=>?_⟩
    have a4:=eu x;have a5:=e3 x
    rw [Ew q (k+1)];push_cast
    have:(c3:Rat)*c*Zw g x=c3*(c*Zw g x):=by grind
    rw [this,a4]
    have:(c3:Rat)*(Zw u x*Zw (Fv q (k+1)) x)=(c3*Zw u x)*Zw (Fv q (k+1)) x:=by grind
    rw [this,a5];grind
 obtain⟨a1,a2⟩:=Za2 hq1 hq2 g.length
 have:=((key g.length).len a1 hg g0).2
 omega
theorem Yeu{r d:Int}(hd:d≠0):Irr [-r,d]:=by
 have ht:Tr [-r,d]:= .inr hd
 refine⟨ht,by simp,fun q hq he=>?_⟩
 have:=(he.len hq ht (by simp)).2
 simp at this ⊢;omega
theorem Ziz(r d:Int)(x:Rat):Zw [-r,d] x=(d:Rat)*x-r:=by
 show((-r:Int):Rat)+x*((d:Rat)+x*0)=_;push_cast;grind
theorem Yd2{p:List Int}{r d:Int}(hp:Tr p)(hd:d≠0)(h:Zw p ((r:Rat)/d)=0):Ed [-r,d] p:=by
 have hd':(d:Rat)≠0:=by exact_mod_cast hd
 have ht:Tr [-r,d]:= .inr hd
 obtain⟨k,s,hs⟩:=Cq p (q:=[-r,d]) (by simp)
 have hL:=La (ht.mem (by simp)) k
 generalize cf [-r,d] ([-r,d].length-1)^k=L at hs hL
 have he:∀x,(L:Rat)*Zw p x=Zw s x*Zw [-r,d] x+Zw (Pr p [-r,d]) x:=fun x=>by
  have:=Ce (a:=L) (c:=-1) (x:=p) (s:=s) (y:=[-r,d]) (z:=Pr p [-r,d]) (fun t=>by rw [hs t];omega) x
  push_cast at this;grind
 have hl:=Ov p (q:=[-r,d]) (by simp)
 have hz:∀x,Zw (Pr p [-r,d]) x=0:=fun x=>by
  have h1:=he ((r:Rat)/d)
  rw [h,Ziz]at h1
  match hr:Pr p [-r,d],hl with
  | [],_=>rfl
  | [c],_=>
   rw [hr,Nu]at h1
   rw [Nu]
   have:(d:Rat)*(r/d)=r:=by grind
   rw [this]at h1;grind
 exact⟨L,s,hL,fun x=>by rw [he x,hz x];grind⟩
theorem Ed.root{p:List Int}{r d:Int}(hd:d≠0)(h:Ed [-r,d] p):Zw p ((r:Rat)/d)=0:=by
 obtain⟨k,s,hk,h⟩:=h
 have hd':(d:Rat)≠0:=by exact_mod_cast hd
 have hk':(k:Rat)≠0:=by exact_mod_cast hk
 have h1:=h ((r:Rat)/d)
 rw [Ziz]at h1
 have:(d:Rat)*(r/d)=r:=by grind
 rw [this]at h1;grind
theorem Zzl{xs:List Int}{F:Nat}(hx:Tr xs)(h0:xs≠[])(hok:eok F (gA (Qj xs) (Qi (Qj xs))) (gB (Qj xs) (Qi (Qj xs)))){r d:Int}(hd:d≠0)(h:Zw xs ((r:Rat)/d)=0):Zw (sqf F xs) ((r:Rat)/d)=0:=by
 obtain⟨f1,f2,f3,f4,f5,f6⟩:=Mi (F:=F) hx h0 hok
 have hs:Tr (Qj xs):=Mp (Qf hx)
 have hd':Tr (Qi (Qj xs)):=Mz hs
 have h1:Ed [-r,d] (Qj xs):=(Yd2 hx hd h).sim ((Py hx).symm.trans (Hy _).symm)
 have h2:∀x:Rat,Zw (Qj xs) x=Zw (sqf F xs) x*Zw (Ms F (Qj xs) (Qi (Qj xs))) x:=fun x=>by
  have:Zw (Qj xs) x=Zw (Ou (sqf F xs) (Ms F (Qj xs) (Qi (Qj xs)))) x:=by rw [←f4]
  rw [this,Xy]
 have h3:Ed (Ms F (Qj xs) (Qi (Qj xs))) (ld (Qj xs)):=((Zd6 hs hd' hok).2.ed).congr fun x=>Ha _ x
 exact(Yez h2 (Zdt hs hd') f5 h3 (Yeu hd) h1).root hd
def Away(s t:Rat)(f:Rat→Rat):Prop:=∃δ:Rat,0<δ∧∀x,s≤x→x≤t→δ≤f x∨f x≤-δ
theorem Away.mul{s t:Rat}{f g h:Rat→Rat}(hf:Away s t f)(hg:Away s t g)(e:∀x,h x=f x*g x):Away s t h:=by
 obtain⟨a,a1,a2⟩:=hf
 obtain⟨b,b1,b2⟩:=hg
 refine⟨a*b,Rat.mul_pos a1 b1,fun x h1 h2=>?_⟩
 rw [e x]
 rcases a2 x h1 h2 with h3 | h3<;>rcases b2 x h1 h2 with h4 | h4
 ·left;have:=Rat.mul_nonneg (a:=f x-a) (b:=g x) (by grind) (by grind);have:=Rat.mul_nonneg (a:=a) (b:=g x-b) (by grind) (by grind);grind
 ·right;have:=Rat.mul_nonneg (a:=f x-a) (b:=- g x) (by grind) (by grind);have:=Rat.mul_nonneg (a:=a) (b:=- g x-b) (by grind) (by grind);grind
 ·right;have:=Rat.mul_nonneg (a:=- f x-a) (b:=g x) (by grind) (by grind);have:=Rat.mul_nonneg (a:=a) (b:=g x-b) (by grind) (by grind);grind
 ·left;have:=Rat.mul_nonneg (a:=- f x-a) (b:=- g x) (by grind) (by grind);have:=Rat.mul_nonneg (a:=a) (b:=- g x-b) (by grind) (by grind);grind
theorem Away.lin{s t:Rat}{r d:Int}(hd:0<d)(h:(r:Rat)<d*s∨(d:Rat)*t<r):Away s t (Zw [-r,d]):=by
 have hd':(0:Rat)<(d:Rat):=by exact_mod_cast hd
 rcases h with h | h
 ·refine⟨d*s-r,by grind,fun x h1 h2=> .inl ?_⟩
  rw [Ziz];have:=Rat.mul_nonneg (a:=(d:Rat)) (b:=x-s) (by grind) (by grind);grind
 ·refine⟨r-d*t,by grind,fun x h1 h2=> .inr ?_⟩
  rw [Ziz];have:=Rat.mul_nonneg (a:=(d:Rat)) (b:=t-x) (by grind) (by grind);grind
theorem Away.sq(s t:Rat):Away s t (Zw [1,0,1]):=⟨1,by decide,fun x _ _=>by
 left
 show(1:Rat)≤((1:Int):Rat)+x*(((0:Int):Rat)+x*(((1:Int):Rat)+x*0))
 have:0≤x*x:=by
  rcases(show 0≤x∨x<0 by grind)with h | h
  ·exact Rat.mul_nonneg h h
  ·have:=Rat.mul_nonneg (a:=-x) (b:=-x) (by grind) (by grind);grind
 push_cast;grind⟩
theorem Away.one(s t:Rat):Away s t (Zw [1]):=⟨1,by decide,fun x _ _=>by left;rw [Nu];exact Rat.le_refl⟩
def cntP(P:Int→Prop)[DecidablePred P](m:Int):Nat→Int
 | 0=>0
 | n+1=>cntP P m n+(if P (m+n+1)then 1 else 0)
def eB(K C:Nat):Nat→Nat
 | 0=>0
 | n+1=>C+K*eB K C n
def eL(K C:Nat):Nat→Nat
 | 0=>0
 | n+1=>K*eL K C n+eB K C n
def eM(K C:Nat):Nat→Nat
 | 0=>0
 | n+1=>eL K C n+K*eM K C n
theorem Fr{a b:Nat}(h:a≤b):(a:Rat)≤(b:Rat):=by exact_mod_cast h
theorem Yct{c:Int}{C:Nat}(h:c.natAbs≤C):-(C:Rat)≤(c:Rat)∧(c:Rat)≤(C:Rat):=by
 have h1:((-(C:Int):Int):Rat)≤(c:Rat):=by exact_mod_cast (show -(C:Int)≤c by omega)
 have h2:(c:Rat)≤(((C:Nat):Int):Rat):=by exact_mod_cast (show c≤(C:Int) by omega)
 push_cast at h1 h2
 constructor<;>grind
theorem Zpn{c:Int}{p:List Int}{C:Nat}(h:∀i,(cf (c :: p) i).natAbs≤C):c.natAbs≤C∧∀i,(cf p i).natAbs≤C:=⟨h 0,fun i=>h (i+1)⟩
theorem Zn4{K C:Nat} : ∀(n:Nat) (p:List Int),p.length≤n→(∀i,(cf p i).natAbs≤C)→∀x:Rat,-(K:Rat)≤x→x≤(K:Rat)→-(eB K C n:Rat)≤Zw p x∧Zw p x≤(eB K C n:Rat)
 | n,[],_,_,x,_,_=>by
  have h:(0:Rat)≤(eB K C n:Rat):=Fr (Nat.zero_le _)
  show -(eB K C n:Rat)≤0∧(0:Rat)≤(eB K C n:Rat)
  constructor<;>grind
 | 0,c :: p,hl,_,_,_,_=>absurd hl (by simp)
 | n+1,c :: p,hl,hc,x,h1,h2=>by
  obtain⟨hc0,hc1⟩:=Zpn hc
  obtain⟨a1,a2⟩:=Zn4 n p (by simpa using hl) hc1 x h1 h2
  obtain⟨b1,b2⟩:=Yct hc0
  have hK:(0:Rat)≤(K:Rat):=Fr (Nat.zero_le _)
  obtain⟨f1,f2⟩:=Zcg h1 h2 a1 a2 hK
  have e:((eB K C (n+1):Nat):Rat)=(C:Rat)+(K:Rat)*(eB K C n:Rat):=by show((C+K*eB K C n:Nat):Rat)=_;push_cast;rfl
  rw [e,show Zw (c :: p) x=(c:Rat)+x*Zw p x from rfl]
  constructor<;>grind
theorem Zn3{K C:Nat} : ∀(n:Nat) (p:List Int),p.length≤n→(∀i,(cf p i).natAbs≤C)→Lip (-(K:Rat)) (K:Rat) (eL K C n:Rat) (Zw p)
 | n,[],_,_,x,y,_,hxy,_=>by
  have h:(0:Rat)≤(eL K C n:Rat):=Fr (Nat.zero_le _)
  have:=Rat.mul_nonneg (a:=(eL K C n:Rat)) (b:=y-x) h (by grind)
  show(0:Rat)-0≤_∧(0:Rat)-0≤_
  constructor<;>grind
 | 0,c :: p,hl,_,_,_,_,_,_=>absurd hl (by simp)
 | n+1,c :: p,hl,hc,x,y,h1,hxy,h2=>by
  obtain⟨hc0,hc1⟩:=Zpn hc
  obtain⟨a1,a2⟩:=Zn3 n p (by simpa using hl) hc1 x y h1 hxy h2
  obtain⟨b1,b2⟩:=Zn4 n p (by simpa using hl) hc1 y (by grind) h2
  have hK:(0:Rat)≤(K:Rat):=Fr (Nat.zero_le _)
  obtain⟨f1,f2⟩:=Zcg (q:=x) (g:=Zw p x-Zw p y) (e:=(eL K C n:Rat)*(y-x)) h1 (by grind) (by grind) (by grind) hK
  have g1:=Rat.mul_nonneg (a:=(eB K C n:Rat)-Zw p y) (b:=y-x) (by grind) (by grind)
  have g2:=Rat.mul_nonneg (a:=(eB K C n:Rat)+Zw p y) (b:=y-x) (by grind) (by grind)
  have e:((eL K C (n+1):Nat):Rat)=(K:Rat)*(eL K C n:Rat)+(eB K C n:Rat):=by show((K*eL K C n+eB K C n:Nat):Rat)=_;push_cast;rfl
  rw [e,show Zw (c :: p) x=(c:Rat)+x*Zw p x from rfl,show Zw (c :: p) y=(c:Rat)+y*Zw p y from rfl]
  constructor<;>grind
theorem Zz7{K C:Nat} : ∀(n:Nat) (p:List Int),p.length≤n→(∀i,(cf p i).natAbs≤C)→Tay (-(K:Rat)) (K:Rat) (eM K C n:Rat) p
 | n,[],_,_,x,y,_,hxy,_=>by
  have h:(0:Rat)≤(eM K C n:Rat):=Fr (Nat.zero_le _)
  have h1:=Rat.mul_nonneg (a:=y-x) (b:=y-x) (by grind) (by grind)
  have:=Rat.mul_nonneg h h1
  show -((eM K C n:Rat)*(y-x)*(y-x))≤(0:Rat)-0-(y-x)*0∧(0:Rat)-0-(y-x)*0≤(eM K C n:Rat)*(y-x)*(y-x)
  constructor<;>grind
 | 0,c :: p,hl,_,_,_,_,_,_=>absurd hl (by simp)
 | n+1,c :: p,hl,hc,x,y,hs,hxy,ht=>by
  obtain⟨hc0,hc1⟩:=Zpn hc
  obtain⟨a1,a2⟩:=Zz7 n p (by simpa using hl) hc1 x y hs hxy ht
  obtain⟨b1,b2⟩:=Zn3 n p (by simpa using hl) hc1 x y hs hxy ht
  have hK:(0:Rat)≤(K:Rat):=Fr (Nat.zero_le _)
  have hd:0≤y-x:=by grind
  obtain⟨f1,f2⟩:=Zcg (q:=x) (Q:=(K:Rat)) (g:=Zw p y-Zw p x-(y-x)*Zw (ld p) x) (e:=(eM K C n:Rat)*(y-x)*(y-x)) hs (by grind) a1 a2 hK
  have g1:=Rat.mul_nonneg (a:=y-x) (b:=(eL K C n:Rat)*(y-x)-(Zw p y-Zw p x)) hd (by grind)
  have g2:=Rat.mul_nonneg (a:=y-x) (b:=(eL K C n:Rat)*(y-x)+(Zw p y-Zw p x)) hd (by grind)
  have e:((eM K C (n+1):Nat):Rat)=(eL K C n:Rat)+(K:Rat)*(eM K C n:Rat):=by show((eL K C n+K*eM K C n:Nat):Rat)=_;push_cast;rfl
  rw [e,Zgc,show Zw (c :: p) y=(c:Rat)+y*Zw p y from rfl,show Zw (c :: p) x=(c:Rat)+x*Zw p x from rfl]
  constructor<;>grind
theorem Ztz{a b:List Int}{A:Nat}(ha:Tr a)(hb:Tr b)(la:2≤a.length)(lb:b.length+1=a.length)(hA:0<A)(na:∀i,(cf a i).natAbs≤A)(nb:∀i,(cf b i).natAbs≤A)(hc:∀q,Tr q→Ed q a→Ed q b→q.length≤1) :
  ∃(U V:List Int) (c:Int),c≠0∧U.length+2=a.length∧V.length+1=a.length∧(∀i,(cf U i).natAbs≤(2*(2*a.length-3)*A)^(2*a.length-4))∧(∀i,(cf V i).natAbs≤(2*(2*a.length-3)*A)^(2*a.length-4))∧
   ∀x,(c:Rat)=Zw U x*Zw a x+Zw V x*Zw b x:=by
 obtain⟨U,V,lU,lV,hne,bU,bV,hz⟩:=Zh5 (a:=a) (b:=b) (p:=a.length-2) (q:=a.length-1) (lo:=1) hA na nb (by omega) (by omega) (by omega)
 have hne2:¬(tzl U=[]∧tzl V=[]):=fun⟨h1,h2⟩=>by
  rcases hne with⟨i,hi⟩ | ⟨i,hi⟩
  ·exact hi ((Ij U).1 h1 i)
  ·exact hi ((Ij V).1 h2 i)
 clear hne
 rw [show a.length-2+(a.length-1)=2*a.length-3 by omega]at bU bV
 rw [show 2*a.length-3-1=2*a.length-4 by omega]at bU bV
 have ha0:a≠[]:=fun e=>by rw [e]at la;simp at la
 have cR:∀i,cf (Kq (Nc U a) (Nc V b)) i=(ps U*ps a).c i+(ps V*ps b).c i:=fun i=>by
  rw [Hb,Df,Df,PS.mul_c,PS.mul_c];rfl
 have rR:∀t,Zw (Kq (Nc U a) (Nc V b)) t=Zw U t*Zw a t+Zw V t*Zw b t:=fun t=>by rw [Pe,Xn,Xn]
 generalize Kq (Nc U a) (Nc V b)=R at cR rR
 have hR:∀t,Zw R t=(cf R 0:Rat):=fun t=>by
  rw [←Nu (cf R 0) t]
  refine Kh t _ _ fun i=>?_
  match i with
  | 0=>rfl
  | i+1=>rw [cR,hz (i+1) (by omega),Qe (by simp)]
 refine⟨U,V,cf R 0,fun h0=>?_,by omega,by omega,bU,bV,fun x=>by rw [←rR,hR]⟩
 have hz0:∀t,Zw U t*Zw a t+Zw V t*Zw b t=0:=fun t=>by rw [←rR,hR,h0];rfl
 obtain⟨g,P,Q,g1,g2,g3,g4⟩:=Zlj _ a b ha hb (Nat.le_refl _)
 have hl:=hc g g1 g2 g3
 have hg:=(g2.len g1 ha ha0).1
 have hV:tzl V=[]:=by
  refine Classical.byContradiction fun hV=>?_
  match g,hg,hl,g1,g4 with
  | [c],_,_,g1,g4=>
   have hc0:c≠0:=g1.mem (by simp)
   have hd:Ed a (tzl V):=⟨c,Kq (Nc P V) ((Nc Q U).map fun z=>(-1)*z),hc0,fun x=>by
    have h4:=g4 x
    rw [Nu]at h4
    rw [Kl,Pe,Yq,Xn,Xn,h4]
    have:=hz0 x
    have e:Zw V x*Zw b x=- (Zw U x*Zw a x):=by grind
    have:(Zw P x*Zw a x+Zw Q x*Zw b x)*Zw V x=Zw P x*Zw V x*Zw a x+Zw Q x*(Zw V x*Zw b x):=by grind
    rw [this,e];push_cast;grind⟩
   have:=(hd.len ha (Nr V) hV).2
   have:=Hc V
   omega
  | c :: d :: r,_,h9,_,_=>simp at h9
 have hU:tzl U=[]:=by
  refine Classical.byContradiction fun hU=>?_
  have:∀t,Zw a t=0:=Ey (v:=U) hU fun t=>by
   have:=hz0 t
   rw [Aw hV]at this
   grind
  exact ha.mem ha0 (Zu6 this _)
 exact hne2 ⟨hU,hV⟩
def Zu0(K A n e:Nat):Bool:=
 let X:=(2*(2*n-3)*A)^(2*n-4)
 let W:=eB K X (n-1)
 Nat.ble (2*(2*W+1)*(2*eL K A n)) (2^e) && Nat.ble (2*(2*W+1)*eM K A n) (2^e)
theorem big_or {a b:List Int} {K A n e:Nat} (hK:0<K) (hA:0<A) (ha:Tr a) (hb:Tr b) (hn:a.length=n) (h2:2≤n) (lb:b.length+1=a.length) (na:∀i,(cf a i).natAbs≤A) (nb:∀i,(cf b i).natAbs≤A) (hc:∀q,Tr q→Ed q a→Ed q b→q.length≤1)
  (x:Rat) (h1:-(K:Rat)≤x) (h3:x≤(K:Rat)):Big (1/((2*eB K ((2*(2*n-3)*A)^(2*n-4)) (n-1)+1:Nat):Rat)) x (Zw a)∨Big (1/((2*eB K ((2*(2*n-3)*A)^(2*n-4)) (n-1)+1:Nat):Rat)) x (Zw b):=by
 obtain⟨U,V,c,c0,lU,lV,bU,bV,hid⟩:=Ztz ha hb (by omega) lb hA na nb hc
 rw [hn]at bU bV
 generalize (2*(2*n-3)*A)^(2*n-4)=X at *
 obtain⟨u1,u2⟩:=Zn4 (n-1) U (by omega) bU x h1 h3
 obtain⟨v1,v2⟩:=Zn4 (n-1) V (by omega) bV x h1 h3
 generalize eB K X (n-1)=W at *
 have hW:(0:Rat)≤(W:Rat):=Fr (Nat.zero_le _)
 have hD:(0:Rat)<((2*W+1:Nat):Rat):=by
   have:(((0:Nat)):Rat)<((2*W+1:Nat):Rat):=by exact_mod_cast Nat.succ_pos _
   exact this
 have hDe:((2*W+1:Nat):Rat)=2*(W:Rat)+1:=by push_cast;rfl
 generalize hε:1/((2*W+1:Nat):Rat)=ε
 have hε2:ε*(2*(W:Rat)+1)=1:=by rw [←hε,hDe];rw [hDe]at hD;grind
 have hε0:0≤ε:=by
  rw [←hε]
  have:=Rat.inv_pos.2 hD
  rw [Rat.div_def];grind
 by_cases p1:Big ε x (Zw a)
 ·exact .inl p1
 ·by_cases p2:Big ε x (Zw b)
  ·exact .inr p2
  ·exfalso
   obtain⟨a1,a2⟩:=Zd9 p1
   obtain⟨b1,b2⟩:=Zd9 p2
   obtain⟨q1,q2⟩:=Zcg u1 u2 a1 a2 hW
   obtain⟨r1,r2⟩:=Zcg v1 v2 b1 b2 hW
   have h4:=hid x
   have h5:(c:Rat)≤-1∨1≤(c:Rat):=by
    rcases Int.lt_or_gt_of_ne c0 with h | h
    ·left;have:((c:Int):Rat)≤((-1:Int):Rat):=by exact_mod_cast (show c≤-1 by omega)
     rwa [show(((-1:Int)):Rat)=-1 from rfl]at this
    ·right;have:1≤c:=by omega
     exact_mod_cast this
   have hεp:0<ε:=by
    rcases(show ε=0∨0<ε by grind)with h | h
    ·rw [h]at hε2;grind
    ·exact h
   rcases h5 with h5 | h5<;>grind
theorem two_pow_pos(e:Nat):(0:Rat)<((2^e:Nat):Rat):=by
 have:0<2^e:=Nat.pow_pos (by decide)
 exact_mod_cast this
theorem Yfx {xs:List Int} {F K A n e:Nat} (hx:Tr xs) (h0:xs≠[]) (hC:Ar F xs) (hK:0<K) (hA:0<A) (hn:(sqf F xs).length=n) (h2:2≤n) (na:∀i,(cf (sqf F xs) i).natAbs≤A) (nb:∀i,(cf (Qi (sqf F xs)) i).natAbs≤A) (hs:Zu0 K A n e=true)
  {u v:Rat} (h1:-(K:Rat)≤u) (huv:u≤v) (h3:v≤(K:Rat)) (hh:v-u≤1/((2^e:Nat):Rat)) :
  vat ((chn F xs).map Zw) u-vat ((chn F xs).map Zw) v=crs (Zw (sqf F xs)) u v:=by
 have hok:=hC.1.2.2.1
 obtain⟨f1,f2,f3,f4,f5,f6⟩:=Mi (F:=F) hx h0 hok
 have htp:=Mz f2
 have hlp:=Nv (sqf F xs)
 have hd:Qi (sqf F xs)≠[]:=fun e=>by rw [e]at hlp;simp at hlp;omega
 have hpc:1≤Ql (Qi (sqf F xs)):=by
  have h1:=Af htp hd
  have h2:=Lt (Qi (sqf F xs))
  omega
 have hpc':(1:Rat)≤(Ql (Qi (sqf F xs)):Rat):=by exact_mod_cast hpc
 have nbp:∀i,(cf (Xf (Qi (sqf F xs))) i).natAbs≤A:=fun i=>by
  have h5:=Eh (Qi (sqf F xs)) i
  have h6:=nb i
  rw [←h5,Int.natAbs_mul]at h6
  have:(cf (Xf (Qi (sqf F xs))) i).natAbs*1≤(cf (Xf (Qi (sqf F xs))) i).natAbs*(Ql (Qi (sqf F xs))).natAbs:=Nat.mul_le_mul_left _ (by omega)
  omega
 have hcop:∀q,Tr q→Ed q (sqf F xs)→Ed q (Xf (Qi (sqf F xs)))→q.length≤1:=fun q hq a b=>Zf2 hx h0 hok hq a (b.sim (Py htp))
 have hlb:(Xf (Qi (sqf F xs))).length+1=(sqf F xs).length:=by rw [Xd];omega
 have hbig:=big_or (e:=e) hK hA f2 (Qf htp) hn h2 hlb na nbp hcop
 unfold Zu0 at hs
 simp only [Bool.and_eq_true,Nat.ble_eq]at hs
 obtain⟨s1,s2⟩:=hs
 generalize (2*(2*n-3)*A)^(2*n-4)=X at *
 generalize eB K X (n-1)=W at *
 have hD:(0:Rat)<((2*W+1:Nat):Rat):=by
   have:(((0:Nat)):Rat)<((2*W+1:Nat):Rat):=by exact_mod_cast Nat.succ_pos _
   exact this
 have hP:=two_pow_pos e
 have s1':=Fr s1
 have s2':=Fr s2
 have c1:((2*(2*W+1)*(2*eL K A n):Nat):Rat)=2*((2*W+1:Nat):Rat)*(2*(eL K A n:Rat)):=by push_cast;rfl
 have c2:((2*(2*W+1)*eM K A n:Nat):Rat)=2*((2*W+1:Nat):Rat)*(eM K A n:Rat):=by push_cast;rfl
 rw [c1]at s1'
 rw [c2]at s2'
 have hi:=Rat.inv_pos.2 hD
 have hj:=Rat.inv_pos.2 hP
 have hii:((2*W+1:Nat):Rat)*((2*W+1:Nat):Rat)⁻¹=1:=by grind
 have hjj:((2^e:Nat):Rat)*((2^e:Nat):Rat)⁻¹=1:=by grind
 rw [Rat.div_def,Rat.one_mul]at hh
 simp only [Rat.div_def,Rat.one_mul]at hbig
 generalize ((2*W+1:Nat):Rat)=D at *
 generalize ((2^e:Nat):Rat)=P at *
 have hLn:(0:Rat)≤(eL K A n:Rat):=Fr (Nat.zero_le _)
 have hMn:(0:Rat)≤(eM K A n:Rat):=Fr (Nat.zero_le _)
 refine Zh4 (s:=-(K:Rat)) (t:=(K:Rat)) (κ:=(Ql (Qi (sqf F xs)):Rat)) (ε:=D⁻¹) (L:=(eL K A n:Rat)) (L':=(eL K A n:Rat)) (M:=(eM K A n:Rat)) (h:=P⁻¹) f2 (Qf htp) hC.2.2 (by grind) (fun x=>?_) hi hbig hLn (Zn3 n _ (by omega) na) hLn (Zn3 n _ (by omega) nbp) hMn (Zz7 n _ (by omega) na) hj ?_ ?_ h1 huv h3 hh
 ·rw [←Ha,←Yq]
  exact Kh x _ _ fun i=>by rw [Ok,Int.mul_comm,Eh]
 ·-- P⁻¹ * (2 L) ≤ D⁻¹ / 2
  have t1:=Rat.mul_nonneg (a:=P⁻¹*D⁻¹) (b:=P-2*D*(2*(eL K A n:Rat))) (by have:=Rat.mul_pos hj hi;grind) (by grind)
  have e1:P⁻¹*D⁻¹*(P-2*D*(2*(eL K A n:Rat)))=D⁻¹*(P*P⁻¹)-2*P⁻¹*(D*D⁻¹)*(2*(eL K A n:Rat)):=by grind
  rw [e1,hii,hjj]at t1
  grind
 ·have t1:=Rat.mul_nonneg (a:=P⁻¹*D⁻¹) (b:=P-2*D*(eM K A n:Rat)) (by have:=Rat.mul_pos hj hi;grind) (by grind)
  have e1:P⁻¹*D⁻¹*(P-2*D*(eM K A n:Rat))=D⁻¹*(P*P⁻¹)-2*P⁻¹*(D*D⁻¹)*(eM K A n:Rat):=by grind
  rw [e1,hii,hjj]at t1
  have t2:=Rat.mul_nonneg (a:=(Ql (Qi (sqf F xs)):Rat)-1) (b:=D⁻¹) (by grind) (by grind)
  grind
theorem Zlc{xs:List Int}{F:Nat}(hx:Tr xs)(h0:xs≠[])(hC:Ar F xs){s t:Rat}(hst:s≤t):vat ((chn F xs).map Zw) t≤vat ((chn F xs).map Zw) s:=by
 obtain⟨h,h1,h2⟩:=Zlb hx h0 hC s t
 have hc:∀f u v,0≤crs f u v:=fun f u v=>by unfold crs;split<;>decide
 have key:∀n:Nat,∀y,s≤y→y≤t→y-s≤(n:Rat)*h→vat ((chn F xs).map Zw) y≤vat ((chn F xs).map Zw) s:=fun n=>by
  induction n with
  | zero=>
    intro y h3 h4 h5;have:y=s:=by simp at h5;grind
    rw [this];exact Int.le_refl _
  | succ n ih=>
   intro y h3 h4 h5
   have h6:((n+1:Nat):Rat)*h=(n:Rat)*h+h:=by push_cast;grind
   rcases(show y-s≤(n:Rat)*h∨(n:Rat)*h<y-s by grind)with h7 | h7
   ·exact ih y h3 h4 h7
   ·have h8:(0:Rat)≤(n:Rat)*h:=Rat.mul_nonneg (by exact_mod_cast Nat.zero_le n) (by grind)
    rcases(show s≤y-h∨y-h<s by grind)with h9 | h9
    ·have a:=ih (y-h) h9 (by grind) (by grind)
     have b:=h2 (y-h) y h9 (by grind) h4 (by grind)
     have c:=hc (Zw (sqf F xs)) (y-h) y
     omega
    ·have b:=h2 s y (by grind) h3 h4 (by grind)
     have c:=hc (Zw (sqf F xs)) s y
     omega
 have h3:∃n:Nat,t-s≤(n:Rat)*h:=by
  have h4:0<h⁻¹:=Rat.inv_pos.2 h1
  refine⟨((t-s)*h⁻¹).ceil.toNat,?_⟩
  have h5:=@Rat.le_ceil ((t-s)*h⁻¹)
  have h6:((((t-s)*h⁻¹).ceil:Int):Rat)≤((((t-s)*h⁻¹).ceil.toNat:Nat):Rat):=by
   have:((t-s)*h⁻¹).ceil≤((((t-s)*h⁻¹).ceil.toNat:Nat):Int):=Int.self_le_toNat _
   exact_mod_cast this
  have h7:=Rat.mul_le_mul_of_nonneg_right (Rat.le_trans h5 h6) (show 0≤h by grind)
  have h8:(t-s)*h⁻¹*h=t-s:=by grind
  grind
 obtain⟨n,hn⟩:=h3
 exact key n t hst (by grind) hn
def qv(z:R2):Rat:=(z.1:Rat)/(z.2:Rat)
theorem Zsc{x y X Y g:Nat}(hg:g=Nat.gcd x y)(hy:0<y)(hY:0<Y)(h:x*Y=X*y):y/g∣Y∧x/g≤X:=by
 have hg0:0<g:=by rw [hg];exact Nat.gcd_pos_of_pos_right _ hy
 have hc:Nat.Coprime (x/g) (y/g):=by rw [hg];exact Nat.coprime_div_gcd_div_gcd (by rw [←hg];exact hg0)
 have hx':x/g*g=x:=Nat.div_mul_cancel (by rw [hg];exact Nat.gcd_dvd_left _ _)
 have hy':y/g*g=y:=Nat.div_mul_cancel (by rw [hg];exact Nat.gcd_dvd_right _ _)
 have h2:x/g*Y=X*(y/g):=by
  refine Nat.eq_of_mul_eq_mul_right hg0 ?_
  have e1:x/g*Y*g=x/g*g*Y:=by grind
  have e2:X*(y/g)*g=X*(y/g*g):=by grind
  rw [e1,e2,hx',hy',h]
 have hd:y/g∣Y:=hc.symm.dvd_of_dvd_mul_left (by rw [h2];exact Nat.dvd_mul_left _ _)
 refine⟨hd,?_⟩
 obtain⟨k,hk⟩:=hd
 have hk0:0<k:=Nat.pos_of_ne_zero fun e=>by rw [e,Nat.mul_zero]at hk;omega
 have hyg:0<y/g:=Nat.pos_of_ne_zero fun e=>by rw [e,Nat.zero_mul]at hy';omega
 rw [hk]at h2
 have h3:x/g*k=X:=by
  refine Nat.eq_of_mul_eq_mul_right hyg ?_
  have:x/g*k*(y/g)=x/g*(y/g*k):=by grind
  rw [this,h2]
 rw [←h3]
 exact Nat.le_mul_of_pos_right _ hk0
theorem Zoy{x y X Y:Int}(hy:0<y)(hY:0<Y)(h:x*Y=X*y){B:Nat}(hX:bl X.natAbs≤B)(hYb:bl Y.natAbs≤B)(hB:B≤65536) :
  ¬He x y∧Cn x y∣Y∧0<Cn x y∧bl (Bj x y).natAbs≤B∧bl (Cn x y).natAbs≤B∧Bj x y*y=x*Cn x y:=by
 have hg:Kw x y=(Nat.gcd x.natAbs y.natAbs:Int):=by rw [Yew (by omega)];rfl
 have hn:x.natAbs*Y.natAbs=X.natAbs*y.natAbs:=by rw [←Int.natAbs_mul,←Int.natAbs_mul,h]
 obtain⟨d1,d2⟩:=Zsc (g:=Nat.gcd x.natAbs y.natAbs) rfl (by omega:0<y.natAbs) (by omega:0<Y.natAbs) hn
 have e1:(y/Kw x y).natAbs=y.natAbs/Nat.gcd x.natAbs y.natAbs:=by
  rw [Int.natAbs_ediv_of_dvd (Zkq x y),Zc6]
 have e2:(x/Kw x y).natAbs=x.natAbs/Nat.gcd x.natAbs y.natAbs:=by
  rw [Int.natAbs_ediv_of_dvd (Zrh x y),Zc6]
 have b1:bl (y/Kw x y).natAbs≤B:=Nat.le_trans (Ny (by rw [e1];exact Nat.le_of_dvd (by omega) d1)) hYb
 have b2:bl (x/Kw x y).natAbs≤B:=Nat.le_trans (Ny (by rw [e2];exact d2)) hX
 have hf:¬He x y:=fun h=>by unfold He at h;omega
 obtain⟨n1,n2,-⟩:=Zfe hf
 refine⟨hf,?_,Ztk hf hy,by rw [n1];exact b2,by rw [n2];exact b1,?_⟩
 ·rw [n2]
  refine Int.natAbs_dvd_natAbs.1 ?_
  rw [e1];exact d1
 ·rw [n1,n2];exact Ybs x y
structure En (K Q:Nat) (d:Nat) (z:R2):Prop where
 pos:0<z.2
 dv:z.2∣((Q*2^d:Nat):Int)
 lo:-(K:Rat)≤qv z
 hi:qv z≤(K:Rat)
theorem En.up{K Q d:Nat}{z:R2}(h:En K Q d z):En K Q (d+1) z:=by
 obtain⟨h1,h2,h3,h4⟩:=h
 refine⟨h1,?_,h3,h4⟩
 have:((Q*2^(d+1):Nat):Int)=((Q*2^d:Nat):Int)*2:=by rw [Nat.pow_succ];push_cast;grind
 rw [this];exact Int.dvd_trans h2 (Int.dvd_mul_right _ _)
theorem canc{N p s Y X D:Int}(hp:p≠0)(h1:N*p=s*D)(h2:s*Y=X*p):N*Y=X*D:=by
 refine Int.eq_of_mul_eq_mul_right hp ?_
 have e1:N*Y*p=(N*p)*Y:=by grind
 have e2:X*D*p=(X*p)*D:=by grind
 rw [e1,e2,h1,←h2];grind
theorem Gt{z:Int}(h:0<z):(0:Rat)<(z:Rat):=by exact_mod_cast h
theorem Zdn{n m:Nat}(h:n<2^m):bl n≤m:=(Mo m n).2 h
theorem mid_en{K Q d B:Nat}{a b:R2}(ha:En K Q d a)(hb:En K Q d b)(hQ:0<Q)(hB1:Q*2^(d+1)<2^B)(hB2:2*K*(Q*2^d)<2^B)(hB:B≤65536) :
  Zeu a b∧En K Q (d+1) (Nd a b)∧qv (Nd a b)=(qv a+qv b)/2∧bl (Nd a b).1.natAbs≤B∧bl (Nd a b).2.natAbs≤B:=by
 obtain⟨pa,⟨ka,da⟩,la,ua⟩:=ha
 obtain⟨pb,⟨kb,db⟩,lb,ub⟩:=hb
 generalize hY:((Q*2^d:Nat):Int)=Y at *
 have hQd:0<Q*2^d:=Nat.mul_pos hQ (Nat.pow_pos (by decide))
 have hY0:0<Y:=by rw [←hY];exact_mod_cast hQd
 have rpa:=Gt pa
 have rpb:=Gt pb
 have rY:=Gt hY0
 have hpp:0<a.2*b.2:=Int.mul_pos pa pb
 have hsum:(a.1*b.2+b.1*a.2)*Y=(a.1*ka+b.1*kb)*(a.2*b.2):=by
  have e1:(a.1*ka+b.1*kb)*(a.2*b.2)=a.1*b.2*(a.2*ka)+b.1*a.2*(b.2*kb):=by grind
  rw [e1,←da,←db];grind
 have hqa:(a.1:Rat)*ka=qv a*Y:=by
  unfold qv;have:(Y:Rat)=(a.2:Rat)*ka:=by rw [da];push_cast;rfl
  rw [this];grind
 have hqb:(b.1:Rat)*kb=qv b*Y:=by
  unfold qv;have:(Y:Rat)=(b.2:Rat)*kb:=by rw [db];push_cast;rfl
  rw [this];grind
 have hX:((a.1*ka+b.1*kb:Int):Rat)=(qv a+qv b)*Y:=by push_cast;rw [hqa,hqb];grind
 have hXb:(a.1*ka+b.1*kb).natAbs≤2*K*(Q*2^d):=by
  have hKn:((2*K*(Q*2^d):Nat):Rat)=2*(K:Rat)*(Y:Rat):=by rw [←hY];push_cast;grind
  have t1:=Rat.mul_nonneg (a:=2*(K:Rat)-(qv a+qv b)) (b:=(Y:Rat)) (by grind) (by grind)
  have t2:=Rat.mul_nonneg (a:=2*(K:Rat)+(qv a+qv b)) (b:=(Y:Rat)) (by grind) (by grind)
  have u1:((a.1*ka+b.1*kb:Int):Rat)≤(((2*K*(Q*2^d):Nat):Int):Rat):=by rw [hX];push_cast at hKn ⊢;grind
  have u2:((-((2*K*(Q*2^d):Nat):Int):Int):Rat)≤((a.1*ka+b.1*kb:Int):Rat):=by rw [hX];push_cast at hKn ⊢;grind
  have v1:a.1*ka+b.1*kb≤((2*K*(Q*2^d):Nat):Int):=by exact_mod_cast u1
  have v2:-((2*K*(Q*2^d):Nat):Int)≤a.1*ka+b.1*kb:=by exact_mod_cast u2
  omega
 have hYb:Y.natAbs=Q*2^d:=by rw [←hY];rfl
 have hB3:Q*2^(d+1)=2*(Q*2^d):=by rw [Nat.pow_succ];grind
 have hbY:bl Y.natAbs≤B:=Zdn (by rw [hYb];omega)
 have hbX:bl (a.1*ka+b.1*kb).natAbs≤B:=Zdn (by omega)
 obtain⟨f1,f2,f3,f4,f5,f6⟩:=Zoy hpp hY0 hsum hbX hbY hB
 have hv1:=canc (Int.ne_of_gt hpp) f6 hsum
 have hbY2:bl (2*Y).natAbs≤B:=Zdn (by rw [Int.natAbs_mul,hYb];show 2*(Q*2^d)<_;omega)
 have hs2:Bj (a.1*b.2+b.1*a.2) (a.2*b.2)*1*(2*Y)=(a.1*ka+b.1*kb)*(Cn (a.1*b.2+b.1*a.2) (a.2*b.2)*2):=by
  rw [Int.mul_one]
  have e1:Bj (a.1*b.2+b.1*a.2) (a.2*b.2)*(2*Y)=2*(Bj (a.1*b.2+b.1*a.2) (a.2*b.2)*Y):=by grind
  rw [e1,hv1];grind
 have hp2:0<Cn (a.1*b.2+b.1*a.2) (a.2*b.2)*2:=by omega
 obtain⟨g1,g2,g3,g4,g5,g6⟩:=Zoy hp2 (by omega:0<2*Y) hs2 hbX hbY2 hB
 have hv2:=canc (Int.ne_of_gt hp2) g6 hs2
 have hm1:(Nd a b).1=Bj (Bj (a.1*b.2+b.1*a.2) (a.2*b.2)*1) (Cn (a.1*b.2+b.1*a.2) (a.2*b.2)*2):=rfl
 have hm2:(Nd a b).2=Cn (Bj (a.1*b.2+b.1*a.2) (a.2*b.2)*1) (Cn (a.1*b.2+b.1*a.2) (a.2*b.2)*2):=rfl
 rw [←hm1,←hm2]at hv2
 rw [←hm2]at g2 g3 g5
 rw [←hm1]at g4
 have hq:qv (Nd a b)=(qv a+qv b)/2:=by
  have h1:(((Nd a b).1:Int):Rat)*(2*(Y:Rat))=((a.1*ka+b.1*kb:Int):Rat)*(((Nd a b).2:Int):Rat):=by
   have:(((Nd a b).1*(2*Y):Int):Rat)=(((a.1*ka+b.1*kb)*(Nd a b).2:Int):Rat):=by rw [hv2]
   push_cast at this ⊢;grind
  rw [hX]at h1
  have rd:=Gt g3
  unfold qv at *
  generalize (((Nd a b).1:Int):Rat)=n at *
  generalize (((Nd a b).2:Int):Rat)=m at *
  generalize (a.1:Rat)/(a.2:Rat)=p at *
  generalize (b.1:Rat)/(b.2:Rat)=q at *
  generalize (Y:Rat)=y at *
  grind
 refine⟨⟨f1,g1⟩,⟨g3,?_,by rw [hq];grind,by rw [hq];grind⟩,hq,g4,g5⟩
 have e:((Q*2^(d+1):Nat):Int)=2*Y:=by rw [hB3,←hY];push_cast;rfl
 rw [e];exact g2
def vch(F:Nat)(xs:List Int)(x:Rat):Int:=vat ((chn F xs).map Zw) x
theorem cvc_v{F:Nat}{xs:List Int}{z:R2}(h:0<z.2):cvc F xs z=vch F xs (qv z):=Yfp h
def Sqn(P:R2→R2→Prop)(hi:Rat):Rat→List (R2×R2)→Prop
 | lo,[]=>lo≤hi
 | lo,c :: r=>lo≤qv c.1∧qv c.1<qv c.2∧P c.1 c.2∧Sqn P hi (qv c.2) r
theorem Sqn.le{P:R2→R2→Prop}{hi:Rat} : ∀{lo:Rat} {l:List (R2×R2)},Sqn P hi lo l→lo≤hi
 | lo,[],h=>h
 | lo,c :: r,h=>by have:=Sqn.le h.2.2.2;have:=h.1;have:=h.2.1;grind
theorem Zod{a:R2}{K:Nat}(ha:0<a.2)(h:a.1.natAbs≤K):-(K:Rat)≤qv a∧qv a≤(K:Rat):=by
 obtain⟨c1,c2⟩:=Yct h
 have ra:(1:Rat)≤(a.2:Rat):=by exact_mod_cast (show 1≤a.2 by omega)
 have hK:(0:Rat)≤(K:Rat):=Fr (Nat.zero_le _)
 have hi:=Rat.inv_pos.2 (show 0<(a.2:Rat) by grind)
 have hm:(a.2:Rat)*(a.2:Rat)⁻¹=1:=by grind
 unfold qv;rw [Rat.div_def]
 have t1:=Rat.mul_nonneg (a:=(a.2:Rat)⁻¹) (b:=(K:Rat)*a.2-a.1) (by grind) (by have:=Rat.mul_nonneg (a:=(K:Rat)) (b:=(a.2:Rat)-1) hK (by grind);grind)
 have t2:=Rat.mul_nonneg (a:=(a.2:Rat)⁻¹) (b:=(K:Rat)*a.2+a.1) (by grind) (by have:=Rat.mul_nonneg (a:=(K:Rat)) (b:=(a.2:Rat)-1) hK (by grind);grind)
 have e1:(a.2:Rat)⁻¹*((K:Rat)*a.2-a.1)=(K:Rat)*(a.2*(a.2:Rat)⁻¹)-a.1*(a.2:Rat)⁻¹:=by grind
 have e2:(a.2:Rat)⁻¹*((K:Rat)*a.2+a.1)=(K:Rat)*(a.2*(a.2:Rat)⁻¹)+a.1*(a.2:Rat)⁻¹:=by grind
 rw [e1,hm]at t1
 rw [e2,hm]at t2
 constructor<;>grind
theorem Zcq{a:R2}{n:Nat}(ha:0<a.2)(h1:bl a.1.natAbs≤n)(h2:bl a.2.natAbs≤n)(hn:n≤65536) :
  ¬He a.1 a.2∧0<(slow a).2∧bl (slow a).1.natAbs≤n∧bl (slow a).2.natAbs≤n∧qv (slow a)=qv a:=by
 obtain⟨f1,f2,f3,f4,f5,f6⟩:=Zoy (x:=a.1) (y:=a.2) (X:=a.1) (Y:=a.2) ha ha rfl h1 h2 hn
 refine⟨f1,f3,f4,f5,?_⟩
 have r1:=Gt ha
 have r2:=Gt f3
 have h6:((Bj a.1 a.2:Int):Rat)*(a.2:Rat)=(a.1:Rat)*((Cn a.1 a.2:Int):Rat):=by exact_mod_cast f6
 show((Bj a.1 a.2:Int):Rat)/((Cn a.1 a.2:Int):Rat)=(a.1:Rat)/(a.2:Rat)
 generalize ((Bj a.1 a.2:Int):Rat)=N at *
 generalize ((Cn a.1 a.2:Int):Rat)=D at *
 generalize (a.1:Rat)=x at *
 generalize (a.2:Rat)=y at *
 have:N/D*(D*y)=x/y*(D*y):=by
  have e1:N/D*(D*y)=N*y:=by grind
  have e2:x/y*(D*y)=x*D:=by grind
  rw [e1,e2,h6]
 have hp:=Rat.mul_pos r2 r1
 have e3:N/D=N/D*(D*y)*(D*y)⁻¹:=by grind
 have e4:x/y=x/y*(D*y)*(D*y)⁻¹:=by grind
 rw [e3,this,←e4]
theorem sep_of {xs:List Int} {F K A e:Nat} (hx:Tr xs) (h0:xs≠[]) (hC:Ar F xs) (hK:0<K) (hA:0<A) (na:∀i,(cf (sqf F xs) i).natAbs≤A) (nb:∀i,(cf (Qi (sqf F xs)) i).natAbs≤A)
  (hs:2≤(sqf F xs).length→Zu0 K A (sqf F xs).length e=true) (u v:Rat) (h1:-(K:Rat)≤u) (huv:u≤v) (h3:v≤(K:Rat)) (hh:v-u≤1/((2^e:Nat):Rat)):vch F xs u-vch F xs v≤1:=by
 by_cases h2:2≤(sqf F xs).length
 ·have h:=Yfx hx h0 hC hK hA rfl h2 na nb (hs h2) h1 huv h3 hh
  show vat _ u-vat _ v≤1
  rw [h];unfold crs;split<;>decide
 ·have hl:=Nv (sqf F xs)
  have hd:Qi (sqf F xs)=[]:=List.eq_nil_of_length_eq_zero (by omega)
  have hc:chn F xs=[sqf F xs]:=by unfold chn;rw [hd,Zxy,Dt]
  unfold vch vat
  rw [hc]
  have r1:=Zbh (([Zw (sqf F xs)]).map fun g=>Ev (g u))
  have r2:=Zbh (([Zw (sqf F xs)]).map fun g=>Ev (g v))
  simp only [List.map_cons,List.map_nil,List.length_cons,List.length_nil]at r1 r2 ⊢
  omega
open Go.RowKit (Below)
variable {P:Program} {N:Nat} {sc:Nat→Prop} {env env':Kr} {H H':Hp} {Q Q':Exit→Act→World→Prop} {M:Nat→Prop}
def CalM(P:Program)(f:FuncId)(args:Array Value)(pre:List Pc){G:Type}(φ:G→Prop)(Qm:G→Value)(it its:G→Pc):Prop:=
 ∀w,(∀p∈pre,p.holds w)→Calls P f args w fun e w'=>∃g,e= .returned (Qm g)∧φ g∧Below w.heap.size w w'∧(it g).holds w'∧(∀b,(it g).fp b→w.heap.size≤b)∧
  (its g).holds w'∧(its g).own=false∧(∀b,(its g).fp b→w.heap.size≤b∨∃q∈pre,q.fp b)∧∀b,(it g).fp b→(its g).fp b→False
def FPostM(P:Program)(fn:Func)(w0:World)(pre:List Pc){G:Type}(φ:G→Prop)(Qm:G→Value)(it its:G→Pc):Exit→Act→World→Prop:=
 bodyPost P fn fun e w'=>∃g,e= .returned (Qm g)∧φ g∧Below w0.heap.size w0 w'∧(it g).holds w'∧(∀b,(it g).fp b→w0.heap.size≤b)∧
  (its g).holds w'∧(its g).own=false∧(∀b,(its g).fp b→w0.heap.size≤b∨∃q∈pre,q.fp b)∧∀b,(it g).fp b→(its g).fp b→False
theorem Ycn {α:Type} {o:Oper} {x:Operand} {t:TypeId} {k i ii q:Nat} {v u0 u1 u2 u3:Value} {p:Pc} {enc:α→Value} {xs:List α} (d0:α) (ho:o.op= .load t x)
  (hx:ev env x=some (.pointer (some (eaf v i k q)))) (hH:lk H ii=some p) (hr:Rd p k enc v xs) (ha:∀w,(isAgg t).run P w= .ok true w) (hk:∀w,(sizeOf t).run P w= .ok 4 w)
  (h0:(enc (xs.getD i d0)).cells.toList[q]? = some u0) (h1:(enc (xs.getD i d0)).cells.toList[q+1]? = some u1) (h2:(enc (xs.getD i d0)).cells.toList[q+2]? = some u2) (h3:(enc (xs.getD i d0)).cells.toList[q+3]? = some u3) (hlt:i<xs.length:=by omega):Ia P N sc o env H (.agg #[u0,u1,u2,u3]):=fun a w hs=>by
 obtain⟨ad,c,rfl,_,_,h⟩:=hr w (hs.hold ii p hH)
 rcases h with rfl | ⟨g,off,rfl,h⟩
 ·simp at hlt
 ·have hi:xs[i]? = some (xs.getD i d0):=by simp [List.getD,List.getElem?_eq_getElem hlt]
  have hl:=run_loadCells_list (P:=P) w (eaf (.slice (some ⟨g,off,none⟩) xs.length c) i k q) [u0,u1,u2,u3] (fun n u hu=>by
   have e:(eaf (.slice (some ⟨g,off,none⟩) xs.length c) i k q).add n=(ead (.slice (some ⟨g,off,none⟩) xs.length c) i k).add (q+n):=by
    simp only [eaf,ead,Mv];congr 1;omega
   rw [e]
   have:(enc (xs.getD i d0)).cells.toList[q+n]? = some u:=by
    match n,hu with
    | 0,hu=>simp at hu;subst hu;exact h0
    | 1,hu=>simp at hu;subst hu;exact h1
    | 2,hu=>simp at hu;subst hu;exact h2
    | 3,hu=>simp at hu;subst hu;exact h3
    | n+4,hu=>simp at hu
   have:=h i _ hi (q+n) u this
   simp only [ead,Mv]
   exact this)
  rw [show [u0,u1,u2,u3].length=4 from rfl]at hl
  simp [execOp,ho,hs.ev hx,Instr.loadAt,Instr.sureAddr,loadVar,ha,hk,hl]
abbrev qD (z:SL×Nat):Pc:=Mw (svv z.1) z.2
abbrev JE:=(R2×R2)×(SL×SL×SL×SL)
abbrev encJ (y:JE):Value:= .agg #[.bool (decide (y.1.1.1<0)),svv y.2.1,.bool (decide (y.1.1.2<0)),svv y.2.2.1,.bool (decide (y.1.2.1<0)),svv y.2.2.2.1,.bool (decide (y.1.2.2<0)),svv y.2.2.2.2]
abbrev qJ (y:JE):Pc:=Dx qD [(y.2.1,y.1.1.1.natAbs),(y.2.2.1,y.1.1.2.natAbs),(y.2.2.2.1,y.1.2.1.natAbs),(y.2.2.2.2,y.1.2.2.natAbs)]
abbrev J0:JE:=(((0,0),(0,0)),((none,0,0),(none,0,0),(none,0,0),(none,0,0)))
end Go.Sky
namespace Go.Sky
theorem Sqn.mem{P:R2→R2→Prop}{hi:Rat} : ∀{lo:Rat} {l:List (R2×R2)},Sqn P hi lo l→∀c∈l,P c.1 c.2
 | _,[],_,c,hc=>by cases hc
 | lo,d :: r,h,c,hc=>by
  rcases List.mem_cons.1 hc with rfl | hc
  ·exact h.2.2.1
  ·exact Sqn.mem h.2.2.2 c hc
theorem en_bl{K Q d B:Nat}{z:R2}(h:En K Q d z)(hQ:0<Q)(h1:Q*2^d<2^B)(h2:K*(Q*2^d)<2^B):bl z.1.natAbs≤B∧bl z.2.natAbs≤B:=by
 obtain⟨hp,hd,hl,hu⟩:=h
 have hpos:0<Q*2^d:=Nat.mul_pos hQ (Nat.pow_pos (by decide))
 have hz2:z.2.natAbs≤Q*2^d:=by
  have:=Int.natAbs_dvd_natAbs.2 hd
  rw [Int.natAbs_natCast]at this
  exact Nat.le_of_dvd hpos this
 have hz1:z.1.natAbs≤K*z.2.natAbs:=by
  have r:=Gt hp
  have e:(z.1:Rat)=qv z*z.2:=by unfold qv;grind
  have t1:=Rat.mul_nonneg (a:=(K:Rat)-qv z) (b:=(z.2:Rat)) (by grind) (by grind)
  have t2:=Rat.mul_nonneg (a:=(K:Rat)+qv z) (b:=(z.2:Rat)) (by grind) (by grind)
  have hn:((K*z.2.natAbs:Nat):Int)=(K:Int)*z.2:=by push_cast;rw [Int.natAbs_of_nonneg (by omega)]
  have u1:((z.1:Int):Rat)≤(((K:Int)*z.2:Int):Rat):=by push_cast;grind
  have u2:((-((K:Int)*z.2):Int):Rat)≤((z.1:Int):Rat):=by push_cast;grind
  have v1:z.1≤(K:Int)*z.2:=by exact_mod_cast u1
  have v2:-((K:Int)*z.2)≤z.1:=by exact_mod_cast u2
  omega
 have hz3:K*z.2.natAbs≤K*(Q*2^d):=Nat.mul_le_mul_left _ hz2
 exact⟨Zdn (by omega),Zdn (by omega)⟩
theorem Ycc{n e w Q B:Nat}{z:R2}(h:En (2^n) Q (e+w) z)(hQ:0<Q)(hQ1:Q<2^(2*n))(hB:3*n+1+(e+w)≤B):bl z.1.natAbs≤B∧bl z.2.natAbs≤B:=by
 have hpow:∀m,m≤B→2^m≤2^B:=fun m h=>Nat.pow_le_pow_right (by decide) h
 have hPP:0<2^(e+w):=Nat.pow_pos (by decide)
 have h1:Q*2^(e+w)<2^(2*n)*2^(e+w):=Nat.mul_lt_mul_of_pos_right hQ1 hPP
 have h2:2^n*(Q*2^(e+w))<2^n*(2^(2*n)*2^(e+w)):=Nat.mul_lt_mul_of_pos_left h1 (Nat.pow_pos (by decide))
 have e1:2^(2*n)*2^(e+w)=2^(2*n+(e+w)):=(Nat.pow_add _ _ _).symm
 have e2:2^n*(2^(2*n)*2^(e+w))=2^(n+(2*n+(e+w))):=by rw [e1,←Nat.pow_add]
 rw [e1]at h1
 rw [e2]at h2
 exact en_bl h hQ (Nat.lt_of_lt_of_le h1 (hpow _ (by omega))) (Nat.lt_of_lt_of_le h2 (hpow _ (by omega)))
theorem Ed.const{g a:List Int}(h:Ed g a)(hg:Tr g)(ha:Tr a)(h0:a≠[])(hl:g.length=a.length):∃k c:Int,k≠0∧c≠0∧∀x:Rat,(k:Rat)*Zw a x=(c:Rat)*Zw g x:=by
 obtain⟨k,s,hk,h⟩:=h
 obtain⟨a1,a2,a3⟩:=Ztw hk hg ha h0 h
 have hl1:=List.length_pos_iff.2 a2
 match hs:tzl s,hl1,a3 with
 | [c],_,_=>
  have hc:c≠0:=by have:=(Nr s).mem a2;rw [hs]at this;exact this
  refine⟨k,c,hk,hc,fun x=>?_⟩
  rw [h x,←Kl s,hs,Nu]
 | c :: d :: r,_,h9=>simp at h9;omega
theorem Zj8(p:List Int)(c:Int)(x:Rat):Zw (Xw p c) x=(c:Rat)*Zw p x:=by
 rw [←Yq];exact Kh x _ _ fun i=>by rw [Qo,Ok,Int.mul_comm]
theorem Zms{p:List Int}{c:Int}(hp:Tr p)(h0:p≠[])(hc:c≠0):Xw p c≠[]:=fun e=>by
 have h1:=Qo p c (p.length-1)
 rw [e,Zca]at h1
 exact Int.mul_ne_zero (hp.mem h0) hc h1.symm
theorem Ed.dv{g a:List Int}(h:Ed g a):Dv g a:=by
 obtain⟨k,s,hk,h⟩:=h
 refine⟨k,s,hk,fun t=>?_⟩
 have:=Lr (p:=a.map fun c=>k*c) (q:=Ou s g) (fun x=>by rw [Yq,Xy];exact h x) t
 rw [Ok,Gx]at this
 exact this
theorem ed_cop{t u w s:List Int}{k:Int}(hk:k≠0)(ht:Tr t)(hw:Tr w)(t0:t≠[])(hc:∀d,Tr d→Ed d t→Ed d w→d.length≤1)(h:∀x:Rat,(k:Rat)*(Zw u x*Zw w x)=Zw s x*Zw t x):Ed t u:=by
 obtain⟨g,A,B,hg,g1,g2,hb⟩:=Zlj w.length t w ht hw (Nat.le_refl _)
 have hl:=hc g hg g1 g2
 have hgn:=(g1.len hg ht t0).1
 match hgg:g,hl,hgn with
 | [c],_,_=>
  have hc0:c≠0:=by have:=hg.mem (by simp);exact this
  refine⟨k*c,Kq ((Ou A u).map fun a=>k*a) (Ou B s),Int.mul_ne_zero hk hc0,fun x=>?_⟩
  rw [Pe,Yq,Xy,Xy]
  have h1:=hb x
  rw [Nu]at h1
  have h2:=h x
  push_cast
  rw [show(k:Rat)*c*Zw u x=k*(Zw u x*(c:Rat)) by grind,h1]
  have h3:(k:Rat)*(Zw u x*(Zw A x*Zw t x+Zw B x*Zw w x))=k*Zw A x*Zw u x*Zw t x+Zw B x*(k*(Zw u x*Zw w x)):=by grind
  rw [h3,h2];grind
 | c :: d :: r,h9,_=>simp at h9
def Nw(F:Nat)(p:List Int):List Int:=Ms F (Qj p) (Qi (Qj p))
def Ez(F:Nat)(p:List Int):Prop:=eok F (gA (Qj p) (Qi (Qj p))) (gB (Qj p) (Qi (Qj p)))
theorem Nb{F:Nat}{p:List Int}(hp:Tr p)(h0:p≠[])(hok:Ez F p):Tr (Nw F p)∧Nw F p≠[]∧Qj (Nw F p)=Nw F p∧Qj p=Ou (sqf F p) (Nw F p)∧(sqf F p).length+(Nw F p).length=p.length+1:=by
 obtain⟨f1,f2,f3,f4,f5,f6⟩:=Mi (F:=F) hp h0 hok
 have ht:Tr (Qj p):=Mp (Qf hp)
 have hd:Tr (Qi (Qj p)):=Mz ht
 have hg:=Zdt (F:=F) ht hd
 have hl:=Nz f2 hg f3 f5
 rw [←f4,Ng hp]at hl
 have l1:=List.length_pos_iff.2 f3
 have l2:=List.length_pos_iff.2 f5
 refine⟨hg,f5,Ztj hg (Zkg ht hd f5) (Ai (Zk4 F (Zh2 ht hd) (Zh1 ht hd)) (fun e=>f5 (by unfold Ms;rw [e];rfl))),f4,?_⟩
 unfold Nw;omega
theorem Yd4{a b h:List Int}(hh:Tr h)(h0:h≠[]){k m:Int}(e:∀x:Rat,(k:Rat)*(Zw a x*Zw h x)=(m:Rat)*(Zw b x*Zw h x))(x:Rat):(k:Rat)*Zw a x=(m:Rat)*Zw b x:=by
 have hz:=Ey (v:=h) (f:=Kq (a.map fun c=>k*c) (b.map fun c=>(-m)*c)) (by rw [Zbq hh];exact h0) (fun x=>by
  rw [Pe,Yq,Yq];have:=e x;push_cast;grind) x
 rw [Pe,Yq,Yq]at hz
 push_cast at hz;grind
theorem Zvl{F:Nat}{p:List Int}(hp:Tr p)(h0:p≠[])(hok:Ez F p)(hok2:Ez F (Nw F p)):Ed (sqf F (Nw F p)) (sqf F p):=by
 obtain⟨a1,a2,a3,a4,a5⟩:=Nb hp h0 hok
 obtain⟨b1,b2,b3,b4,b5⟩:=Nb a1 a2 hok2
 obtain⟨-,u2,u3,-,-,-⟩:=Mi (F:=F) hp h0 hok
 obtain⟨-,t2,t3,-,-,-⟩:=Mi (F:=F) a1 a2 hok2
 have ht:Tr (Qj p):=Mp (Qf hp)
 have e1:Ed (Nw F p) (Qi (Qj p)):=(Zd6 ht (Mz ht) hok).2.ed
 have e2:Ed (Nw F (Nw F p)) (Qi (Nw F p)):=by
  have:=(Zd6 (F:=F) (p:=Qj (Nw F p)) (q:=Qi (Qj (Nw F p))) (by rw [a3];exact a1) (Mz (by rw [a3];exact a1)) hok2).2.ed
  have h9:Nw F (Nw F p)=Ms F (Qj (Nw F p)) (Qi (Qj (Nw F p))):=rfl
  rw [←h9,a3]at this
  exact this
 have hgr:∀d,Tr d→Ed d (Nw F p)→Ed d (Qi (Nw F p))→Ed d (Nw F (Nw F p)):=fun d hd h1 h2=>by
  unfold Nw at *
  have:=Zke (F:=F) (d:=d) (p:=Qj (Ms F (Qj p) (Qi (Qj p)))) (q:=Qi (Qj (Ms F (Qj p) (Qi (Qj p))))) (by rw [a3];exact a1) (Mz (by rw [a3];exact a1)) (by rw [a3];exact h1) (by rw [a3];exact h2)
  exact this
 rw [a3]at b4
 generalize hg:Nw F p=g at *
 generalize hh:Nw F g=h at *
 generalize hu:sqf F p=u at *
 generalize htt:sqf F g=t at *
 obtain⟨k,s,hk,hks⟩:=e1
 obtain⟨m,w,hm,hmw⟩:=e2
 have hP:∀x:Rat,Zw (Qj p) x=Zw (Nc u g) x:=fun x=>by rw [a4,Xy,Xn]
 have hG:∀x:Rat,Zw g x=Zw (Nc t h) x:=fun x=>by
  have:Zw g x=Zw (Ou t h) x:=by rw [←b4]
  rw [this,Xy,Xn]
 have hd1:∀x:Rat,Zw (Qi (Qj p)) x=Zw (ld u) x*Zw g x+Zw u x*Zw (ld g) x:=fun x=>by rw [Ha,Co hP,Bl]
 have hd2:∀x:Rat,(m:Rat)*Zw (ld g) x=Zw w x*Zw h x:=fun x=>by rw [←Ha];exact hmw x
 have key:∀x:Rat,(k:Rat)*(Zw (Ou u w) x*Zw h x)=(m:Rat)*(Zw (Ou (Kq s ((ld u).map fun c=>(-k)*c)) t) x*Zw h x):=fun x=>by
  rw [Xy,Xy,Pe,Yq]
  have h1:=hks x;have h2:=hd1 x;have h3:=hd2 x;have h4:=hG x
  rw [Xn]at h4
  rw [h2]at h1
  have:(k:Rat)*(Zw u x*Zw w x*Zw h x)=Zw u x*k*(Zw w x*Zw h x):=by grind
  rw [this,←h3]
  push_cast
  have:Zw u x*(k:Rat)*(m*Zw (ld g) x)=m*(k*(Zw (ld u) x*Zw g x+Zw u x*Zw (ld g) x)-k*Zw (ld u) x*Zw g x):=by grind
  rw [this,h1,h4];grind
 have key2:=Yd4 b1 b2 key
 refine ed_cop (s:=(Ou (Kq s ((ld u).map fun c=>(-k)*c)) [m])) hk t2 (w:=tzl w) (Nr w) t3 (fun d hd h1 h2=>?_) (fun x=>?_)
 ·have h2':Ed d w:=h2.congr fun x=>Kl w x
  have hdh:Ed (Ou d h) h:=hgr _ (Om _ _) (by
   obtain⟨k1,s1,hk1,e1⟩:=h1
   exact⟨k1,s1,hk1,fun x=>by rw [hG x,Xn,Xy];have:=e1 x;grind⟩) (by
   obtain⟨k1,s1,hk1,e1⟩:=h2'
   exact⟨k1*m,s1,Int.mul_ne_zero hk1 hm,fun x=>by rw [Ha,Xy];have:=e1 x;have:=hd2 x;push_cast;grind⟩)
  have d0:=(h1.len hd t2 t3).1
  have hl:=Nz hd b1 d0 b2
  have:=(hdh.len (Om _ _) b1 b2).2
  have l2:=List.length_pos_iff.2 b2
  omega
 ·rw [Kl,Xy,Nu]
  have:=key2 x
  rw [Xy,Xy]at this
  rw [this];grind
end Go.Sky

