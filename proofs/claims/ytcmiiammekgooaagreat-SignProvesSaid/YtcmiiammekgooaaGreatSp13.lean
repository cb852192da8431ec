/- Rules, arithmetic and contracts: part 14. No conditions but those that each theorem names. -/
import Derived.Test.YtcmiiammekgooaaGreatSp12
set_option linter.all false
namespace Go.Sky
theorem Zie(x:Rat):Dd x=-1↔x<0:=by
 unfold Dd
 by_cases h:x<0
 ·rw [if_pos h];simp [h]
 ·rw [if_neg h]
  by_cases h2:x=0
  ·rw [if_pos h2];simp [h]
  ·rw [if_neg h2];simp [h]
theorem Yad(x:Rat):Dd (-x)=- Dd x:=by
 unfold Dd
 by_cases h:x<0
 ·rw [if_pos h,if_neg (by grind),if_neg (by grind)];rfl
 ·rw [if_neg h]
  by_cases h2:x=0
  ·rw [if_pos h2,if_neg (by grind),if_pos (by grind)];rfl
  ·rw [if_neg h2,if_pos (by grind)]
theorem Zmi{f g:Rat→Rat}(r:List (Rat→Rat)){x:Rat}(h:Dd (g x)≠0):vat (f :: g :: r) x=vat (g :: r) x+(if Dd (f x)=- Dd (g x)then 1 else 0):=by
 unfold vat
 simp only [List.map_cons]
 exact Ygi _ h
def Tay(s t M:Rat)(p:List Int):Prop:=∀x y,s≤x→x≤y→y≤t→-(M*(y-x)*(y-x))≤Zu p y-Zu p x-(y-x)*Zu (ld p) x∧Zu p y-Zu p x-(y-x)*Zu (ld p) x≤M*(y-x)*(y-x)
theorem Zia {s t:Rat} {f:Nat} {a b:List Int} (ha:Tr a) (hb:Tr b) (hok:cok f a b) {κ:Rat} (hκ:0<κ) (hder:∀x,Zu (ld a) x=κ*Zu b x)
  {ε L L' M h:Rat} (e1:0<ε) (e2:∀x,s≤x→x≤t→Big ε x (Zu a)∨Big ε x (Zu b)) (l1:0≤L) (l2:Lip s t L (Zu a)) (l1':0≤L') (l2':Lip s t L' (Zu b)) (m1:0≤M) (m2:Tay s t M a)
  (h5:0<h) (h3:h*(L+L')≤ε/2) (h7:h*M≤κ*ε/2) {u v:Rat} (hs:s≤u) (huv:u≤v) (ht:v≤t) (hh:v-u≤h) :
  vat ((Le f a b).map Zu) u-vat ((Le f a b).map Zu) v=crs (Zu a) u v:=by
 have hL:∀w,u≤w→w≤v→L*(w-u)≤ε/2∧L'*(w-u)≤ε/2:=fun w q1 q2=>by
  have p1:=Rat.mul_nonneg (a:=L) (b:=h-(w-u)) (by grind) (by grind)
  have p2:=Rat.mul_nonneg (a:=L') (b:=h-(w-u)) (by grind) (by grind)
  have p3:=Rat.mul_nonneg (a:=L) (b:=h) (by grind) (by grind)
  have p4:=Rat.mul_nonneg (a:=L') (b:=h) (by grind) (by grind)
  constructor<;>grind
 by_cases hba:Big ε u (Zu a)
 ·have hB:∀w,u≤w→w≤v→Big (ε/2) w (Zu a):=fun w q1 q2=>by
   obtain⟨x1,x2⟩:=l2 u w hs q1 (by grind)
   have:=hL w q1 q2
   exact hba.near (by grind) (by grind)
  rw [Zf8 ha hb hok huv (show 0<ε/2 by grind) hB]
  have hv:=hB v huv (by grind)
  have:crs (Zu a) u v=0:=by
   unfold crs
   refine if_neg fun⟨_,h9⟩=>?_
   obtain⟨x1,x2⟩:=l2 u v hs huv ht
   have hLv:=hL v huv (by grind)
   unfold Big at hba hv
   rcases hba with hp | hp
   ·have:0<Zu a v:=by grind
    have:=Rat.mul_pos (show 0<Zu a u by grind) this
    grind
   ·have:0 < - Zu a v:=by grind
    have:=Rat.mul_pos (show 0 < - Zu a u by grind) this
    grind
  omega
 ·have hbb:Big ε u (Zu b):=(e2 u hs (by grind)).resolve_left hba
  have hB:∀w,u≤w→w≤v→Big (ε/2) w (Zu b):=fun w q1 q2=>by
   obtain⟨x1,x2⟩:=l2' u w hs q1 (by grind)
   have:=hL w q1 q2
   exact hbb.near (by grind) (by grind)
  have hb0:b≠[]:=fun e=>by
   rw [e]at hbb;unfold Big at hbb
   have:Zu [] u=0:=rfl
   rw [this]at hbb;grind
  obtain⟨g,hg,hd,hle,hcg,hsc⟩:=Zg6 hok hb0
  have hT:=Zf8 hb (Zcy ha) hcg huv (show 0<ε/2 by grind) hB
  obtain⟨r,hr,_,_,_⟩:=Zmx (s:=u) (t:=v) g b (Lb a b) hb (Zcy ha) hcg
  rw [hsc,hr]
  rw [hr]at hT
  simp only [List.map_cons]at hT ⊢
  have hsg:∃σ:Rat,(σ=1∨σ=-1)∧ε<σ*Zu b u∧∀w,u≤w→w≤v→0<σ*Zu b w:=by
   unfold Big at hbb
   rcases hbb with hp | hp
   ·refine⟨1,.inl rfl,by grind,fun w q1 q2=>?_⟩
    obtain⟨x1,x2⟩:=l2' u w hs q1 (by grind)
    have:=hL w q1 q2
    grind
   ·refine⟨-1,.inr rfl,by grind,fun w q1 q2=>?_⟩
    obtain⟨x1,x2⟩:=l2' u w hs q1 (by grind)
    have:=hL w q1 q2
    grind
  obtain⟨σ,hσ,hbu,hbw⟩:=hsg
  have hmono:u<v→σ*Zu a u<σ*Zu a v:=fun hlt=>by
   obtain⟨y1,y2⟩:=m2 u v hs huv ht
   rw [hder u]at y1 y2
   have hd:0<v-u:=by grind
   have z1:M*(v-u)≤κ*ε/2:=by
    have:=Rat.mul_nonneg (a:=M) (b:=h-(v-u)) (by grind) (by grind)
    grind
   have z2:0<κ*(σ*Zu b u)-M*(v-u):=by
    have:=Rat.mul_pos hκ (show 0<σ*Zu b u-ε by grind)
    have:=Rat.mul_pos hκ e1
    grind
   have z3:=Rat.mul_pos hd z2
   rcases hσ with rfl | rfl<;>grind
  have hne:∀w,u≤w→w≤v→Dd (Zu b w)≠0:=fun w q1 q2=>by
   have:=hbw w q1 q2
   rcases hσ with rfl | rfl
   ·rw [Zaa (by grind)];decide
   ·rw [Zab (by grind)];decide
  rw [Zmi _ (hne u (by grind) huv),Zmi _ (hne v huv (by grind)),hT]
  have hite:∀w,u≤w→w≤v→(Dd (Zu a w)=- Dd (Zu b w)↔σ*Zu a w<0):=fun w q1 q2=>by
   have:=hbw w q1 q2
   rcases hσ with rfl | rfl
   ·rw [Zaa (x:=Zu b w) (by grind),Zie]
    constructor<;>intro<;>grind
   ·rw [Zab (x:=Zu b w) (by grind),show(-(-1:Int))=- -1 from rfl]
    have h9:=Zie (-(Zu a w))
    rw [Yad]at h9
    constructor
    ·intro h8
     have:=h9.1 (by omega)
     grind
    ·intro h8
     have:=h9.2 (by grind)
     omega
  rw [show(if Dd (Zu a u)=- Dd (Zu b u)then(1:Int)else 0)=if σ*Zu a u<0 then 1 else 0 from by simp only [hite u (by grind) huv]]
  rw [show(if Dd (Zu a v)=- Dd (Zu b v)then(1:Int)else 0)=if σ*Zu a v<0 then 1 else 0 from by simp only [hite v huv (by grind)]]
  have hcrs:crs (Zu a) u v=if σ*Zu a u<0∧¬σ*Zu a v<0 then 1 else 0:=by
   unfold crs
   have hpp:Zu a u*Zu a v=(σ*Zu a u)*(σ*Zu a v):=by rcases hσ with rfl | rfl<;>grind
   have hz:Zu a u≠0↔σ*Zu a u≠0:=by rcases hσ with rfl | rfl<;>constructor<;>intro h9 h8<;>exact h9 (by grind)
   have hiff:(Zu a u≠0∧Zu a u*Zu a v≤0)↔(σ*Zu a u<0∧¬σ*Zu a v<0):=by
    rw [hpp,hz]
    generalize hp:σ*Zu a u=p at *
    generalize hq:σ*Zu a v=q at *
    constructor
    ·intro ⟨n1,n2⟩
     rcases(show u<v∨u=v by grind)with hlt | heq
     ·have:=hmono hlt
      rcases(show p<0∨0<p by grind)with n3 | n3
      ·refine⟨n3,fun n4=>?_⟩
       have:=Rat.mul_pos (show 0 < -p by grind) (show 0 < -q by grind)
       grind
      ·have:=Rat.mul_pos n3 (show 0<q by grind)
       grind
     ·exfalso
      have:q=p:=by rw [←hp,←hq,heq]
      rw [this]at n2
      rcases(show p<0∨0<p by grind)with n3 | n3
      ·have:=Rat.mul_pos (show 0 < -p by grind) (show 0 < -p by grind)
       grind
      ·have:=Rat.mul_pos n3 n3
       grind
    ·intro ⟨n1,n2⟩
     refine⟨by grind,?_⟩
     have:=Rat.mul_nonneg (show 0≤-p by grind) (show 0≤q by grind)
     grind
   simp only [hiff]
  rw [hcrs]
  by_cases k1:σ*Zu a u<0<;>by_cases k2:σ*Zu a v<0
  ·simp [k1,k2]
  ·simp [k1,k2]
   omega
  ·exfalso
   rcases(show u<v∨u=v by grind)with hlt | heq
   ·have:=hmono hlt;grind
   ·rw [heq]at k1;exact k1 k2
  ·simp [k1,k2]
theorem Zj4{s t:Rat}{f:Nat}{a b:List Int}(ha:Tr a)(hb:Tr b)(h0:a≠[])(hok:cok f a b){κ:Rat}(hκ:0<κ)(hder:∀x,Zu (ld a) x=κ*Zu b x)(hc:∀q,Tr q→Ed q a→Ed q b→q.length≤1) :
  ∃h:Rat,0<h∧∀u v,s≤u→u≤v→v≤t→v-u≤h→vat ((Le f a b).map Zu) u-vat ((Le f a b).map Zu) v=crs (Zu a) u v:=by
 obtain⟨ε,e1,e2⟩:=Zww ha hb h0 hc s t
 obtain⟨L,l1,l2⟩:=Bq s t a
 obtain⟨L',l1',l2'⟩:=Bq s t b
 obtain⟨M,m1,m2⟩:=Zi8 s t a
 obtain⟨h1,h2,h3,h4⟩:=Gs (show(0:Rat)<1 by decide) (show 0<L+L' by grind) (show 0<ε/2 by grind)
 obtain⟨h,h5,h6,h7⟩:=Gs h2 m1 (show 0<κ*ε/2 by have:=Rat.mul_pos hκ e1;grind)
 refine⟨h,h5,fun u v hs huv ht hh=>Zia ha hb hok hκ hder e1 e2 (by grind) l2 (by grind) l2' (by grind) m2 h5 ?_ h7 hs huv ht hh⟩
 have:=Rat.mul_nonneg (a:=L+L') (b:=h1-h) (by grind) (by grind)
 grind
theorem Ycg:∀(n m:Nat) (f:Nat→Nat),(∀k,k<n→f k<m)→(∀a b,a<n→b<n→f a=f b→a=b)→n≤m
 | 0,_,_,_,_=>Nat.zero_le _
 | n+1,m,f,hf,hi=>by
  have h0:=hf n (by omega)
  have:=Ycg n (m-1) (fun k=>if f n<f k then f k-1 else f k) (fun k hk=>by
   have h1:=hf k (by omega)
   have h2:f k≠f n:=fun e=>by have:=hi k n (by omega) (by omega) e;omega
   split<;>omega) (fun a b ha hb e=>by
   have h2:f a≠f n:=fun e=>by have:=hi a n (by omega) (by omega) e;omega
   have h3:f b≠f n:=fun e=>by have:=hi b n (by omega) (by omega) e;omega
   refine hi a b (by omega) (by omega) ?_
   split at e<;>split at e<;>omega)
  omega
theorem php{n m:Nat}{f:Nat→Nat}(h:m<n)(hf:∀k,k<n→f k<m):∃a b,a<n∧b<n∧a≠b∧f a=f b:=by
 refine Classical.byContradiction fun h9=>?_
 have:=Ycg n m f hf fun a b ha hb e=>Classical.byContradiction fun h8=>h9 ⟨a,b,ha,hb,h8,e⟩
 omega
def enc(B:Nat)(d:Nat→Nat):Nat→Nat
 | 0=>0
 | n+1=>enc B d n+d n*B^n
theorem Zph{B:Nat}{d:Nat→Nat} : ∀n,(∀i,i<n→d i<B)→enc B d n<B^n
 | 0,_=>by simp [enc]
 | n+1,h=>by
  have h1:=Zph n fun i hi=>h i (by omega)
  have h2:=h n (by omega)
  have h3:(d n+1)*B^n≤B*B^n:=Nat.mul_le_mul_right _ h2
  rw [Nat.add_mul,Nat.one_mul]at h3
  rw [Nat.pow_succ,Nat.mul_comm (B^n) B]
  show enc B d n+d n*B^n<_
  omega
theorem Zwm{B:Nat}{d e:Nat→Nat} : ∀n,(∀i,i<n→d i<B)→(∀i,i<n→e i<B)→enc B d n=enc B e n→∀i,i<n→d i=e i
 | 0,_,_,_,i,hi=>absurd hi (Nat.not_lt_zero i)
 | n+1,h1,h2,h,i,hi=>by
  have a1:=Zph n fun i hi=>h1 i (by omega)
  have a2:=Zph n fun i hi=>h2 i (by omega)
  have h:enc B d n+d n*B^n=enc B e n+e n*B^n:=h
  have hp:0<B^n:=by omega
  have hd:d n=e n:=by
   have b1:(enc B d n+d n*B^n)/B^n=d n:=by rw [Nat.add_mul_div_right _ _ hp,Nat.div_eq_of_lt a1,Nat.zero_add]
   have b2:(enc B e n+e n*B^n)/B^n=e n:=by rw [Nat.add_mul_div_right _ _ hp,Nat.div_eq_of_lt a2,Nat.zero_add]
   rw [←b1,←b2,h]
  rcases Nat.lt_or_ge i n with h3 | h3
  ·exact Zwm n (fun i hi=>h1 i (by omega)) (fun i hi=>h2 i (by omega)) (by rw [hd]at h;omega) i h3
  ·rw [show i=n by omega];exact hd
def dig(B k j:Nat):Nat:=k/B^j%B
theorem Zpi(B k:Nat):∀n,enc B (dig B k) n=k%B^n
 | 0=>by simp [enc,Nat.mod_one]
 | n+1=>by
  show enc B (dig B k) n+dig B k n*B^n=_
  rw [Zpi B k n,Nat.pow_succ,Nat.mod_mul]
  unfold dig;rw [Nat.mul_comm]
theorem Zj3{f:Nat→Int}{C:Int} : ∀n,(∀i,i<n→-C≤f i∧f i≤C)→-((n:Int)*C)≤Qi f n∧Qi f n≤(n:Int)*C
 | 0,_=>by simp [Dx]
 | n+1,h=>by
  have h1:=Zj3 n fun i hi=>h i (by omega)
  have h2:=h n (by omega)
  have h3:((n+1:Nat):Int)*C=(n:Int)*C+C:=by push_cast;grind
  rw [Qf,h3];omega
theorem Zmo(f g:Nat→Int):∀n,Qi (fun i=>f i-g i) n=Qi f n-Qi g n
 | 0=>by simp [Dx]
 | n+1=>by rw [Qf,Qf,Qf,Zmo f g n];omega
theorem siegel{N M A:Nat}(hMN:M<N)(hA:0<A)(c:Nat→Nat→Int)(hc:∀i j,i<M→j<N→(c i j).natAbs≤A) :
  ∃x:Nat→Int,(∃j,j<N∧x j≠0)∧(∀j,j<N→(x j).natAbs≤(2*N*A)^M)∧∀i,i<M→Qi (fun j=>c i j*x j) N=0:=by
 generalize hX:(2*N*A)^M=X
 generalize hW:N*(A*X)=W
 let d:=fun k j=>dig (X+1) k j
 have hd:∀k j,d k j≤X:=fun k j=>Nat.le_of_lt_succ (Nat.mod_lt _ (Nat.succ_pos X))
 let y:=fun k i=>Qi (fun j=>c i j*(d k j:Int)) N
 have hy:∀k i,i<M→-(W:Int)≤y k i∧y k i≤(W:Int):=fun k i hi=>by
  have h1:=Zj3 (f:=fun j=>c i j*(d k j:Int)) (C:=((A*X:Nat):Int)) N fun j hj=>by
   have h2:=hc i j hi hj
   have h3:(c i j*(d k j:Int)).natAbs≤A*X:=by
    rw [Int.natAbs_mul,Int.natAbs_natCast];exact Nat.mul_le_mul h2 (hd k j)
   omega
  have h4:((N:Int)*((A*X:Nat):Int))=(W:Int):=by rw [←hW];push_cast;rfl
  rw [h4]at h1;exact h1
 let e:=fun k=>enc (2*W+1) (fun i=>(y k i+(W:Int)).toNat) M
 have he:∀k i,i<M→(y k i+(W:Int)).toNat<2*W+1:=fun k i hi=>by have:=hy k i hi;omega
 have hlt:(2*W+1)^M<(X+1)^N:=by
  have h1:2*W+1≤(2*N*A)*(X+1):=by
   have:0<N*A:=Nat.mul_pos (by omega) hA
   have e1:2*N*A*(X+1)=2*W+2*(N*A):=by rw [←hW];grind
   omega
  have h2:=Nat.pow_le_pow_left h1 M
  rw [Nat.mul_pow,hX]at h2
  have h3:(X+1)^(M+1)≤(X+1)^N:=Nat.pow_le_pow_right (by omega) (by omega)
  rw [Nat.pow_succ]at h3
  have h4:0<(X+1)^M:=Nat.pow_pos (by omega)
  have h5:X*(X+1)^M<(X+1)^M*(X+1):=by rw [Nat.mul_comm];exact Nat.mul_lt_mul_of_pos_left (by omega) h4
  omega
 obtain⟨a,b,ha,hb,hab,hf⟩:=php (f:=e) hlt (fun k _=>Zph M (he k))
 have hyy:=Zwm M (he a) (he b) hf
 refine⟨fun j=>(d a j:Int)-(d b j:Int),?_,fun j _=>?_,fun i hi=>?_⟩
 ·refine Classical.byContradiction fun h9=>hab ?_
  have h8:∀j,j<N→d a j=d b j:=fun j hj=>Classical.byContradiction fun h7=>h9 ⟨j,hj,fun h6=>h7 (by have h6:(d a j:Int)-(d b j:Int)=0:=h6;omega)⟩
  have e1:=Zpi (X+1) a N
  have e2:=Zpi (X+1) b N
  rw [Nat.mod_eq_of_lt ha]at e1
  rw [Nat.mod_eq_of_lt hb]at e2
  have e3:∀n,n≤N→enc (X+1) (dig (X+1) a) n=enc (X+1) (dig (X+1) b) n:=fun n=>by
   induction n with
   | zero=>intro _;rfl
   | succ n ih=>
    intro hn
    have h7:dig (X+1) a n=dig (X+1) b n:=h8 n (by omega)
    show enc _ _ n+dig (X+1) a n*_=enc _ _ n+dig (X+1) b n*_
    rw [ih (by omega),h7]
  rw [←e1,←e2];exact e3 N (Nat.le_refl _)
 ·have h1:=hd a j
  have h2:=hd b j
  dsimp only;omega
 ·have h1:Qi (fun j=>c i j*((d a j:Int)-(d b j:Int))) N=y a i-y b i:=by
   rw [←Zmo];exact Xx fun j _=>by grind
  rw [h1]
  have h2:=hyy i hi
  have h3:=hy a i hi
  have h4:=hy b i hi
  omega
theorem Zh9(f:Nat→Int)(p:Nat):∀q,Qi f (p+q)=Qi f p+Qi (fun k=>f (p+k)) q
 | 0=>by simp [Dx]
 | q+1=>by rw [←Nat.add_assoc,Qf,Qf,Zh9 f p q];omega
def sft(a:List Int)(t k:Nat):Int:=if k≤t then cf a (t-k)else 0
theorem Zlk{U a:List Int}{p:Nat}(h:U.length=p)(t:Nat):(ps U*ps a).c t=Qi (fun k=>sft a t k*cf U k) p:=by
 rw [←Zsv,←h]
 refine Xx fun k _=>?_
 unfold sft;split<;>grind
theorem Zej{U a:List Int}{p t:Nat}(h:U.length≤p)(ht:p+a.length≤t+1):(ps U*ps a).c t=0:=by
 rw [PS.mul_c]
 refine Fv fun k hk=>?_
 rw [Nx,Nx]
 rcases Nat.lt_or_ge k U.length with h1 | h1
 ·rw [Xt (p:=a) (by omega),Int.mul_zero]
 ·rw [Xt h1,Int.zero_mul]
theorem Zib{a b:List Int}{p q lo A:Nat}(hA:0<A)(ha:∀i,(cf a i).natAbs≤A)(hb:∀i,(cf b i).natAbs≤A)(h0:0<p+q)(h1:p+a.length≤p+q+lo)(h2:q+b.length≤p+q+lo) :
  ∃U V:List Int,U.length=p∧V.length=q∧((∃i,cf U i≠0)∨∃i,cf V i≠0)∧(∀i,(cf U i).natAbs≤(2*(p+q)*A)^(p+q-1))∧(∀i,(cf V i).natAbs≤(2*(p+q)*A)^(p+q-1))∧
   ∀t,lo≤t→(ps U*ps a).c t+(ps V*ps b).c t=0:=by
 obtain⟨x,⟨j,hj,hne⟩,hx,he⟩:=siegel (N:=p+q) (M:=p+q-1) (A:=A) (by omega) hA (fun i j=>if j<p then sft a (lo+i) j else sft b (lo+i) (j-p)) (fun i j _ _=>by
  split<;>unfold sft<;>split
  ·exact ha _
  ·simp
  ·exact hb _
  ·simp)
 have cU:∀i,cf (mk p x) i=if i<p then x i else 0:=fun i=>Iu _ _ _
 have cV:∀i,cf (mk q fun k=>x (p+k)) i=if i<q then x (p+i)else 0:=fun i=>Iu _ _ _
 refine⟨mk p x,mk q fun k=>x (p+k),Qe _ _,Qe _ _,?_,fun i=>?_,fun i=>?_,fun t ht=>?_⟩
 ·rcases Nat.lt_or_ge j p with h | h
  ·exact .inl ⟨j,by rw [cU,if_pos h];exact hne⟩
  ·exact .inr ⟨j-p,by rw [cV,if_pos (by omega),show p+(j-p)=j by omega];exact hne⟩
 ·rw [cU];split
  ·exact hx i (by omega)
  ·exact Nat.zero_le _
 ·rw [cV];split
  ·exact hx _ (by omega)
  ·exact Nat.zero_le _
 ·rcases Nat.lt_or_ge (t-lo) (p+q-1)with h | h
  ·have h3:=he (t-lo) h
   rw [show lo+(t-lo)=t by omega,Zh9]at h3
   rw [Zlk (Qe _ _),Zlk (Qe _ _),←h3]
   congr 1
   ·exact Xx fun k hk=>by rw [if_pos hk,cU,if_pos hk]
   ·exact Xx fun k hk=>by rw [if_neg (by omega),cV,if_pos hk,show p+k-p=k by omega]
  ·rw [Zej (Nat.le_of_eq (Qe _ _)) (by omega),Zej (Nat.le_of_eq (Qe _ _)) (by omega)];rfl
theorem Zwx{U a:List Int}{p t X A:Nat}(h:U.length=p)(hU:∀i,(cf U i).natAbs≤X)(ha:∀i,(cf a i).natAbs≤A):((ps U*ps a).c t).natAbs≤p*(X*A):=by
 rw [Zlk h]
 have h1:=Zj3 (f:=fun k=>sft a t k*cf U k) (C:=((X*A:Nat):Int)) p fun k _=>by
  have:(sft a t k*cf U k).natAbs≤X*A:=by
   rw [Int.natAbs_mul,Nat.mul_comm]
   refine Nat.mul_le_mul (hU k) ?_
   unfold sft;split
   ·exact ha _
   ·simp
  omega
 have h2:((p:Int)*((X*A:Nat):Int))=((p*(X*A):Nat):Int):=by push_cast;rfl
 rw [h2]at h1;omega
theorem Zgi{w q y:List Int}{n:Nat}(h:∀x,Zu w x=Zu q x*Zu y x)(hy:Tr y)(h0:y≠[])(hn:∀i,n≤i→cf w i=0):tzl q=[]∨(tzl q).length+y.length≤n+1:=by
 by_cases hq:tzl q=[]
 ·exact .inl hq
 ·right
  have hc:∀i,cf w i=(ps (tzl q)*ps y).c i:=fun i=>by
   rw [Lp (p:=w) (q:=Nb (tzl q) y) (fun x=>by rw [Xe,Kf];exact h x) i,Dn,PS.mul_c];rfl
  have l1:=List.length_pos_iff.2 hq
  have l2:=List.length_pos_iff.2 h0
  have ht:=Au (p:=tzl q) (q:=y) (a:=(tzl q).length-1) (b:=y.length-1) (fun i hi=>Xt (by omega)) (fun i hi=>Xt (by omega))
  rw [←hc]at ht
  have hne:=Int.mul_ne_zero ((Nk q).mem hq) (hy.mem h0)
  rcases Nat.lt_or_ge ((tzl q).length-1+(y.length-1)) n with h9 | h9
  ·omega
  ·rw [hn _ h9]at ht;exact absurd ht.symm hne
theorem Dh{v f:List Int}(hv:tzl v≠[])(h:∀x,Zu v x*Zu f x=0)(x:Rat):Zu f x=0:=by
 by_cases hf:tzl f=[]
 ·rw [←Kf,hf];rfl
 ·exfalso
  rcases Zgi (w:=[]) (q:=v) (y:=tzl f) (n:=0) (fun x=>by rw [Kf,h x];rfl) (Nk f) hf (fun i _=>Zci i)with h9 | h9
  ·exact hv h9
  ·have:=List.length_pos_iff.2 hf
   have:=List.length_pos_iff.2 hv
   omega
structure Inv (a b x y:List Int):Prop where
 ex:∃(α β γ:Int) (u' v' u v:List Int),α≠0∧β≠0∧γ≠0∧
  (∀t:Rat,(α:Rat)*Zu x t=Zu u' t*Zu a t+Zu v' t*Zu b t)∧(∀t:Rat,(β:Rat)*Zu y t=Zu u t*Zu a t+Zu v t*Zu b t)∧
  (∀t:Rat,Zu u' t*Zu v t-Zu u t*Zu v' t=(γ:Rat))∧(tzl v).length≤a.length-x.length+1∧(tzl v').length≤a.length-x.length+1
 xl:x.length≤b.length
 yl:y.length<x.length
theorem Zvn{x q y z:List Int}{L:Int}{c:Int}(hy:Tr y)(h0:y≠[])(hz:z.length≤x.length)(h:∀t:Rat,(L:Rat)*Zu x t=Zu q t*Zu y t+(c:Rat)*Zu z t):tzl q=[]∨(tzl q).length+y.length≤x.length+1:=
 Zgi (w:=Ko (x.map fun a=>L*a) (z.map fun a=>(-c)*a)) (n:=x.length) (fun t=>by rw [Qz,Yn,Yn];have:=h t;push_cast;grind) hy h0 fun i hi=>by
  rw [Hb,Og,Og,Xt hi,Xt (p:=z) (by omega)];omega
theorem Zai{p q:List Int}{m n:Nat}(hp:(tzl p).length≤m)(hq:(tzl q).length≤n)(i:Nat)(hi:m+n≤i+1):cf (Nb p q) i=0:=by
 have h1:cf (Nb p q) i=cf (Nb (tzl p) (tzl q)) i:=Lp (fun x=>by rw [Xe,Xe,Kf,Kf]) i
 rw [h1,Dn]
 have h2:=Zej (U:=tzl p) (a:=tzl q) (p:=m) (t:=i) hp (by omega)
 rw [PS.mul_c]at h2
 exact h2
theorem Znw{p:List Int}{n:Nat}(h:∀i,n≤i→cf p i=0):(tzl p).length≤n:=Zbx h
theorem Zxc{p:List Int}{n i:Nat}(h:(tzl p).length≤n)(hi:n≤i):cf p i=0:=by
 rw [←Ki];exact Xt (by omega)
theorem Inv.next{a b x y z z' q:List Int}{L:Int}(hI:Inv a b x y)(hab:b.length≤a.length)(hx:Tr x)(hy:Tr y)(h0:y≠[])(hL:L≠0)(h:∀t:Rat,(L:Rat)*Zu x t=Zu q t*Zu y t+Zu z' t)(hz:Sim z' z)(hzl:z.length<y.length):Inv a b y z:=by
 obtain⟨⟨α,β,γ,u',v',u,v,hα,hβ,hγ,e1,e2,e3,l1,l2⟩,xl,yl⟩:=hI
 obtain⟨m,n,hm,hn,hs⟩:=hz
 have hs':∀t:Rat,(m:Rat)*Zu z' t=(n:Rat)*Zu z t:=fun t=>by
  have:=Kd t (z'.map fun a=>m*a) (z.map fun a=>n*a) fun i=>by rw [Og,Og,hs]
  rwa [Yn,Yn]at this
 have h9:∀t:Rat,((L*m:Int):Rat)*Zu x t=Zu (q.map fun a=>m*a) t*Zu y t+(n:Rat)*Zu z t:=fun t=>by
  rw [Yn];push_cast
  have:=h t;have:=hs' t;grind
 have hql:=Zvn hy h0 (by omega) h9
 have hqz:(tzl (q.map fun a=>m*a)).length≤x.length-y.length+1:=by
  rcases hql with hq | hq
  ·rw [hq];simp
  ·omega
 generalize hQ:(q.map fun a=>m*a)=Q at *
 have key:∀t:Rat,((n*(α*β):Int):Rat)*Zu z t=Zu (Ko (u'.map fun c=>(L*m*β)*c) ((Nb Q u).map fun c=>(-α)*c)) t*Zu a t+Zu (Ko (v'.map fun c=>(L*m*β)*c) ((Nb Q v).map fun c=>(-α)*c)) t*Zu b t:=fun t=>by
  rw [Qz,Qz,Yn,Yn,Yn,Yn,Xe,Xe]
  have a1:=h9 t;have a2:=e1 t;have a3:=e2 t
  push_cast at a1 ⊢
  have:(n:Rat)*(α*β)*Zu z t=α*β*(n*Zu z t):=by grind
  rw [this,show(n:Rat)*Zu z t=L*m*Zu x t-Zu Q t*Zu y t by grind]
  have:(α:Rat)*β*(L*m*Zu x t-Zu Q t*Zu y t)=L*m*β*(α*Zu x t)-α*Zu Q t*(β*Zu y t):=by grind
  rw [this,a2,a3];grind
 refine⟨⟨β,n*(α*β),-(L*m*β*γ),u,v,_,_,hβ,Int.mul_ne_zero hn (Int.mul_ne_zero hα hβ),?_,e2,key,fun t=>?_,?_,?_⟩,by omega,hzl⟩
 ·have:=Int.mul_ne_zero (Int.mul_ne_zero (Int.mul_ne_zero hL hm) hβ) hγ;omega
 ·rw [Qz,Qz,Yn,Yn,Yn,Yn,Xe,Xe]
  have:=e3 t;push_cast;grind
 ·refine Znw fun i hi=>?_
  rw [Hb,Og,Og,Zxc (p:=v') l2 (by omega),Zai hqz l1 i (by omega)];omega
 ·omega
theorem Inv.first{a b z z' q:List Int}{L:Int}(hab:b.length≤a.length)(ha:Tr a)(hb:Tr b)(h0:b≠[])(hL:L≠0)(h:∀t:Rat,(L:Rat)*Zu a t=Zu q t*Zu b t+Zu z' t)(hz:Sim z' z)(hzl:z.length<b.length):Inv a b b z:=by
 obtain⟨m,n,hm,hn,hs⟩:=hz
 have hs':∀t:Rat,(m:Rat)*Zu z' t=(n:Rat)*Zu z t:=fun t=>by
  have:=Kd t (z'.map fun a=>m*a) (z.map fun a=>n*a) fun i=>by rw [Og,Og,hs]
  rwa [Yn,Yn]at this
 have h9:∀t:Rat,((L*m:Int):Rat)*Zu a t=Zu (q.map fun a=>m*a) t*Zu b t+(n:Rat)*Zu z t:=fun t=>by
  rw [Yn];push_cast
  have:=h t;have:=hs' t;grind
 have hql:=Zvn hb h0 (by omega) h9
 have hqz:(tzl (q.map fun a=>m*a)).length≤a.length-b.length+1:=by
  rcases hql with hq | hq
  ·rw [hq];simp
  ·omega
 generalize hQ:(q.map fun a=>m*a)=Q at *
 refine⟨⟨1,n,-(L*m),[],[1],[L*m],Q.map fun c=>(-1)*c,by decide,hn,?_,fun t=>?_,fun t=>?_,fun t=>?_,?_,?_⟩,Nat.le_refl _,hzl⟩
 ·have:=Int.mul_ne_zero hL hm;omega
 ·rw [Nn];show _=(0:Rat)*_+_;grind
 ·rw [Nn,Yn];have:=h9 t;push_cast at this ⊢;grind
 ·rw [Nn,Nn];show(0:Rat)*_-_=_;push_cast;grind
 ·refine Znw fun i hi=>?_
  rw [Og,Zxc hqz (by omega)];omega
 ·refine Nat.le_trans (Hc _) ?_
  simp
theorem Zhm{n:Nat}{a:List Int}(h:Sz n a)(i:Nat):(cf a i).natAbs≤2^n:=Nat.le_of_lt ((Mj n _).1 (h i))
theorem Zac{p:List Int}(h:tzl p=[])(x:Rat):Zu p x=0:=by rw [←Kf,h];rfl
theorem tzl_ne{p:List Int}{i:Nat}(h:cf p i≠0):tzl p≠[]:=fun e=>h ((Ik p).1 e i)
theorem nn_eq{x a b:Nat}(h1:x≤b)(h2:b≤a):b-x+1+(a-x+1)=a+b-2*x+2:=by omega
theorem Inv.bound{a b x y:List Int}{n s:Nat}(hI:Inv a b x y)(hab:b.length≤a.length)(ha:Tr a)(hx:Tr x)(hy:Tr y)(h0:y≠[])(hp:Qc y=1)(na:Sz n a)(nb:Sz n b)(hs:a.length+b.length-2*x.length+2≤2^s) :
  Pf y≤(s+1+n)*(a.length+b.length-2*x.length+2):=by
 obtain⟨⟨α,β,γ,u',v',u,v,hα,hβ,hγ,e1,e2,e3,l1,l2⟩,xl,yl⟩:=hI
 have hy1:=List.length_pos_iff.2 h0
 have hx0:x≠[]:=fun e=>by rw [e]at yl;simp at yl
 have ha0:a≠[]:=fun e=>by
  have h9:a.length=0:=by rw [e];rfl
  omega
 obtain⟨U,V,lU,lV,hne,bU,bV,hz⟩:=Zib (a:=a) (b:=b) (p:=b.length-x.length+1) (q:=a.length-x.length+1) (lo:=x.length-1) (A:=2^n) (Nat.pow_pos (by decide)) (Zhm na) (Zhm nb) (by omega) (by omega) (by omega)
 have hv:a.length+1≤(tzl v).length+x.length:=by
  refine Classical.byContradiction fun h9=>?_
  have hid:∀i,cf (Ko (a.map fun c=>γ*c) ((Nb y v').map fun c=>β*c)) i=cf (Nb (tzl v) (x.map fun c=>α*c)) i:=fun i=>Lp (fun t=>by
   rw [Qz,Yn,Yn,Xe,Xe,Yn,Kf]
   have a1:=e1 t;have a2:=e2 t;have a3:=e3 t
   have:Zu v t*(α*Zu x t)=(Zu u' t*Zu v t-Zu u t*Zu v' t)*Zu a t+(Zu u t*Zu a t+Zu v t*Zu b t)*Zu v' t:=by rw [a1];grind
   rw [this,a3,←a2];grind) i
  have h1:=hid (a.length-1)
  rw [Hb,Og,Og,Zai (m:=y.length) (n:=a.length-x.length+1) (Hc _) l2 _ (by omega),Dn]at h1
  have h2:=Zej (U:=tzl v) (a:=x.map fun c=>α*c) (p:=(tzl v).length) (t:=a.length-1) (Nat.le_refl _) (by rw [List.length_map];omega)
  rw [PS.mul_c]at h2
  have h3:Qi (fun k=>cf (tzl v) k*cf (x.map fun c=>α*c) (a.length-1-k)) (a.length-1+1)=0:=h2
  rw [h3]at h1
  have:=Int.mul_ne_zero hγ (ha.mem ha0)
  omega
 have hvne:tzl v≠[]:=fun e=>by rw [e]at hv;simp at hv;omega
 have cR:∀i,cf (Ko (Nb U a) (Nb V b)) i=(ps U*ps a).c i+(ps V*ps b).c i:=fun i=>by
  rw [Hb,Dn,Dn,PS.mul_c,PS.mul_c];rfl
 generalize hR:Ko (Nb U a) (Nb V b)=R at cR
 have rR:∀t,Zu R t=Zu U t*Zu a t+Zu V t*Zu b t:=fun t=>by rw [←hR,Qz,Xe,Xe]
 have lR:(tzl R).length≤x.length-1:=Znw fun i hi=>by rw [cR];exact hz i hi
 have hf:tzl (Ko (Nb U v) ((Nb u V).map fun c=>(-1)*c))=[]:=by
  rcases Zgi (w:=Ko (Nb R v) ((Nb y V).map fun c=>(-β)*c)) (q:=Ko (Nb U v) ((Nb u V).map fun c=>(-1)*c)) (y:=a) (n:=a.length-1) (fun t=>by
   rw [Qz,Yn,Xe,Xe,Qz,Yn,Xe,Xe,rR]
   have a2:=e2 t
   push_cast
   have:(-(β:Rat))*(Zu y t*Zu V t)=- (β*Zu y t)*Zu V t:=by grind
   rw [this,a2];grind) ha ha0 (fun i hi=>by
   rw [Hb,Og,Zai lR l1 i (by omega),Zai (m:=y.length) (n:=a.length-x.length+1) (Hc _) (Nat.le_trans (Hc _) (Nat.le_of_eq lV)) i (by omega)];omega)with h9 | h9
  ·exact h9
  ·refine Classical.byContradiction fun h8=>?_
   have:=List.length_pos_iff.2 h8;omega
 have huv:∀t,Zu U t*Zu v t=Zu u t*Zu V t:=fun t=>by
  have:=Zac hf t
  rw [Qz,Yn,Xe,Xe]at this
  push_cast at this;grind
 have hRv:∀t,Zu R t*Zu v t=β*Zu y t*Zu V t:=fun t=>by
  rw [rR,e2 t]
  have:=huv t;grind
 have hw:∀t,(γ:Rat)*Zu V t=Zu v t*Zu (Ko (Nb u' V) ((Nb v' U).map fun c=>(-1)*c)) t:=fun t=>by
  rw [Qz,Yn,Xe,Xe,←e3 t]
  have:=huv t;push_cast;grind
 generalize Ko (Nb u' V) ((Nb v' U).map fun c=>(-1)*c)=w at hw
 have hV:tzl V≠[]:=fun e=>by
  rcases hne with⟨i,hi⟩ | ⟨i,hi⟩
  ·refine hi (Lp (p:=U) (q:=[]) (fun t=>?_) i▸Zci i)
   exact Dh (v:=v) (f:=U) hvne (fun t=>by have:=huv t;rw [Zac e]at this;grind) t
  ·exact tzl_ne hi e
 have hwl:∃c:Int,c≠0∧∀t,Zu w t=(c:Rat):=by
  have hwne:tzl w≠[]:=fun e=>hV ((Ik V).2 fun i=>by
   have:=Lp (p:=V.map fun c=>γ*c) (q:=[]) (fun t=>by rw [Yn,hw t,Zac e];show _=(0:Rat);grind) i
   rw [Og,Zci]at this
   exact(Int.mul_eq_zero.1 this).resolve_left hγ)
  rcases Zgi (w:=V.map fun c=>γ*c) (q:=w) (y:=tzl v) (n:=a.length-x.length+1) (fun t=>by rw [Yn,Kf,hw t];grind) (Nk v) hvne (fun i hi=>by rw [Og,Xt (by omega)];omega)with h9 | h9
  ·exact absurd h9 hwne
  ·have h8:=List.length_pos_iff.2 hwne
   have h7:(tzl w).length=1:=by omega
   match hc:tzl w,h7 with
   | [c],_=>
    refine⟨c,?_,fun t=>by rw [←Kf,hc,Nn]⟩
    have:=(Nk w).mem hwne
    rw [hc]at this;exact this
 obtain⟨c,hc0,hc⟩:=hwl
 have hsim:Sim R y:=by
  refine⟨γ,β*c,hγ,Int.mul_ne_zero hβ hc0,fun i=>?_⟩
  have:=Lp (p:=R.map fun d=>γ*d) (q:=y.map fun d=>(β*c)*d) (fun t=>by
   rw [Yn,Yn];push_cast
   have h1:Zu (Ko (R.map fun d=>γ*d) (y.map fun d=>(-(β*c))*d)) t=0:=Dh (v:=v) hvne (fun t=>by
    rw [Qz,Yn,Yn];push_cast
    have a1:=hRv t;have a2:=hw t;rw [hc]at a2
    have:Zu v t*(γ*Zu R t + -(β*c:Rat)*Zu y t)=γ*(Zu R t*Zu v t)-β*Zu y t*(Zu v t*c):=by grind
    rw [this,a1,←a2];grind) t
   rw [Qz,Yn,Yn]at h1
   push_cast at h1;grind) i
  rwa [Og,Og]at this
 have hsz:Sz ((s+1+n)*(a.length+b.length-2*x.length+2)) R:=fun i=>by
  rw [cR]
  have c1:=Zwx (t:=i) lU bU (Zhm na)
  have c2:=Zwx (t:=i) lV bV (Zhm nb)
  have hN3:b.length-x.length+1+(a.length-x.length+1)=a.length+b.length-2*x.length+2:=nn_eq xl hab
  rw [←hN3]at hs ⊢
  generalize hN:b.length-x.length+1+(a.length-x.length+1)=N at *
  generalize hXX:(2*N*2^n)^(N-1)=X at *
  have c3:((ps U*ps a).c i+(ps V*ps b).c i).natAbs≤N*(X*2^n):=by
   rw [←hN,Nat.add_mul]
   have:=Int.natAbs_add_le ((ps U*ps a).c i) ((ps V*ps b).c i)
   omega
  refine(Mj _ _).2 (Nat.lt_of_le_of_lt c3 ?_)
  have hX0:0<X:=by rw [←hXX];exact Nat.pow_pos (Nat.mul_pos (by omega) (Nat.pow_pos (by decide)))
  have c4:N*(X*2^n)<(2*N*2^n)^N:=by
   have e:(2*N*2^n)^N=X*(2*N*2^n):=by
    rw [←hXX,←Nat.pow_succ,Nat.succ_eq_add_one,show N-1+1=N by omega]
   rw [e]
   have:0<N*(X*2^n):=Nat.mul_pos (by omega) (Nat.mul_pos hX0 (Nat.pow_pos (by decide)))
   have e2:X*(2*N*2^n)=2*(N*(X*2^n)):=by grind
   omega
  have c5:2*N*2^n≤2^(s+1+n):=by
   rw [Nat.pow_add,Nat.pow_succ]
   exact Nat.mul_le_mul_right _ (by omega)
  have c6:=Nat.pow_le_pow_left c5 N
  rw [←Nat.pow_mul]at c6
  exact Nat.lt_of_lt_of_le c4 c6
 have h1:tzl R≠[]:=fun e=>by
  obtain⟨m,k,hm,hk,e9⟩:=hsim
  have:=e9 (y.length-1)
  rw [(Ik R).1 e,Int.mul_zero]at this
  exact Int.mul_ne_zero hk (hy.mem h0) this.symm
 have hsim2:Sim (tzl R) y:=by
  obtain⟨m,k,hm,hk,e9⟩:=hsim
  exact⟨m,k,hm,hk,fun i=>by rw [Ki];exact e9 i⟩
 have h2:=(Pr (Nk R)).trans hsim2
 have h3:∀i,(cf y i).natAbs=(cf (Yx (tzl R)) i).natAbs:=fun i=>by
  rcases Zj5 (Xu (Nk R)) hy (fun e=>h1 (List.eq_nil_of_length_eq_zero (by rw [←Yv,e];rfl))) (It (Nk R) h1) hp h2 with h9 | h9
  ·rw [h9]
  ·rw [h9 i,Int.natAbs_neg]
 exact Oc fun i=>by rw [h3];exact Fj hsz.tzl i
def Zrh(la lb K:Nat):Prop:=∀l,l≤lb→(l+1)*(K*(la+lb-2*l+2)+1)≤65536
theorem Zsq{la lb K l m:Nat}(h:l≤m):K*(la+lb-2*m+2)≤K*(la+lb-2*l+2):=Nat.mul_le_mul_left _ (by omega)
theorem Zg4{x y:List Int}{C:Nat}(hy:y≠[])(hl:y.length<x.length)(h1:Pf x≤C)(h2:Pf y≤C)(h:(x.length+1)*(C+1)≤65536):Bv x y=0:=by
 have l1:=List.length_pos_iff.2 hy
 unfold Bv
 rw [if_neg (by omega),if_neg (by omega)]
 have h3:(x.length-y.length+1)*(Pf y+1)≤x.length*(C+1):=Nat.mul_le_mul (by omega) (by omega)
 rw [Nat.add_mul,Nat.one_mul]at h
 rw [if_neg (by omega)]
theorem Zys{a b x y:List Int}(hI:Inv a b x y)(hab:b.length≤a.length)(hx:Tr x)(hy:Tr y)(h0:y≠[]):Inv a b y (Yx (Pn x y)):=by
 obtain⟨k,s,hs⟩:=Cx x h0
 have hL:=Mw (hy.mem h0) k
 generalize cf y (y.length-1)^k=L at hs hL
 have he:∀t:Rat,(L:Rat)*Zu x t=Zu s t*Zu y t+Zu (Pn x y) t:=fun t=>by
  have:=Ck (a:=L) (c:=-1) (x:=x) (s:=s) (y:=y) (z:=Pn x y) (fun t=>by rw [hs t];omega) t
  push_cast at this;grind
 exact hI.next hab hx hy h0 hL he (Pr (Im hx)).symm (by rw [Yv];exact Oq x h0)
theorem Zgl{p:List Int}(h:Tr p):Yx p=[]∨Qc (Yx p)=1:=by
 by_cases h0:p=[]
 ·left;rw [h0];rfl
 ·right;exact It h h0
theorem Bt{x y:List Int}(hx:Tr x)(h0:y≠[]):(Lb x y).length<y.length:=by rw [Bs hx];exact Oq x h0
theorem Zyr{a b x y:List Int}(hI:Inv a b x y)(hab:b.length≤a.length)(hx:Tr x)(hy:Tr y)(h0:y≠[]):Inv a b y (Lb x y)∧(Lb x y=[]∨Qc (Lb x y)=1):=by
 have l0:=List.length_pos_iff.2 h0
 have hxy:=hI.yl
 obtain⟨r1,r2,k,u,hk⟩:=Zb3 hy h0 x.length x hx (by omega)
 have hs:=Zdy (f:=x.length) hx hy h0 (by omega) (by omega)
 have htn:Tr (Zfa (Ff x.length x y)):=Ob _ _
 have hK:Ea y^k≠0:=Mw (by have:=Zgf hy h0;omega) _
 constructor
 ·refine hI.next (z':=Ff x.length x y) (q:=u) hab hx hy h0 hK (fun t=>?_) ?_ (Bt hx h0)
  ·have:=Ck (a:=Ea y^k) (c:=-1) (x:=x) (s:=u) (y:=y) (z:=Ff x.length x y) (fun t=>by rw [hk t];omega) t
   push_cast at this ⊢;grind
  ·rw [←hs]
   exact Sim.trans ⟨1,-1,by decide,by decide,fun i=>by rw [Cn];omega⟩ (Pr htn).symm
 ·rw [←hs];exact Zgl htn
theorem Zwk{a b:List Int}{n s K:Nat}(hab:b.length≤a.length)(ha:Tr a)(na:Sz n a)(nb:Sz n b)(hs:a.length+b.length≤2^s)(hK:s+1+n≤K)(hN:Zrh a.length b.length K) :
  ∀(f:Nat) (x y:List Int),Inv a b x y→Tr x→Tr y→(y=[]∨Qc y=1)→Pf x≤K*(a.length+b.length-2*x.length+2)→y.length≤f→eok f x y∧Pf (eu f x y)≤K*(a.length+b.length)
 | 0,x,y,hI,hx,hy,hp,hm,hl=>by
  have hxl:=hI.yl
  refine⟨List.eq_nil_of_length_eq_zero (by omega),Nat.le_trans hm (Nat.mul_le_mul_left _ (by have:=hI.xl;omega))⟩
 | f+1,x,y,hI,hx,hy,hp,hm,hl=>by
  have hyl:=hI.yl
  have hxl:=hI.xl
  by_cases h0:y=[]
  ·subst h0
   refine⟨.inl rfl,?_⟩
   rw [Cf]
   exact Nat.le_trans hm (Nat.mul_le_mul_left _ (by omega))
  ·have l0:=List.length_pos_iff.2 h0
   have hb:=hI.bound hab ha hx hy h0 (hp.resolve_left h0) na nb (s:=s) (by omega)
   have hb2:Pf y≤K*(a.length+b.length-2*x.length+2):=Nat.le_trans hb (Nat.mul_le_mul_right _ hK)
   have hd:=Zg4 h0 hyl hm hb2 (hN x.length hxl)
   have ht:=Im (q:=y) hx
   have ih:=Zwk hab ha na nb hs hK hN f y (Yx (Pn x y)) (Zys hI hab hx hy h0) hy (Xu ht) (Zgl ht) (Nat.le_trans hb2 (Zsq (by omega))) (by rw [Yv];have:=Oq x h0;omega)
   refine⟨.inr ⟨hd,ih.1⟩,?_⟩
   rw [show eu (f+1) x y=eu f y (Yx (Pn x y)) by
     conv=>lhs;unfold eu
     rw [if_neg h0]]
   exact ih.2
theorem Zwy{a b:List Int}{n s K:Nat}(hab:b.length≤a.length)(ha:Tr a)(na:Sz n a)(nb:Sz n b)(hs:a.length+b.length≤2^s)(hK:s+1+n≤K)(hN:Zrh a.length b.length K) :
  ∀(f:Nat) (x y:List Int),Inv a b x y→Tr x→Tr y→(y=[]∨Qc y=1)→Pf x≤K*(a.length+b.length-2*x.length+2)→y.length≤f→cok f x y∧∀p∈Le f x y,Pf p≤K*(a.length+b.length)∧p.length≤a.length
 | 0,x,y,hI,hx,hy,hp,hm,hl=>by
  have hxl:=hI.yl
  have hxl2:=hI.xl
  have h0:y=[]:=List.eq_nil_of_length_eq_zero (by omega)
  refine⟨h0,fun p hp=>?_⟩
  have:p=x:=by unfold Le at hp;simpa using hp
  rw [this]
  exact⟨Nat.le_trans hm (Nat.mul_le_mul_left _ (by omega)),by omega⟩
 | f+1,x,y,hI,hx,hy,hp,hm,hl=>by
  have hyl:=hI.yl
  have hxl:=hI.xl
  by_cases h0:y=[]
  ·subst h0
   refine⟨.inl rfl,fun p hp=>?_⟩
   rw [Ca]at hp
   have:p=x:=by simpa using hp
   rw [this]
   exact⟨Nat.le_trans hm (Nat.mul_le_mul_left _ (by omega)),by omega⟩
  ·have l0:=List.length_pos_iff.2 h0
   have hb:=hI.bound hab ha hx hy h0 (hp.resolve_left h0) na nb (s:=s) (by omega)
   have hb2:Pf y≤K*(a.length+b.length-2*x.length+2):=Nat.le_trans hb (Nat.mul_le_mul_right _ hK)
   have hd:=Zg4 h0 hyl hm hb2 (hN x.length hxl)
   obtain⟨i1,i2⟩:=Zyr hI hab hx hy h0
   have ih:=Zwy hab ha na nb hs hK hN f y (Lb x y) i1 hy (Zcy hx) i2 (Nat.le_trans hb2 (Zsq (by omega))) (by have:=Bt hx h0;omega)
   refine⟨.inr ⟨hd,by omega,ih.1⟩,fun p hp=>?_⟩
   unfold Le at hp
   rw [if_neg h0]at hp
   rcases List.mem_cons.1 hp with rfl | hp
   ·exact⟨Nat.le_trans hm (Nat.mul_le_mul_left _ (by omega)),by omega⟩
   ·exact ih.2 p hp
theorem Zwl{a b:List Int}{n s K f:Nat}(hab:b.length<a.length)(ha:Tr a)(hb:Tr b)(na:Sz n a)(nb:Sz n b)(hs:a.length+b.length≤2^s)(hK:s+1+n≤K)(hN:Zrh a.length b.length K)(hd:(a.length+1)*(n+1)≤65536)(hf:b.length≤f) :
  eok f a b∧Pf (eu f a b)≤K*(a.length+b.length):=by
 have ma:=Oc na
 have mb:=Oc nb
 have la:0<a.length:=by omega
 have hKn:n≤K*(a.length+b.length):=Nat.le_trans (by omega:n≤K*1) (Nat.mul_le_mul_left _ (by omega))
 by_cases h0:b=[]
 ·subst h0
  cases f with
  | zero=>exact⟨rfl,by rw [Cf];omega⟩
  | succ f=>exact⟨.inl rfl,by rw [Cf];omega⟩
 ·have l0:=List.length_pos_iff.2 h0
  obtain⟨g,rfl⟩:∃g,f=g+1:=⟨f-1,by omega⟩
  have ht:=Im (q:=b) ha
  obtain⟨k,q,hq⟩:=Cx a h0
  have hL:=Mw (hb.mem h0) k
  generalize cf b (b.length-1)^k=L at hq hL
  have he:∀t:Rat,(L:Rat)*Zu a t=Zu q t*Zu b t+Zu (Pn a b) t:=fun t=>by
   have:=Ck (a:=L) (c:=-1) (x:=a) (s:=q) (y:=b) (z:=Pn a b) (fun t=>by rw [hq t];omega) t
   push_cast at this;grind
  have hI:Inv a b b (Yx (Pn a b)):=Inv.first (by omega) ha hb h0 hL he (Pr ht).symm (by rw [Yv];exact Oq a h0)
  have ih:=Zwk (by omega) ha na nb hs hK hN g b (Yx (Pn a b)) hI hb (Xu ht) (Zgl ht) (Nat.le_trans (by omega:Pf b≤K*1) (Nat.mul_le_mul_left _ (by omega))) (by rw [Yv];have:=Oq a h0;omega)
  refine⟨.inr ⟨Zg4 h0 hab ma mb hd,ih.1⟩,?_⟩
  rw [show eu (g+1) a b=eu g b (Yx (Pn a b)) by
    conv=>lhs;unfold eu
    rw [if_neg h0]]
  exact ih.2
theorem Yf6{a b:List Int}{n s K f:Nat}(hab:b.length<a.length)(ha:Tr a)(hb:Tr b)(na:Sz n a)(nb:Sz n b)(hs:a.length+b.length≤2^s)(hK:s+1+n≤K)(hN:Zrh a.length b.length K)(hd:(a.length+1)*(n+1)≤65536)(hf:b.length≤f) :
  cok f a b∧∀p∈Le f a b,Pf p≤K*(a.length+b.length)∧p.length≤a.length:=by
 have ma:=Oc na
 have mb:=Oc nb
 have la:0<a.length:=by omega
 have hKn:n≤K*(a.length+b.length):=Nat.le_trans (by omega:n≤K*1) (Nat.mul_le_mul_left _ (by omega))
 by_cases h0:b=[]
 ·subst h0
  have hall:∀p∈Le f a [],Pf p≤K*(a.length+([]:List Int).length)∧p.length≤a.length:=fun p hp=>by
   rw [Ca]at hp
   have:p=a:=by simpa using hp
   rw [this];exact⟨by omega,Nat.le_refl _⟩
  cases f with
  | zero=>exact⟨rfl,hall⟩
  | succ f=>exact⟨.inl rfl,hall⟩
 ·have l0:=List.length_pos_iff.2 h0
  obtain⟨g,rfl⟩:∃g,f=g+1:=⟨f-1,by omega⟩
  obtain⟨r1,r2,k,u,hk⟩:=Zb3 hb h0 a.length a ha (by omega)
  have hs':=Zdy (f:=a.length) ha hb h0 (by omega) (by omega)
  have htn:Tr (Zfa (Ff a.length a b)):=Ob _ _
  have hKK:Ea b^k≠0:=Mw (by have:=Zgf hb h0;omega) _
  have hI:Inv a b b (Lb a b):=by
   refine Inv.first (z':=Ff a.length a b) (q:=u) (by omega) ha hb h0 hKK (fun t=>?_) ?_ (Bt ha h0)
   ·have:=Ck (a:=Ea b^k) (c:=-1) (x:=a) (s:=u) (y:=b) (z:=Ff a.length a b) (fun t=>by rw [hk t];omega) t
    push_cast at this ⊢;grind
   ·rw [←hs']
    exact Sim.trans ⟨1,-1,by decide,by decide,fun i=>by rw [Cn];omega⟩ (Pr htn).symm
  have hp:Lb a b=[]∨Qc (Lb a b)=1:=by rw [←hs'];exact Zgl htn
  have ih:=Zwy (by omega) ha na nb hs hK hN g b (Lb a b) hI hb (Zcy ha) hp (Nat.le_trans (by omega:Pf b≤K*1) (Nat.mul_le_mul_left _ (by omega))) (by have:=Bt ha h0;omega)
  refine⟨.inr ⟨Zg4 h0 hab ma mb hd,by omega,ih.1⟩,fun p hp=>?_⟩
  unfold Le at hp
  rw [if_neg h0]at hp
  rcases List.mem_cons.1 hp with rfl | hp
  ·exact⟨by omega,Nat.le_refl _⟩
  ·exact ih.2 p hp
def kkR(R:Nat):Nat→Nat
 | 0=>0
 | d+1=>2*(R+1)*kkR R d+1
theorem Ycd(R:Nat):∀d,kkR R d≤kkR R (d+1)
 | 0=>Nat.zero_le _
 | d+1=>by
  have h:=Ycd R d
  show 2*(R+1)*kkR R d+1≤2*(R+1)*kkR R (d+1)+1
  exact Nat.succ_le_succ (Nat.mul_le_mul_left _ h)
theorem Ycc(R:Nat){d e:Nat}(h:d≤e):kkR R d≤kkR R e:=by
 induction e with
 | zero=>rw [show d=0 by omega];exact Nat.le_refl _
 | succ e ih=>
  rcases Nat.lt_or_ge d (e+1)with h1 | h1
  ·exact Nat.le_trans (ih (by omega)) (Ycd R e)
  ·rw [show d=e+1 by omega];exact Nat.le_refl _
theorem Zwd(R:Nat):∀(d:Nat) (u:List Int) (T:List Int) (B:Nat),u.length≤d→T.length=d→T.Nodup→(∀t∈T,t.natAbs≤R)→(∀t∈T,(Ay u t).natAbs≤B)→∀i,(cf u i).natAbs≤kkR R d*B
 | 0,u,T,B,hu,_,_,_,_,i=>by rw [Xt (by omega)];exact Nat.zero_le _
 | d+1,u,[],B,_,hT,_,_,_,_=>by simp at hT
 | d+1,u,t :: T,B,hu,hT,hd,hr,hB,i=>by
  have hl:=Zff u t
  have ht:=hr t (List.mem_cons_self ..)
  have hb:=hB t (List.mem_cons_self ..)
  have ih:=Zwd R d (sdv u t) T (2*B) (by omega) (by simpa using hT) (List.nodup_cons.1 hd).2 (fun x hx=>hr x (List.mem_cons_of_mem _ hx)) fun x hx=>by
   have h1:=Zpg u t x
   have h2:=hB x (List.mem_cons_of_mem _ hx)
   have hne:x≠t:=fun e=>(List.nodup_cons.1 hd).1 (e▸hx)
   have h3:((x-t)*Ay (sdv u t) x).natAbs≤2*B:=by omega
   rw [Int.natAbs_mul]at h3
   have h4:1*(Ay (sdv u t) x).natAbs≤(x-t).natAbs*(Ay (sdv u t) x).natAbs:=Nat.mul_le_mul_right _ (by omega)
   omega
  have hk:kkR R (d+1)*B=R*(kkR R d*(2*B))+kkR R d*(2*B)+B:=by
   show(2*(R+1)*kkR R d+1)*B=_
   grind
  have hmul:∀x:Int,x.natAbs≤kkR R d*(2*B)→(t*x).natAbs≤R*(kkR R d*(2*B)):=fun x hx=>by
   rw [Int.natAbs_mul];exact Nat.mul_le_mul (by omega) hx
  rw [hk]
  cases i with
  | zero=>
   rw [Zxb u t]
   have:=hmul _ (ih 0)
   omega
  | succ i=>
   rw [Zua u t]
   have h1:=ih i
   have h2:=hmul _ (ih (i+1))
   omega
theorem Znf(R:Nat):∀(n:Nat) (s:List Int) (A:Nat) (t:Int),s.length≤n→(∀c∈s,c.natAbs≤A)→0≤t→t≤(R:Int)→(Ay s t).natAbs≤A*((R+1)^n)
 | n,[],A,t,_,_,_,_=>by simp [Ay]
 | 0,c :: s,A,t,h,_,_,_=>by simp at h
 | n+1,c :: s,A,t,h,hc,h0,h1=>by
  have ih:=Znf R n s A t (by simpa using h) (fun x hx=>hc x (List.mem_cons_of_mem _ hx)) h0 h1
  have h2:=hc c (List.mem_cons_self ..)
  have h3:(t*Ay s t).natAbs≤R*(A*(R+1)^n):=by rw [Int.natAbs_mul];exact Nat.mul_le_mul (by omega) ih
  show(c+t*Ay s t).natAbs≤A*(R+1)^(n+1)
  have h4:A*(R+1)^(n+1)=R*(A*(R+1)^n)+A*(R+1)^n:=by rw [Nat.pow_succ];grind
  have h5:A*1≤A*(R+1)^n:=Nat.mul_le_mul_left _ (Nat.pow_pos (by omega))
  omega
theorem Eg{s u v:List Int}{n L R e:Nat}(hu:Tr u)(hv:Tr v)(hs:Sz n s)(h0:s≠[])(hts:Tr s)(hl:s.length≤L)(hR:2*L≤R+2)(he:kkR R L*(R+1)^L<2^e)(h:s=Oo u v):Sz (n+e) u:=by
 have hne:u≠[]∧v≠[]:=by
  refine⟨fun e=>h0 ?_,fun e=>h0 ?_⟩
  ·rw [h,e,Ec]
  ·rw [h,e,Zfb]
 have hlen:=Nv hu hv hne.1 hne.2
 rw [←h]at hlen
 have lu:=List.length_pos_iff.2 hne.1
 have lv:=List.length_pos_iff.2 hne.2
 have hz:∃i,cf s i≠0:=⟨_,hts.mem h0⟩
 generalize hP:(List.range (R+1)).map (fun n:Nat=>(n:Int))=pts
 have hnp:pts.Nodup:=by
  rw [←hP]
  refine List.Pairwise.map _ (fun a b hab=>?_) List.nodup_range
  intro e;exact hab (by exact_mod_cast e)
 have h1:=Zlc (fun t=>decide (Ay s t≠0)) pts
 have h2:=Zkc s.length s (pts.filter fun t=>!decide (Ay s t≠0)) rfl hz (hnp.filter _) fun t ht=>by
  have:=(List.mem_filter.1 ht).2
  simpa using this
 have h3:pts.length=R+1:=by rw [←hP];simp
 generalize hT:pts.filter (fun t=>decide (Ay s t≠0))=T at h1
 have hTl:s.length≤T.length:=by omega
 have hTm:∀t∈T.take u.length,t∈pts∧Ay s t≠0:=fun t ht=>by
  have:=List.mem_of_mem_take ht
  rw [←hT,List.mem_filter]at this
  exact⟨this.1,by simpa using this.2⟩
 have hr:∀t∈T.take u.length,0≤t∧t≤(R:Int):=fun t ht=>by
  have:=(hTm t ht).1
  rw [←hP]at this
  obtain⟨k,hk,rfl⟩:=List.mem_map.1 this
  have:=List.mem_range.1 hk
  omega
 have hA:∀c∈s,c.natAbs≤2^n:=fun c hc=>Nat.le_of_lt ((Mj n _).1 (hs.mem hc))
 have hk:=Zwd R u.length u (T.take u.length) (2^n*(R+1)^L) (Nat.le_refl _) (by rw [List.length_take];omega) ((hT▸hnp.filter _:T.Nodup).sublist (List.take_sublist _ _)) (fun t ht=>by have:=hr t ht;omega) fun t ht=>by
  have hb:=Znf R L s (2^n) t hl hA (hr t ht).1 (hr t ht).2
  have he:Ay s t=Ay u t*Ay v t:=by
   rw [Zld,Zld,Zld,h,Ybc hu hv hne.1 hne.2]
  have hnz:=(hTm t ht).2
  have hd:Ay u t∣Ay s t:=⟨_,he⟩
  exact Nat.le_trans (Nat.le_of_dvd (by omega) (Int.natAbs_dvd_natAbs.2 hd)) hb
 intro i
 rw [Mj]
 refine Nat.lt_of_le_of_lt (hk i) ?_
 have hkk:=Ycc R (show u.length≤L by omega)
 rw [Nat.pow_add,Nat.mul_comm (kkR R u.length),Nat.mul_assoc]
 refine Nat.mul_lt_mul_of_pos_left ?_ (Nat.pow_pos (by decide))
 rw [Nat.mul_comm]
 exact Nat.lt_of_le_of_lt (Nat.mul_le_mul_right _ hkk) he
theorem Ybo{la lb K:Nat}(h1:la≤13)(h2:lb+1=la)(hK:K≤600):Zrh la lb K:=fun l hl=>by
 have h3:∀l,l≤12→(l+1)*(600*(27-2*l)+1)≤65536:=by decide
 refine Nat.le_trans (Nat.mul_le_mul_left _ (Nat.succ_le_succ (Nat.mul_le_mul hK (by omega)))) (h3 l (by omega))
theorem chF{xs:List Int}{n:Nat}(F:Nat)(hx:Tr xs)(h0:xs≠[])(hs:Sz n xs)(hn:n≤260)(hl:xs.length≤13)(hF:xs.length≤F+1) :
  Az F xs∧Sz (n+130) (sqf F xs)∧(sqf F xs).length≤xs.length∧∀p∈chn F xs,Pf p≤(n+141)*25∧p.length≤xs.length:=by
 have hnn:=Zn0 hs
 have hln:=Nf hx
 have ht:Tr (Qa xs):=Mm (Xu hx)
 have hd:=Fl hnn (by omega)
 have hld:=Nq (Qa xs)
 have htd:Tr (Xy (Qa xs)):=Mv ht
 have m1:=Oc hnn
 have m2:=Oc hd
 have l0:=List.length_pos_iff.2 h0
 have hgA:gA (Qa xs) (Xy (Qa xs))=Yx (Qa xs):=if_neg (by omega)
 have hgB:gB (Qa xs) (Xy (Qa xs))=Yx (Xy (Qa xs)):=if_neg (by omega)
 have hok:eok F (gA (Qa xs) (Xy (Qa xs))) (gB (Qa xs) (Xy (Qa xs))):=by
  rw [hgA,hgB]
  refine(Zwl (n:=n+5) (s:=5) (K:=n+11) (by rw [Yv,Yv];omega) (Xu ht) (Xu htd) (Fj (hnn.mono (by omega))) (Fj hd) ?_ (by omega) ?_ ?_ ?_).1
  ·rw [Yv,Yv];omega
  ·rw [Yv,Yv];exact Ybo (by omega) (by omega) (by omega)
  ·rw [Yv]
   exact Nat.le_trans (Nat.mul_le_mul (show(Qa xs).length+1≤14 by omega) (show n+5+1≤300 by omega)) (by decide)
  ·rw [Yv];omega
 obtain⟨f1,f2,f3,f4,f5,f6⟩:=Mf (F:=F) hx h0 hok
 have hg:=Zdv (F:=F) ht htd
 have hn0:=Zhy hx h0
 have hK:kkR 24 13*(24+1)^13<2^130:=by decide +kernel
 have hq:=Eg (L:=13) (R:=24) f2 hg hnn hn0 ht (by omega) (by decide) hK f4
 have hgs:=Eg (L:=13) (R:=24) hg f2 hnn hn0 ht (by omega) (by decide) hK (by rw [Bz];exact f4)
 have hlq:=Nv f2 hg f3 f5
 rw [←f4]at hlq
 have lg:=List.length_pos_iff.2 f5
 have lq:=List.length_pos_iff.2 f3
 have mg:=Oc hgs
 have hql:(sqf F xs).length≤xs.length:=by omega
 have hqd:=Fl hq (by omega)
 have hlqd:=Nq (sqf F xs)
 have hc:=Yf6 (a:=sqf F xs) (b:=Yx (Xy (sqf F xs))) (n:=n+130+5) (s:=5) (K:=n+141) (f:=F) (by rw [Yv];omega) f2 (Xu (Mv f2)) (hq.mono (by omega)) (Fj hqd) (by rw [Yv];omega) (by omega) (by rw [Yv];exact Ybo (by omega) (by omega) (by omega)) (Nat.le_trans (Nat.mul_le_mul (show(sqf F xs).length+1≤14 by omega) (show n+130+5+1≤400 by omega)) (by decide)) (by rw [Yv];omega)
 refine⟨⟨⟨fun i _=>Nat.le_trans (Zt4 hnn (by omega) i) (by omega),?_,hok,?_,f1⟩,fun i _=>Nat.le_trans (Zt4 hq (by omega) i) (by omega),hc.1⟩,hq,hql,fun p hp=>?_⟩
 ·intro h
  have h3:(max (Qa xs).length (Xy (Qa xs)).length+2)*(max (Qa xs).length (Xy (Qa xs)).length+2)*(max (Pf (Qa xs)) (Pf (Xy (Qa xs)))+8)≤15*15*280:=Nat.mul_le_mul (Nat.mul_le_mul (by omega) (by omega)) (by omega)
  have:=h.2.2
  omega
 ·unfold Bv
  rw [if_neg (by omega)]
  split
  ·rfl
  ·have:((Qa xs).length-(Mp F (Qa xs) (Xy (Qa xs))).length+1)*(Pf (Mp F (Qa xs) (Xy (Qa xs)))+1)≤14*400:=Nat.mul_le_mul (by omega) (by omega)
   rw [if_neg (by omega)]
 ·obtain⟨a1,a2⟩:=hc.2 p hp
  refine⟨Nat.le_trans a1 (Nat.mul_le_mul_left _ ?_),by omega⟩
  rw [Yv];omega
theorem Dv.ed{g a:List Int}(h:Dv g a):Ed g a:=by
 obtain⟨k,s,hk,h⟩:=h
 refine⟨k,s,hk,fun x=>?_⟩
 have:=Ck (a:=k) (c:=0) (x:=a) (s:=s) (y:=g) (z:=[]) (fun t=>by rw [h t];omega) x
 push_cast at this;grind
theorem Zlm{xs:List Int}{F:Nat}(hx:Tr xs)(h0:xs≠[])(hC:Az F xs)(s t:Rat) :
  ∃h:Rat,0<h∧∀u v,s≤u→u≤v→v≤t→v-u≤h→vat ((chn F xs).map Zu) u-vat ((chn F xs).map Zu) v=crs (Zu (sqf F xs)) u v:=by
 have hok:=hC.1.2.2.1
 obtain⟨f1,f2,f3,f4,f5,f6⟩:=Mf (F:=F) hx h0 hok
 have htp:=Mv f2
 by_cases hd:Xy (sqf F xs)=[]
 ·refine Zj4 (κ:=1) f2 (Xu htp) f3 hC.2.2 (by decide) (fun x=>?_) fun q hq a b=>?_
  ·rw [←Ha,hd];show(0:Rat)=1*0;grind
  ·exact Zf2 hx h0 hok hq a (b.sim (Pr htp))
 ·have hpc:0<Qc (Xy (sqf F xs)):=by
   have h1:=Al htp hd
   have h2:=Lq (Xy (sqf F xs))
   omega
  refine Zj4 (κ:=(Qc (Xy (sqf F xs)):Rat)) f2 (Xu htp) f3 hC.2.2 (by exact_mod_cast hpc) (fun x=>?_) fun q hq a b=>?_
  ·rw [←Ha,←Yn]
   exact Kd x _ _ fun i=>by rw [Og,Int.mul_comm,Eo]
  ·exact Zf2 hx h0 hok hq a (b.sim (Pr htp))
theorem Yfg{p s g q:List Int}(hps:∀x:Rat,Zu p x=Zu s x*Zu g x)(hg:Tr g)(g0:g≠[])(hgd:Ed g (ld p))(hq:Irr q)(hqp:Ed q p):Ed q s:=by
 refine Classical.byContradiction fun hns=>?_
 have hq1:=hq.1
 have hq2:=hq.2.1
 have hqd:¬Ed q (ld q):=fun h=>by
  have h8:Ed q (Xy q):=h.congr fun x=>(Ha q x).symm
  have hl:=Nq q
  have:=(h8.len hq1 (Mv hq1) (fun e=>by rw [e]at hl;simp at hl;omega)).2
  omega
 obtain⟨c1,m1,k1,e1⟩:=hqp
 obtain⟨c2,m,k2,e2⟩:=hgd
 have key:∀k,Ed (Eb q k) g:=fun k=>by
  induction k with
  | zero=>exact⟨1,g,by decide,fun x=>by rw [show Eb q 0=[1]from rfl,Nn];push_cast;grind⟩
  | succ k ih=>
   cases k with
   | zero=>
    have h9:Ed q g:=(Zbh (f:=s) (h:=g) (m:=m1) hq k1 (fun x=>by rw [←hps x];exact e1 x)).resolve_left hns
    exact h9.congr_l fun x=>by rw [De,show Eb q 0=[1]from rfl,Nn];push_cast;grind
   | succ k=>
    obtain⟨c,u,kc,eu⟩:=ih
    have hd:∀x:Rat,(c:Rat)*Zu (ld g) x=Zu (ld u) x*Zu (Eb q (k+1)) x+Zu u x*(((k:Rat)+1)*(Zu (Eb q k) x*Zu (ld q) x)):=fun x=>by
     have:=Cv (p:=g.map fun a=>c*a) (q:=Nb u (Eb q (k+1))) (fun y=>by rw [Yn,Xe];exact eu y) x
     rwa [Zad,Br,Zoi]at this
    have hp:∀x:Rat,Zu (ld p) x=Zu (ld s) x*Zu g x+Zu s x*Zu (ld g) x:=fun x=>by
     have:=Cv (p:=p) (q:=Nb s g) (fun y=>by rw [Xe];exact hps y) x
     rwa [Br]at this
    have hz:∀x:Rat,Zu (Ko ((Nb (Nb s u) (ld q)).map fun a=>(c2*((k:Int)+1))*a) ((Nb (Ko ((Nb s (ld u)).map fun a=>c2*a) ((Nb (Ko m ((ld s).map fun a=>(-c2)*a)) u).map fun a=>(-1)*a)) q))) x=0:=fun x=>by
     refine Dh (v:=Eb q k) (fun e=>?_) (fun x=>?_) x
     ·rw [Zbw (Za8 hq1 hq2 k).1]at e
      have:=(Za8 hq1 hq2 k).2
      rw [e]at this;simp at this
     ·rw [Qz,Yn,Xe,Xe,Xe,Qz,Yn,Xe,Yn,Xe,Qz,Yn]
      have a1:=e2 x;have a2:=hp x;have a3:=hd x;have a4:=eu x
      rw [De]at a3 a4
      push_cast
      have b1:(c2:Rat)*Zu s x*(c*Zu (ld g) x)=(Zu m x-c2*Zu (ld s) x)*(c*Zu g x):=by
       have:(c2:Rat)*Zu s x*(c*Zu (ld g) x)=c*(c2*(Zu (ld p) x-Zu (ld s) x*Zu g x)):=by rw [a2];grind
       rw [this]
       have:(c:Rat)*(c2*(Zu (ld p) x-Zu (ld s) x*Zu g x))=c*(c2*Zu (ld p) x)-c*c2*Zu (ld s) x*Zu g x:=by grind
       rw [this,a1];grind
      rw [a3,a4]at b1
      grind
    have h9:=Zbh (f:=Nb s u) (h:=ld q) (k:=c2*((k:Int)+1)) (m:=Ko ((Nb (Ko m ((ld s).map fun a=>(-c2)*a)) u)) ((Nb s (ld u)).map fun a=>(-c2)*a)) hq (Int.mul_ne_zero k2 (by omega)) (fun x=>by
     have:=hz x
     rw [Qz,Yn,Xe,Xe,Xe,Qz,Yn,Xe,Yn,Xe,Qz,Yn]at this
     rw [Xe,Qz,Xe,Qz,Yn,Yn,Xe]
     push_cast at this ⊢
     grind)
    have h8:=Zbh (f:=s) (h:=u) (k:=1) (m:=[]) hq (by decide)
    have h7:Ed q u:=by
     obtain⟨c3,w,k3,e3⟩:=h9.resolve_right hqd
     exact(Zbh (f:=s) (h:=u) (k:=c3) (m:=w) hq k3 (fun x=>by have:=e3 x;rwa [Xe]at this)).resolve_left hns
    obtain⟨c3,w,k3,e3⟩:=h7
    refine⟨c3*c,w,Int.mul_ne_zero k3 kc,fun x=>?_⟩
    have a4:=eu x;have a5:=e3 x
    rw [De q (k+1)];push_cast
    have:(c3:Rat)*c*Zu g x=c3*(c*Zu g x):=by grind
    rw [this,a4]
    have:(c3:Rat)*(Zu u x*Zu (Eb q (k+1)) x)=(c3*Zu u x)*Zu (Eb q (k+1)) x:=by grind
    rw [this,a5];grind
 obtain⟨a1,a2⟩:=Za8 hq1 hq2 g.length
 have:=((key g.length).len a1 hg g0).2
 omega
theorem Yfb{r d:Int}(hd:d≠0):Irr [-r,d]:=by
 have ht:Tr [-r,d]:= .inr hd
 refine⟨ht,by simp,fun q hq he=>?_⟩
 have:=(he.len hq ht (by simp)).2
 simp at this ⊢;omega
theorem Zi9(r d:Int)(x:Rat):Zu [-r,d] x=(d:Rat)*x-r:=by
 show((-r:Int):Rat)+x*((d:Rat)+x*0)=_;push_cast;grind
theorem Yek{p:List Int}{r d:Int}(hp:Tr p)(hd:d≠0)(h:Zu p ((r:Rat)/d)=0):Ed [-r,d] p:=by
 have hd':(d:Rat)≠0:=by exact_mod_cast hd
 have ht:Tr [-r,d]:= .inr hd
 obtain⟨k,s,hs⟩:=Cx p (q:=[-r,d]) (by simp)
 have hL:=Mw (ht.mem (by simp)) k
 generalize cf [-r,d] ([-r,d].length-1)^k=L at hs hL
 have he:∀x,(L:Rat)*Zu p x=Zu s x*Zu [-r,d] x+Zu (Pn p [-r,d]) x:=fun x=>by
  have:=Ck (a:=L) (c:=-1) (x:=p) (s:=s) (y:=[-r,d]) (z:=Pn p [-r,d]) (fun t=>by rw [hs t];omega) x
  push_cast at this;grind
 have hl:=Oq p (q:=[-r,d]) (by simp)
 have hz:∀x,Zu (Pn p [-r,d]) x=0:=fun x=>by
  have h1:=he ((r:Rat)/d)
  rw [h,Zi9]at h1
  match hr:Pn p [-r,d],hl with
  | [],_=>rfl
  | [c],_=>
   rw [hr,Nn]at h1
   rw [Nn]
   have:(d:Rat)*(r/d)=r:=by grind
   rw [this]at h1;grind
 exact⟨L,s,hL,fun x=>by rw [he x,hz x];grind⟩
theorem Ed.root{p:List Int}{r d:Int}(hd:d≠0)(h:Ed [-r,d] p):Zu p ((r:Rat)/d)=0:=by
 obtain⟨k,s,hk,h⟩:=h
 have hd':(d:Rat)≠0:=by exact_mod_cast hd
 have hk':(k:Rat)≠0:=by exact_mod_cast hk
 have h1:=h ((r:Rat)/d)
 rw [Zi9]at h1
 have:(d:Rat)*(r/d)=r:=by grind
 rw [this]at h1;grind
theorem Zzy{xs:List Int}{F:Nat}(hx:Tr xs)(h0:xs≠[])(hok:eok F (gA (Qa xs) (Xy (Qa xs))) (gB (Qa xs) (Xy (Qa xs)))){r d:Int}(hd:d≠0)(h:Zu xs ((r:Rat)/d)=0):Zu (sqf F xs) ((r:Rat)/d)=0:=by
 obtain⟨f1,f2,f3,f4,f5,f6⟩:=Mf (F:=F) hx h0 hok
 have hs:Tr (Qa xs):=Mm (Xu hx)
 have hd':Tr (Xy (Qa xs)):=Mv hs
 have h1:Ed [-r,d] (Qa xs):=(Yek hx hd h).sim ((Pr hx).symm.trans (Gc _).symm)
 have h2:∀x:Rat,Zu (Qa xs) x=Zu (sqf F xs) x*Zu (Mp F (Qa xs) (Xy (Qa xs))) x:=fun x=>by
  have:Zu (Qa xs) x=Zu (Oo (sqf F xs) (Mp F (Qa xs) (Xy (Qa xs)))) x:=by rw [←f4]
  rw [this,Xo]
 have h3:Ed (Mp F (Qa xs) (Xy (Qa xs))) (ld (Qa xs)):=((Zd7 hs hd' hok).2.ed).congr fun x=>Ha _ x
 exact(Yfg h2 (Zdv hs hd') f5 h3 (Yfb hd) h1).root hd
def Away(s t:Rat)(f:Rat→Rat):Prop:=∃δ:Rat,0<δ∧∀x,s≤x→x≤t→δ≤f x∨f x≤-δ
theorem Away.mul{s t:Rat}{f g h:Rat→Rat}(hf:Away s t f)(hg:Away s t g)(e:∀x,h x=f x*g x):Away s t h:=by
 obtain⟨a,a1,a2⟩:=hf
 obtain⟨b,b1,b2⟩:=hg
 refine⟨a*b,Rat.mul_pos a1 b1,fun x h1 h2=>?_⟩
 rw [e x]
 rcases a2 x h1 h2 with h3 | h3<;>rcases b2 x h1 h2 with h4 | h4
 ·left;have:=Rat.mul_nonneg (a:=f x-a) (b:=g x) (by grind) (by grind);have:=Rat.mul_nonneg (a:=a) (b:=g x-b) (by grind) (by grind);grind
 ·right;have:=Rat.mul_nonneg (a:=f x-a) (b:=- g x) (by grind) (by grind);have:=Rat.mul_nonneg (a:=a) (b:=- g x-b) (by grind) (by grind);grind
 ·right;have:=Rat.mul_nonneg (a:=- f x-a) (b:=g x) (by grind) (by grind);have:=Rat.mul_nonneg (a:=a) (b:=g x-b) (by grind) (by grind);grind
 ·left;have:=Rat.mul_nonneg (a:=- f x-a) (b:=- g x) (by grind) (by grind);have:=Rat.mul_nonneg (a:=a) (b:=- g x-b) (by grind) (by grind);grind
theorem Away.lin{s t:Rat}{r d:Int}(hd:0<d)(h:(r:Rat)<d*s∨(d:Rat)*t<r):Away s t (Zu [-r,d]):=by
 have hd':(0:Rat)<(d:Rat):=by exact_mod_cast hd
 rcases h with h | h
 ·refine⟨d*s-r,by grind,fun x h1 h2=> .inl ?_⟩
  rw [Zi9];have:=Rat.mul_nonneg (a:=(d:Rat)) (b:=x-s) (by grind) (by grind);grind
 ·refine⟨r-d*t,by grind,fun x h1 h2=> .inr ?_⟩
  rw [Zi9];have:=Rat.mul_nonneg (a:=(d:Rat)) (b:=t-x) (by grind) (by grind);grind
theorem Away.sq(s t:Rat):Away s t (Zu [1,0,1]):=⟨1,by decide,fun x _ _=>by
 left
 show(1:Rat)≤((1:Int):Rat)+x*(((0:Int):Rat)+x*(((1:Int):Rat)+x*0))
 have:0≤x*x:=by
  rcases(show 0≤x∨x<0 by grind)with h | h
  ·exact Rat.mul_nonneg h h
  ·have:=Rat.mul_nonneg (a:=-x) (b:=-x) (by grind) (by grind);grind
 push_cast;grind⟩
theorem Away.one(s t:Rat):Away s t (Zu [1]):=⟨1,by decide,fun x _ _=>by left;rw [Nn];exact Rat.le_refl⟩
def cntP(P:Int→Prop)[DecidablePred P](m:Int):Nat→Int
 | 0=>0
 | n+1=>cntP P m n+(if P (m+n+1)then 1 else 0)
def eB(K C:Nat):Nat→Nat
 | 0=>0
 | n+1=>C+K*eB K C n
def eL(K C:Nat):Nat→Nat
 | 0=>0
 | n+1=>K*eL K C n+eB K C n
def eM(K C:Nat):Nat→Nat
 | 0=>0
 | n+1=>eL K C n+K*eM K C n
theorem Fx{a b:Nat}(h:a≤b):(a:Rat)≤(b:Rat):=by exact_mod_cast h
theorem Ydc{c:Int}{C:Nat}(h:c.natAbs≤C):-(C:Rat)≤(c:Rat)∧(c:Rat)≤(C:Rat):=by
 have h1:((-(C:Int):Int):Rat)≤(c:Rat):=by exact_mod_cast (show -(C:Int)≤c by omega)
 have h2:(c:Rat)≤(((C:Nat):Int):Rat):=by exact_mod_cast (show c≤(C:Int) by omega)
 push_cast at h1 h2
 constructor<;>grind
theorem Zpv{c:Int}{p:List Int}{C:Nat}(h:∀i,(cf (c :: p) i).natAbs≤C):c.natAbs≤C∧∀i,(cf p i).natAbs≤C:=⟨h 0,fun i=>h (i+1)⟩
theorem Zoe{K C:Nat} : ∀(n:Nat) (p:List Int),p.length≤n→(∀i,(cf p i).natAbs≤C)→∀x:Rat,-(K:Rat)≤x→x≤(K:Rat)→-(eB K C n:Rat)≤Zu p x∧Zu p x≤(eB K C n:Rat)
 | n,[],_,_,x,_,_=>by
  have h:(0:Rat)≤(eB K C n:Rat):=Fx (Nat.zero_le _)
  show -(eB K C n:Rat)≤0∧(0:Rat)≤(eB K C n:Rat)
  constructor<;>grind
 | 0,c :: p,hl,_,_,_,_=>absurd hl (by simp)
 | n+1,c :: p,hl,hc,x,h1,h2=>by
  obtain⟨hc0,hc1⟩:=Zpv hc
  obtain⟨a1,a2⟩:=Zoe n p (by simpa using hl) hc1 x h1 h2
  obtain⟨b1,b2⟩:=Ydc hc0
  have hK:(0:Rat)≤(K:Rat):=Fx (Nat.zero_le _)
  obtain⟨f1,f2⟩:=Zcq h1 h2 a1 a2 hK
  have e:((eB K C (n+1):Nat):Rat)=(C:Rat)+(K:Rat)*(eB K C n:Rat):=by show((C+K*eB K C n:Nat):Rat)=_;push_cast;rfl
  rw [e,show Zu (c :: p) x=(c:Rat)+x*Zu p x from rfl]
  constructor<;>grind
theorem Zod{K C:Nat} : ∀(n:Nat) (p:List Int),p.length≤n→(∀i,(cf p i).natAbs≤C)→Lip (-(K:Rat)) (K:Rat) (eL K C n:Rat) (Zu p)
 | n,[],_,_,x,y,_,hxy,_=>by
  have h:(0:Rat)≤(eL K C n:Rat):=Fx (Nat.zero_le _)
  have:=Rat.mul_nonneg (a:=(eL K C n:Rat)) (b:=y-x) h (by grind)
  show(0:Rat)-0≤_∧(0:Rat)-0≤_
  constructor<;>grind
 | 0,c :: p,hl,_,_,_,_,_,_=>absurd hl (by simp)
 | n+1,c :: p,hl,hc,x,y,h1,hxy,h2=>by
  obtain⟨hc0,hc1⟩:=Zpv hc
  obtain⟨a1,a2⟩:=Zod n p (by simpa using hl) hc1 x y h1 hxy h2
  obtain⟨b1,b2⟩:=Zoe n p (by simpa using hl) hc1 y (by grind) h2
  have hK:(0:Rat)≤(K:Rat):=Fx (Nat.zero_le _)
  obtain⟨f1,f2⟩:=Zcq (q:=x) (g:=Zu p x-Zu p y) (e:=(eL K C n:Rat)*(y-x)) h1 (by grind) (by grind) (by grind) hK
  have g1:=Rat.mul_nonneg (a:=(eB K C n:Rat)-Zu p y) (b:=y-x) (by grind) (by grind)
  have g2:=Rat.mul_nonneg (a:=(eB K C n:Rat)+Zu p y) (b:=y-x) (by grind) (by grind)
  have e:((eL K C (n+1):Nat):Rat)=(K:Rat)*(eL K C n:Rat)+(eB K C n:Rat):=by show((K*eL K C n+eB K C n:Nat):Rat)=_;push_cast;rfl
  rw [e,show Zu (c :: p) x=(c:Rat)+x*Zu p x from rfl,show Zu (c :: p) y=(c:Rat)+y*Zu p y from rfl]
  constructor<;>grind
theorem Yaj{K C:Nat} : ∀(n:Nat) (p:List Int),p.length≤n→(∀i,(cf p i).natAbs≤C)→Tay (-(K:Rat)) (K:Rat) (eM K C n:Rat) p
 | n,[],_,_,x,y,_,hxy,_=>by
  have h:(0:Rat)≤(eM K C n:Rat):=Fx (Nat.zero_le _)
  have h1:=Rat.mul_nonneg (a:=y-x) (b:=y-x) (by grind) (by grind)
  have:=Rat.mul_nonneg h h1
  show -((eM K C n:Rat)*(y-x)*(y-x))≤(0:Rat)-0-(y-x)*0∧(0:Rat)-0-(y-x)*0≤(eM K C n:Rat)*(y-x)*(y-x)
  constructor<;>grind
 | 0,c :: p,hl,_,_,_,_,_,_=>absurd hl (by simp)
 | n+1,c :: p,hl,hc,x,y,hs,hxy,ht=>by
  obtain⟨hc0,hc1⟩:=Zpv hc
  obtain⟨a1,a2⟩:=Yaj n p (by simpa using hl) hc1 x y hs hxy ht
  obtain⟨b1,b2⟩:=Zod n p (by simpa using hl) hc1 x y hs hxy ht
  have hK:(0:Rat)≤(K:Rat):=Fx (Nat.zero_le _)
  have hd:0≤y-x:=by grind
  obtain⟨f1,f2⟩:=Zcq (q:=x) (Q:=(K:Rat)) (g:=Zu p y-Zu p x-(y-x)*Zu (ld p) x) (e:=(eM K C n:Rat)*(y-x)*(y-x)) hs (by grind) a1 a2 hK
  have g1:=Rat.mul_nonneg (a:=y-x) (b:=(eL K C n:Rat)*(y-x)-(Zu p y-Zu p x)) hd (by grind)
  have g2:=Rat.mul_nonneg (a:=y-x) (b:=(eL K C n:Rat)*(y-x)+(Zu p y-Zu p x)) hd (by grind)
  have e:((eM K C (n+1):Nat):Rat)=(eL K C n:Rat)+(K:Rat)*(eM K C n:Rat):=by show((eL K C n+K*eM K C n:Nat):Rat)=_;push_cast;rfl
  rw [e,Zge,show Zu (c :: p) y=(c:Rat)+y*Zu p y from rfl,show Zu (c :: p) x=(c:Rat)+x*Zu p x from rfl]
  constructor<;>grind
theorem Zt5{a b:List Int}{A:Nat}(ha:Tr a)(hb:Tr b)(la:2≤a.length)(lb:b.length+1=a.length)(hA:0<A)(na:∀i,(cf a i).natAbs≤A)(nb:∀i,(cf b i).natAbs≤A)(hc:∀q,Tr q→Ed q a→Ed q b→q.length≤1) :
  ∃(U V:List Int) (c:Int),c≠0∧U.length+2=a.length∧V.length+1=a.length∧(∀i,(cf U i).natAbs≤(2*(2*a.length-3)*A)^(2*a.length-4))∧(∀i,(cf V i).natAbs≤(2*(2*a.length-3)*A)^(2*a.length-4))∧
   ∀x,(c:Rat)=Zu U x*Zu a x+Zu V x*Zu b x:=by
 obtain⟨U,V,lU,lV,hne,bU,bV,hz⟩:=Zib (a:=a) (b:=b) (p:=a.length-2) (q:=a.length-1) (lo:=1) hA na nb (by omega) (by omega) (by omega)
 have hne2:¬(tzl U=[]∧tzl V=[]):=fun⟨h1,h2⟩=>by
  rcases hne with⟨i,hi⟩ | ⟨i,hi⟩
  ·exact hi ((Ik U).1 h1 i)
  ·exact hi ((Ik V).1 h2 i)
 clear hne
 rw [show a.length-2+(a.length-1)=2*a.length-3 by omega]at bU bV
 rw [show 2*a.length-3-1=2*a.length-4 by omega]at bU bV
 have ha0:a≠[]:=fun e=>by rw [e]at la;simp at la
 have cR:∀i,cf (Ko (Nb U a) (Nb V b)) i=(ps U*ps a).c i+(ps V*ps b).c i:=fun i=>by
  rw [Hb,Dn,Dn,PS.mul_c,PS.mul_c];rfl
 have rR:∀t,Zu (Ko (Nb U a) (Nb V b)) t=Zu U t*Zu a t+Zu V t*Zu b t:=fun t=>by rw [Qz,Xe,Xe]
 generalize Ko (Nb U a) (Nb V b)=R at cR rR
 have hR:∀t,Zu R t=(cf R 0:Rat):=fun t=>by
  rw [←Nn (cf R 0) t]
  refine Kd t _ _ fun i=>?_
  match i with
  | 0=>rfl
  | i+1=>rw [cR,hz (i+1) (by omega),Xt (by simp)]
 refine⟨U,V,cf R 0,fun h0=>?_,by omega,by omega,bU,bV,fun x=>by rw [←rR,hR]⟩
 have hz0:∀t,Zu U t*Zu a t+Zu V t*Zu b t=0:=fun t=>by rw [←rR,hR,h0];rfl
 obtain⟨g,P,Q,g1,g2,g3,g4⟩:=Zlu _ a b ha hb (Nat.le_refl _)
 have hl:=hc g g1 g2 g3
 have hg:=(g2.len g1 ha ha0).1
 have hV:tzl V=[]:=by
  refine Classical.byContradiction fun hV=>?_
  match g,hg,hl,g1,g4 with
  | [c],_,_,g1,g4=>
   have hc0:c≠0:=g1.mem (by simp)
   have hd:Ed a (tzl V):=⟨c,Ko (Nb P V) ((Nb Q U).map fun z=>(-1)*z),hc0,fun x=>by
    have h4:=g4 x
    rw [Nn]at h4
    rw [Kf,Qz,Yn,Xe,Xe,h4]
    have:=hz0 x
    have e:Zu V x*Zu b x=- (Zu U x*Zu a x):=by grind
    have:(Zu P x*Zu a x+Zu Q x*Zu b x)*Zu V x=Zu P x*Zu V x*Zu a x+Zu Q x*(Zu V x*Zu b x):=by grind
    rw [this,e];push_cast;grind⟩
   have:=(hd.len ha (Nk V) hV).2
   have:=Hc V
   omega
  | c :: d :: r,_,h9,_,_=>simp at h9
 have hU:tzl U=[]:=by
  refine Classical.byContradiction fun hU=>?_
  have:∀t,Zu a t=0:=Dh (v:=U) hU fun t=>by
   have:=hz0 t
   rw [Zac hV]at this
   grind
  exact ha.mem ha0 (Zvf this _)
 exact hne2 ⟨hU,hV⟩
def Zu9(K A n e:Nat):Bool:=
 let X:=(2*(2*n-3)*A)^(2*n-4)
 let W:=eB K X (n-1)
 Nat.ble (2*(2*W+1)*(2*eL K A n)) (2^e) && Nat.ble (2*(2*W+1)*eM K A n) (2^e)
theorem big_or {a b:List Int} {K A n e:Nat} (hK:0<K) (hA:0<A) (ha:Tr a) (hb:Tr b) (hn:a.length=n) (h2:2≤n) (lb:b.length+1=a.length) (na:∀i,(cf a i).natAbs≤A) (nb:∀i,(cf b i).natAbs≤A) (hc:∀q,Tr q→Ed q a→Ed q b→q.length≤1)
  (x:Rat) (h1:-(K:Rat)≤x) (h3:x≤(K:Rat)):Big (1/((2*eB K ((2*(2*n-3)*A)^(2*n-4)) (n-1)+1:Nat):Rat)) x (Zu a)∨Big (1/((2*eB K ((2*(2*n-3)*A)^(2*n-4)) (n-1)+1:Nat):Rat)) x (Zu b):=by
 obtain⟨U,V,c,c0,lU,lV,bU,bV,hid⟩:=Zt5 ha hb (by omega) lb hA na nb hc
 rw [hn]at bU bV
 generalize (2*(2*n-3)*A)^(2*n-4)=X at *
 obtain⟨u1,u2⟩:=Zoe (n-1) U (by omega) bU x h1 h3
 obtain⟨v1,v2⟩:=Zoe (n-1) V (by omega) bV x h1 h3
 generalize eB K X (n-1)=W at *
 have hW:(0:Rat)≤(W:Rat):=Fx (Nat.zero_le _)
 have hD:(0:Rat)<((2*W+1:Nat):Rat):=by
   have:(((0:Nat)):Rat)<((2*W+1:Nat):Rat):=by exact_mod_cast Nat.succ_pos _
   exact this
 have hDe:((2*W+1:Nat):Rat)=2*(W:Rat)+1:=by push_cast;rfl
 generalize hε:1/((2*W+1:Nat):Rat)=ε
 have hε2:ε*(2*(W:Rat)+1)=1:=by rw [←hε,hDe];rw [hDe]at hD;grind
 have hε0:0≤ε:=by
  rw [←hε]
  have:=Rat.inv_pos.2 hD
  rw [Rat.div_def];grind
 by_cases p1:Big ε x (Zu a)
 ·exact .inl p1
 ·by_cases p2:Big ε x (Zu b)
  ·exact .inr p2
  ·exfalso
   obtain⟨a1,a2⟩:=Zea p1
   obtain⟨b1,b2⟩:=Zea p2
   obtain⟨q1,q2⟩:=Zcq u1 u2 a1 a2 hW
   obtain⟨r1,r2⟩:=Zcq v1 v2 b1 b2 hW
   have h4:=hid x
   have h5:(c:Rat)≤-1∨1≤(c:Rat):=by
    rcases Int.lt_or_gt_of_ne c0 with h | h
    ·left;have:((c:Int):Rat)≤((-1:Int):Rat):=by exact_mod_cast (show c≤-1 by omega)
     rwa [show(((-1:Int)):Rat)=-1 from rfl]at this
    ·right;have:1≤c:=by omega
     exact_mod_cast this
   have hεp:0<ε:=by
    rcases(show ε=0∨0<ε by grind)with h | h
    ·rw [h]at hε2;grind
    ·exact h
   rcases h5 with h5 | h5<;>grind
theorem two_pow_pos(e:Nat):(0:Rat)<((2^e:Nat):Rat):=by
 have:0<2^e:=Nat.pow_pos (by decide)
 exact_mod_cast this
theorem Ygg {xs:List Int} {F K A n e:Nat} (hx:Tr xs) (h0:xs≠[]) (hC:Az F xs) (hK:0<K) (hA:0<A) (hn:(sqf F xs).length=n) (h2:2≤n) (na:∀i,(cf (sqf F xs) i).natAbs≤A) (nb:∀i,(cf (Xy (sqf F xs)) i).natAbs≤A) (hs:Zu9 K A n e=true)
  {u v:Rat} (h1:-(K:Rat)≤u) (huv:u≤v) (h3:v≤(K:Rat)) (hh:v-u≤1/((2^e:Nat):Rat)) :
  vat ((chn F xs).map Zu) u-vat ((chn F xs).map Zu) v=crs (Zu (sqf F xs)) u v:=by
 have hok:=hC.1.2.2.1
 obtain⟨f1,f2,f3,f4,f5,f6⟩:=Mf (F:=F) hx h0 hok
 have htp:=Mv f2
 have hlp:=Nq (sqf F xs)
 have hd:Xy (sqf F xs)≠[]:=fun e=>by rw [e]at hlp;simp at hlp;omega
 have hpc:1≤Qc (Xy (sqf F xs)):=by
  have h1:=Al htp hd
  have h2:=Lq (Xy (sqf F xs))
  omega
 have hpc':(1:Rat)≤(Qc (Xy (sqf F xs)):Rat):=by exact_mod_cast hpc
 have nbp:∀i,(cf (Yx (Xy (sqf F xs))) i).natAbs≤A:=fun i=>by
  have h5:=Eo (Xy (sqf F xs)) i
  have h6:=nb i
  rw [←h5,Int.natAbs_mul]at h6
  have:(cf (Yx (Xy (sqf F xs))) i).natAbs*1≤(cf (Yx (Xy (sqf F xs))) i).natAbs*(Qc (Xy (sqf F xs))).natAbs:=Nat.mul_le_mul_left _ (by omega)
  omega
 have hcop:∀q,Tr q→Ed q (sqf F xs)→Ed q (Yx (Xy (sqf F xs)))→q.length≤1:=fun q hq a b=>Zf2 hx h0 hok hq a (b.sim (Pr htp))
 have hlb:(Yx (Xy (sqf F xs))).length+1=(sqf F xs).length:=by rw [Yv];omega
 have hbig:=big_or (e:=e) hK hA f2 (Xu htp) hn h2 hlb na nbp hcop
 unfold Zu9 at hs
 simp only [Bool.and_eq_true,Nat.ble_eq]at hs
 obtain⟨s1,s2⟩:=hs
 generalize (2*(2*n-3)*A)^(2*n-4)=X at *
 generalize eB K X (n-1)=W at *
 have hD:(0:Rat)<((2*W+1:Nat):Rat):=by
   have:(((0:Nat)):Rat)<((2*W+1:Nat):Rat):=by exact_mod_cast Nat.succ_pos _
   exact this
 have hP:=two_pow_pos e
 have s1':=Fx s1
 have s2':=Fx s2
 have c1:((2*(2*W+1)*(2*eL K A n):Nat):Rat)=2*((2*W+1:Nat):Rat)*(2*(eL K A n:Rat)):=by push_cast;rfl
 have c2:((2*(2*W+1)*eM K A n:Nat):Rat)=2*((2*W+1:Nat):Rat)*(eM K A n:Rat):=by push_cast;rfl
 rw [c1]at s1'
 rw [c2]at s2'
 have hi:=Rat.inv_pos.2 hD
 have hj:=Rat.inv_pos.2 hP
 have hii:((2*W+1:Nat):Rat)*((2*W+1:Nat):Rat)⁻¹=1:=by grind
 have hjj:((2^e:Nat):Rat)*((2^e:Nat):Rat)⁻¹=1:=by grind
 rw [Rat.div_def,Rat.one_mul]at hh
 simp only [Rat.div_def,Rat.one_mul]at hbig
 generalize ((2*W+1:Nat):Rat)=D at *
 generalize ((2^e:Nat):Rat)=P at *
 have hLn:(0:Rat)≤(eL K A n:Rat):=Fx (Nat.zero_le _)
 have hMn:(0:Rat)≤(eM K A n:Rat):=Fx (Nat.zero_le _)
 refine Zia (s:=-(K:Rat)) (t:=(K:Rat)) (κ:=(Qc (Xy (sqf F xs)):Rat)) (ε:=D⁻¹) (L:=(eL K A n:Rat)) (L':=(eL K A n:Rat)) (M:=(eM K A n:Rat)) (h:=P⁻¹) f2 (Xu htp) hC.2.2 (by grind) (fun x=>?_) hi hbig hLn (Zod n _ (by omega) na) hLn (Zod n _ (by omega) nbp) hMn (Yaj n _ (by omega) na) hj ?_ ?_ h1 huv h3 hh
 ·rw [←Ha,←Yn]
  exact Kd x _ _ fun i=>by rw [Og,Int.mul_comm,Eo]
 ·-- P⁻¹ * (2 L) ≤ D⁻¹ / 2
  have t1:=Rat.mul_nonneg (a:=P⁻¹*D⁻¹) (b:=P-2*D*(2*(eL K A n:Rat))) (by have:=Rat.mul_pos hj hi;grind) (by grind)
  have e1:P⁻¹*D⁻¹*(P-2*D*(2*(eL K A n:Rat)))=D⁻¹*(P*P⁻¹)-2*P⁻¹*(D*D⁻¹)*(2*(eL K A n:Rat)):=by grind
  rw [e1,hii,hjj]at t1
  grind
 ·have t1:=Rat.mul_nonneg (a:=P⁻¹*D⁻¹) (b:=P-2*D*(eM K A n:Rat)) (by have:=Rat.mul_pos hj hi;grind) (by grind)
  have e1:P⁻¹*D⁻¹*(P-2*D*(eM K A n:Rat))=D⁻¹*(P*P⁻¹)-2*P⁻¹*(D*D⁻¹)*(eM K A n:Rat):=by grind
  rw [e1,hii,hjj]at t1
  have t2:=Rat.mul_nonneg (a:=(Qc (Xy (sqf F xs)):Rat)-1) (b:=D⁻¹) (by grind) (by grind)
  grind
theorem Zln{xs:List Int}{F:Nat}(hx:Tr xs)(h0:xs≠[])(hC:Az F xs){s t:Rat}(hst:s≤t):vat ((chn F xs).map Zu) t≤vat ((chn F xs).map Zu) s:=by
 obtain⟨h,h1,h2⟩:=Zlm hx h0 hC s t
 have hc:∀f u v,0≤crs f u v:=fun f u v=>by unfold crs;split<;>decide
 have key:∀n:Nat,∀y,s≤y→y≤t→y-s≤(n:Rat)*h→vat ((chn F xs).map Zu) y≤vat ((chn F xs).map Zu) s:=fun n=>by
  induction n with
  | zero=>
    intro y h3 h4 h5;have:y=s:=by simp at h5;grind
    rw [this];exact Int.le_refl _
  | succ n ih=>
   intro y h3 h4 h5
   have h6:((n+1:Nat):Rat)*h=(n:Rat)*h+h:=by push_cast;grind
   rcases(show y-s≤(n:Rat)*h∨(n:Rat)*h<y-s by grind)with h7 | h7
   ·exact ih y h3 h4 h7
   ·have h8:(0:Rat)≤(n:Rat)*h:=Rat.mul_nonneg (by exact_mod_cast Nat.zero_le n) (by grind)
    rcases(show s≤y-h∨y-h<s by grind)with h9 | h9
    ·have a:=ih (y-h) h9 (by grind) (by grind)
     have b:=h2 (y-h) y h9 (by grind) h4 (by grind)
     have c:=hc (Zu (sqf F xs)) (y-h) y
     omega
    ·have b:=h2 s y (by grind) h3 h4 (by grind)
     have c:=hc (Zu (sqf F xs)) s y
     omega
 have h3:∃n:Nat,t-s≤(n:Rat)*h:=by
  have h4:0<h⁻¹:=Rat.inv_pos.2 h1
  refine⟨((t-s)*h⁻¹).ceil.toNat,?_⟩
  have h5:=@Rat.le_ceil ((t-s)*h⁻¹)
  have h6:((((t-s)*h⁻¹).ceil:Int):Rat)≤((((t-s)*h⁻¹).ceil.toNat:Nat):Rat):=by
   have:((t-s)*h⁻¹).ceil≤((((t-s)*h⁻¹).ceil.toNat:Nat):Int):=Int.self_le_toNat _
   exact_mod_cast this
  have h7:=Rat.mul_le_mul_of_nonneg_right (Rat.le_trans h5 h6) (show 0≤h by grind)
  have h8:(t-s)*h⁻¹*h=t-s:=by grind
  grind
 obtain⟨n,hn⟩:=h3
 exact key n t hst (by grind) hn
def qv(z:R2):Rat:=(z.1:Rat)/(z.2:Rat)
theorem Zsj{x y X Y g:Nat}(hg:g=Nat.gcd x y)(hy:0<y)(hY:0<Y)(h:x*Y=X*y):y/g∣Y∧x/g≤X:=by
 have hg0:0<g:=by rw [hg];exact Nat.gcd_pos_of_pos_right _ hy
 have hc:Nat.Coprime (x/g) (y/g):=by rw [hg];exact Nat.coprime_div_gcd_div_gcd (by rw [←hg];exact hg0)
 have hx':x/g*g=x:=Nat.div_mul_cancel (by rw [hg];exact Nat.gcd_dvd_left _ _)
 have hy':y/g*g=y:=Nat.div_mul_cancel (by rw [hg];exact Nat.gcd_dvd_right _ _)
 have h2:x/g*Y=X*(y/g):=by
  refine Nat.eq_of_mul_eq_mul_right hg0 ?_
  have e1:x/g*Y*g=x/g*g*Y:=by grind
  have e2:X*(y/g)*g=X*(y/g*g):=by grind
  rw [e1,e2,hx',hy',h]
 have hd:y/g∣Y:=hc.symm.dvd_of_dvd_mul_left (by rw [h2];exact Nat.dvd_mul_left _ _)
 refine⟨hd,?_⟩
 obtain⟨k,hk⟩:=hd
 have hk0:0<k:=Nat.pos_of_ne_zero fun e=>by rw [e,Nat.mul_zero]at hk;omega
 have hyg:0<y/g:=Nat.pos_of_ne_zero fun e=>by rw [e,Nat.zero_mul]at hy';omega
 rw [hk]at h2
 have h3:x/g*k=X:=by
  refine Nat.eq_of_mul_eq_mul_right hyg ?_
  have:x/g*k*(y/g)=x/g*(y/g*k):=by grind
  rw [this,h2]
 rw [←h3]
 exact Nat.le_mul_of_pos_right _ hk0
theorem Zo5{x y X Y:Int}(hy:0<y)(hY:0<Y)(h:x*Y=X*y){B:Nat}(hX:bl X.natAbs≤B)(hYb:bl Y.natAbs≤B)(hB:B≤65536) :
  ¬Hd x y∧Cu x y∣Y∧0<Cu x y∧bl (Bp x y).natAbs≤B∧bl (Cu x y).natAbs≤B∧Bp x y*y=x*Cu x y:=by
 have hg:Kw x y=(Nat.gcd x.natAbs y.natAbs:Int):=by rw [Yfd (by omega)];rfl
 have hn:x.natAbs*Y.natAbs=X.natAbs*y.natAbs:=by rw [←Int.natAbs_mul,←Int.natAbs_mul,h]
 obtain⟨d1,d2⟩:=Zsj (g:=Nat.gcd x.natAbs y.natAbs) rfl (by omega:0<y.natAbs) (by omega:0<Y.natAbs) hn
 have e1:(y/Kw x y).natAbs=y.natAbs/Nat.gcd x.natAbs y.natAbs:=by
  rw [Int.natAbs_ediv_of_dvd (Zk2 x y),Zdd]
 have e2:(x/Kw x y).natAbs=x.natAbs/Nat.gcd x.natAbs y.natAbs:=by
  rw [Int.natAbs_ediv_of_dvd (Zrr x y),Zdd]
 have b1:bl (y/Kw x y).natAbs≤B:=Nat.le_trans (Nu (by rw [e1];exact Nat.le_of_dvd (by omega) d1)) hYb
 have b2:bl (x/Kw x y).natAbs≤B:=Nat.le_trans (Nu (by rw [e2];exact d2)) hX
 have hf:¬Hd x y:=fun h=>by unfold Hd at h;omega
 obtain⟨n1,n2,-⟩:=Zfe hf
 refine⟨hf,?_,Zkw hf hy,by rw [n1];exact b2,by rw [n2];exact b1,?_⟩
 ·rw [n2]
  refine Int.natAbs_dvd_natAbs.1 ?_
  rw [e1];exact d1
 ·rw [n1,n2];exact Yb8 x y
structure En (K Q:Nat) (d:Nat) (z:R2):Prop where
 pos:0<z.2
 dv:z.2∣((Q*2^d:Nat):Int)
 lo:-(K:Rat)≤qv z
 hi:qv z≤(K:Rat)
theorem En.up{K Q d:Nat}{z:R2}(h:En K Q d z):En K Q (d+1) z:=by
 obtain⟨h1,h2,h3,h4⟩:=h
 refine⟨h1,?_,h3,h4⟩
 have:((Q*2^(d+1):Nat):Int)=((Q*2^d:Nat):Int)*2:=by rw [Nat.pow_succ];push_cast;grind
 rw [this];exact Int.dvd_trans h2 (Int.dvd_mul_right _ _)
theorem canc{N p s Y X D:Int}(hp:p≠0)(h1:N*p=s*D)(h2:s*Y=X*p):N*Y=X*D:=by
 refine Int.eq_of_mul_eq_mul_right hp ?_
 have e1:N*Y*p=(N*p)*Y:=by grind
 have e2:X*D*p=(X*p)*D:=by grind
 rw [e1,e2,h1,←h2];grind
theorem Gw{z:Int}(h:0<z):(0:Rat)<(z:Rat):=by exact_mod_cast h
theorem Zdp{n m:Nat}(h:n<2^m):bl n≤m:=(Mj m n).2 h
theorem Ybz{K Q d B:Nat}{a b:R2}(ha:En K Q d a)(hb:En K Q d b)(hQ:0<Q)(hB1:Q*2^(d+1)<2^B)(hB2:2*K*(Q*2^d)<2^B)(hB:B≤65536) :
  Zag a b∧En K Q (d+1) (Pe a b)∧qv (Pe a b)=(qv a+qv b)/2∧bl (Pe a b).1.natAbs≤B∧bl (Pe a b).2.natAbs≤B:=by
 obtain⟨pa,⟨ka,da⟩,la,ua⟩:=ha
 obtain⟨pb,⟨kb,db⟩,lb,ub⟩:=hb
 generalize hY:((Q*2^d:Nat):Int)=Y at *
 have hQd:0<Q*2^d:=Nat.mul_pos hQ (Nat.pow_pos (by decide))
 have hY0:0<Y:=by rw [←hY];exact_mod_cast hQd
 have rpa:=Gw pa
 have rpb:=Gw pb
 have rY:=Gw hY0
 have hpp:0<a.2*b.2:=Int.mul_pos pa pb
 have hsum:(a.1*b.2+b.1*a.2)*Y=(a.1*ka+b.1*kb)*(a.2*b.2):=by
  have e1:(a.1*ka+b.1*kb)*(a.2*b.2)=a.1*b.2*(a.2*ka)+b.1*a.2*(b.2*kb):=by grind
  rw [e1,←da,←db];grind
 have hqa:(a.1:Rat)*ka=qv a*Y:=by
  unfold qv;have:(Y:Rat)=(a.2:Rat)*ka:=by rw [da];push_cast;rfl
  rw [this];grind
 have hqb:(b.1:Rat)*kb=qv b*Y:=by
  unfold qv;have:(Y:Rat)=(b.2:Rat)*kb:=by rw [db];push_cast;rfl
  rw [this];grind
 have hX:((a.1*ka+b.1*kb:Int):Rat)=(qv a+qv b)*Y:=by push_cast;rw [hqa,hqb];grind
 have hXb:(a.1*ka+b.1*kb).natAbs≤2*K*(Q*2^d):=by
  have hKn:((2*K*(Q*2^d):Nat):Rat)=2*(K:Rat)*(Y:Rat):=by rw [←hY];push_cast;grind
  have t1:=Rat.mul_nonneg (a:=2*(K:Rat)-(qv a+qv b)) (b:=(Y:Rat)) (by grind) (by grind)
  have t2:=Rat.mul_nonneg (a:=2*(K:Rat)+(qv a+qv b)) (b:=(Y:Rat)) (by grind) (by grind)
  have u1:((a.1*ka+b.1*kb:Int):Rat)≤(((2*K*(Q*2^d):Nat):Int):Rat):=by rw [hX];push_cast at hKn ⊢;grind
  have u2:((-((2*K*(Q*2^d):Nat):Int):Int):Rat)≤((a.1*ka+b.1*kb:Int):Rat):=by rw [hX];push_cast at hKn ⊢;grind
  have v1:a.1*ka+b.1*kb≤((2*K*(Q*2^d):Nat):Int):=by exact_mod_cast u1
  have v2:-((2*K*(Q*2^d):Nat):Int)≤a.1*ka+b.1*kb:=by exact_mod_cast u2
  omega
 have hYb:Y.natAbs=Q*2^d:=by rw [←hY];rfl
 have hB3:Q*2^(d+1)=2*(Q*2^d):=by rw [Nat.pow_succ];grind
 have hbY:bl Y.natAbs≤B:=Zdp (by rw [hYb];omega)
 have hbX:bl (a.1*ka+b.1*kb).natAbs≤B:=Zdp (by omega)
 obtain⟨f1,f2,f3,f4,f5,f6⟩:=Zo5 hpp hY0 hsum hbX hbY hB
 have hv1:=canc (Int.ne_of_gt hpp) f6 hsum
 have hbY2:bl (2*Y).natAbs≤B:=Zdp (by rw [Int.natAbs_mul,hYb];show 2*(Q*2^d)<_;omega)
 have hs2:Bp (a.1*b.2+b.1*a.2) (a.2*b.2)*1*(2*Y)=(a.1*ka+b.1*kb)*(Cu (a.1*b.2+b.1*a.2) (a.2*b.2)*2):=by
  rw [Int.mul_one]
  have e1:Bp (a.1*b.2+b.1*a.2) (a.2*b.2)*(2*Y)=2*(Bp (a.1*b.2+b.1*a.2) (a.2*b.2)*Y):=by grind
  rw [e1,hv1];grind
 have hp2:0<Cu (a.1*b.2+b.1*a.2) (a.2*b.2)*2:=by omega
 obtain⟨g1,g2,g3,g4,g5,g6⟩:=Zo5 hp2 (by omega:0<2*Y) hs2 hbX hbY2 hB
 have hv2:=canc (Int.ne_of_gt hp2) g6 hs2
 have hm1:(Pe a b).1=Bp (Bp (a.1*b.2+b.1*a.2) (a.2*b.2)*1) (Cu (a.1*b.2+b.1*a.2) (a.2*b.2)*2):=rfl
 have hm2:(Pe a b).2=Cu (Bp (a.1*b.2+b.1*a.2) (a.2*b.2)*1) (Cu (a.1*b.2+b.1*a.2) (a.2*b.2)*2):=rfl
 rw [←hm1,←hm2]at hv2
 rw [←hm2]at g2 g3 g5
 rw [←hm1]at g4
 have hq:qv (Pe a b)=(qv a+qv b)/2:=by
  have h1:(((Pe a b).1:Int):Rat)*(2*(Y:Rat))=((a.1*ka+b.1*kb:Int):Rat)*(((Pe a b).2:Int):Rat):=by
   have:(((Pe a b).1*(2*Y):Int):Rat)=(((a.1*ka+b.1*kb)*(Pe a b).2:Int):Rat):=by rw [hv2]
   push_cast at this ⊢;grind
  rw [hX]at h1
  have rd:=Gw g3
  unfold qv at *
  generalize (((Pe a b).1:Int):Rat)=n at *
  generalize (((Pe a b).2:Int):Rat)=m at *
  generalize (a.1:Rat)/(a.2:Rat)=p at *
  generalize (b.1:Rat)/(b.2:Rat)=q at *
  generalize (Y:Rat)=y at *
  grind
 refine⟨⟨f1,g1⟩,⟨g3,?_,by rw [hq];grind,by rw [hq];grind⟩,hq,g4,g5⟩
 have e:((Q*2^(d+1):Nat):Int)=2*Y:=by rw [hB3,←hY];push_cast;rfl
 rw [e];exact g2
def vch(F:Nat)(xs:List Int)(x:Rat):Int:=vat ((chn F xs).map Zu) x
theorem cvc_v{F:Nat}{xs:List Int}{z:R2}(h:0<z.2):cvc F xs z=vch F xs (qv z):=Yf9 h
def Sqn(P:R2→R2→Prop)(hi:Rat):Rat→List (R2×R2)→Prop
 | lo,[]=>lo≤hi
 | lo,c :: r=>lo≤qv c.1∧qv c.1<qv c.2∧P c.1 c.2∧Sqn P hi (qv c.2) r
theorem Sqn.le{P:R2→R2→Prop}{hi:Rat} : ∀{lo:Rat} {l:List (R2×R2)},Sqn P hi lo l→lo≤hi
 | lo,[],h=>h
 | lo,c :: r,h=>by have:=Sqn.le h.2.2.2;have:=h.1;have:=h.2.1;grind
theorem Zhv{a:R2}{K:Nat}(ha:0<a.2)(h:a.1.natAbs≤K):-(K:Rat)≤qv a∧qv a≤(K:Rat):=by
 obtain⟨c1,c2⟩:=Ydc h
 have ra:(1:Rat)≤(a.2:Rat):=by exact_mod_cast (show 1≤a.2 by omega)
 have hK:(0:Rat)≤(K:Rat):=Fx (Nat.zero_le _)
 have hi:=Rat.inv_pos.2 (show 0<(a.2:Rat) by grind)
 have hm:(a.2:Rat)*(a.2:Rat)⁻¹=1:=by grind
 unfold qv;rw [Rat.div_def]
 have t1:=Rat.mul_nonneg (a:=(a.2:Rat)⁻¹) (b:=(K:Rat)*a.2-a.1) (by grind) (by have:=Rat.mul_nonneg (a:=(K:Rat)) (b:=(a.2:Rat)-1) hK (by grind);grind)
 have t2:=Rat.mul_nonneg (a:=(a.2:Rat)⁻¹) (b:=(K:Rat)*a.2+a.1) (by grind) (by have:=Rat.mul_nonneg (a:=(K:Rat)) (b:=(a.2:Rat)-1) hK (by grind);grind)
 have e1:(a.2:Rat)⁻¹*((K:Rat)*a.2-a.1)=(K:Rat)*(a.2*(a.2:Rat)⁻¹)-a.1*(a.2:Rat)⁻¹:=by grind
 have e2:(a.2:Rat)⁻¹*((K:Rat)*a.2+a.1)=(K:Rat)*(a.2*(a.2:Rat)⁻¹)+a.1*(a.2:Rat)⁻¹:=by grind
 rw [e1,hm]at t1
 rw [e2,hm]at t2
 constructor<;>grind
theorem Zc0{a:R2}{n:Nat}(ha:0<a.2)(h1:bl a.1.natAbs≤n)(h2:bl a.2.natAbs≤n)(hn:n≤65536) :
  ¬Hd a.1 a.2∧0<(slow a).2∧bl (slow a).1.natAbs≤n∧bl (slow a).2.natAbs≤n∧qv (slow a)=qv a:=by
 obtain⟨f1,f2,f3,f4,f5,f6⟩:=Zo5 (x:=a.1) (y:=a.2) (X:=a.1) (Y:=a.2) ha ha rfl h1 h2 hn
 refine⟨f1,f3,f4,f5,?_⟩
 have r1:=Gw ha
 have r2:=Gw f3
 have h6:((Bp a.1 a.2:Int):Rat)*(a.2:Rat)=(a.1:Rat)*((Cu a.1 a.2:Int):Rat):=by exact_mod_cast f6
 show((Bp a.1 a.2:Int):Rat)/((Cu a.1 a.2:Int):Rat)=(a.1:Rat)/(a.2:Rat)
 generalize ((Bp a.1 a.2:Int):Rat)=N at *
 generalize ((Cu a.1 a.2:Int):Rat)=D at *
 generalize (a.1:Rat)=x at *
 generalize (a.2:Rat)=y at *
 have:N/D*(D*y)=x/y*(D*y):=by
  have e1:N/D*(D*y)=N*y:=by grind
  have e2:x/y*(D*y)=x*D:=by grind
  rw [e1,e2,h6]
 have hp:=Rat.mul_pos r2 r1
 have e3:N/D=N/D*(D*y)*(D*y)⁻¹:=by grind
 have e4:x/y=x/y*(D*y)*(D*y)⁻¹:=by grind
 rw [e3,this,←e4]
theorem sep_of {xs:List Int} {F K A e:Nat} (hx:Tr xs) (h0:xs≠[]) (hC:Az F xs) (hK:0<K) (hA:0<A) (na:∀i,(cf (sqf F xs) i).natAbs≤A) (nb:∀i,(cf (Xy (sqf F xs)) i).natAbs≤A)
  (hs:2≤(sqf F xs).length→Zu9 K A (sqf F xs).length e=true) (u v:Rat) (h1:-(K:Rat)≤u) (huv:u≤v) (h3:v≤(K:Rat)) (hh:v-u≤1/((2^e:Nat):Rat)):vch F xs u-vch F xs v≤1:=by
 by_cases h2:2≤(sqf F xs).length
 ·have h:=Ygg hx h0 hC hK hA rfl h2 na nb (hs h2) h1 huv h3 hh
  show vat _ u-vat _ v≤1
  rw [h];unfold crs;split<;>decide
 ·have hl:=Nq (sqf F xs)
  have hd:Xy (sqf F xs)=[]:=List.eq_nil_of_length_eq_zero (by omega)
  have hc:chn F xs=[sqf F xs]:=by unfold chn;rw [hd,Zx9,Ca]
  unfold vch vat
  rw [hc]
  have r1:=Zbn (([Zu (sqf F xs)]).map fun g=>Dd (g u))
  have r2:=Zbn (([Zu (sqf F xs)]).map fun g=>Dd (g v))
  simp only [List.map_cons,List.map_nil,List.length_cons,List.length_nil]at r1 r2 ⊢
  omega
open Go.RowKit (Below)
variable {P:Program} {N:Nat} {sc:Nat→Prop} {env env':Kl} {H H':Hp} {Q Q':Exit→Act→World→Prop} {M:Nat→Prop}
def CalM(P:Program)(f:FuncId)(args:Array Value)(pre:List Pc){G:Type}(φ:G→Prop)(Xz:G→Value)(it its:G→Pc):Prop:=
 ∀w,(∀p∈pre,p.holds w)→Calls P f args w fun e w'=>∃g,e= .returned (Xz g)∧φ g∧Below w.heap.size w w'∧(it g).holds w'∧(∀b,(it g).fp b→w.heap.size≤b)∧
  (its g).holds w'∧(its g).own=false∧(∀b,(its g).fp b→w.heap.size≤b∨∃q∈pre,q.fp b)∧∀b,(it g).fp b→(its g).fp b→False
def FPostM(P:Program)(fn:Func)(w0:World)(pre:List Pc){G:Type}(φ:G→Prop)(Xz:G→Value)(it its:G→Pc):Exit→Act→World→Prop:=
 bodyPost P fn fun e w'=>∃g,e= .returned (Xz g)∧φ g∧Below w0.heap.size w0 w'∧(it g).holds w'∧(∀b,(it g).fp b→w0.heap.size≤b)∧
  (its g).holds w'∧(its g).own=false∧(∀b,(its g).fp b→w0.heap.size≤b∨∃q∈pre,q.fp b)∧∀b,(it g).fp b→(its g).fp b→False
theorem Yc5 {α:Type} {o:Oper} {x:Operand} {t:TypeId} {k i ii q:Nat} {v u0 u1 u2 u3:Value} {p:Pc} {enc:α→Value} {xs:List α} (d0:α) (ho:o.op= .load t x)
  (hx:ev env x=some (.pointer (some (eaf v i k q)))) (hH:lk H ii=some p) (hr:Rd p k enc v xs) (ha:∀w,(isAgg t).run P w= .ok true w) (hk:∀w,(sizeOf t).run P w= .ok 4 w)
  (h0:(enc (xs.getD i d0)).cells.toList[q]? = some u0) (h1:(enc (xs.getD i d0)).cells.toList[q+1]? = some u1) (h2:(enc (xs.getD i d0)).cells.toList[q+2]? = some u2) (h3:(enc (xs.getD i d0)).cells.toList[q+3]? = some u3) (hlt:i<xs.length:=by omega):Kz P N sc o env H (.agg #[u0,u1,u2,u3]):=fun a w hs=>by
 obtain⟨ad,c,rfl,_,_,h⟩:=hr w (hs.hold ii p hH)
 rcases h with rfl | ⟨g,off,rfl,h⟩
 ·simp at hlt
 ·have hi:xs[i]? = some (xs.getD i d0):=by simp [List.getD,List.getElem?_eq_getElem hlt]
  have hl:=run_loadCells_list (P:=P) w (eaf (.slice (some ⟨g,off,none⟩) xs.length c) i k q) [u0,u1,u2,u3] (fun n u hu=>by
   have e:(eaf (.slice (some ⟨g,off,none⟩) xs.length c) i k q).add n=(ead (.slice (some ⟨g,off,none⟩) xs.length c) i k).add (q+n):=by
    simp only [eaf,ead,Mz];congr 1;omega
   rw [e]
   have:(enc (xs.getD i d0)).cells.toList[q+n]? = some u:=by
    match n,hu with
    | 0,hu=>simp at hu;subst hu;exact h0
    | 1,hu=>simp at hu;subst hu;exact h1
    | 2,hu=>simp at hu;subst hu;exact h2
    | 3,hu=>simp at hu;subst hu;exact h3
    | n+4,hu=>simp at hu
   have:=h i _ hi (q+n) u this
   simp only [ead,Mz]
   exact this)
  rw [show [u0,u1,u2,u3].length=4 from rfl]at hl
  simp [execOp,ho,hs.ev hx,Instr.loadAt,Instr.sureAddr,loadVar,ha,hk,hl]
abbrev qD (z:SL×Nat):Pc:=Me (svv z.1) z.2
abbrev JE:=(R2×R2)×(SL×SL×SL×SL)
abbrev encJ (y:JE):Value:= .agg #[.bool (decide (y.1.1.1<0)),svv y.2.1,.bool (decide (y.1.1.2<0)),svv y.2.2.1,.bool (decide (y.1.2.1<0)),svv y.2.2.2.1,.bool (decide (y.1.2.2<0)),svv y.2.2.2.2]
abbrev qJ (y:JE):Pc:=Cd qD [(y.2.1,y.1.1.1.natAbs),(y.2.2.1,y.1.1.2.natAbs),(y.2.2.2.1,y.1.2.1.natAbs),(y.2.2.2.2,y.1.2.2.natAbs)]
abbrev J0:JE:=(((0,0),(0,0)),((none,0,0),(none,0,0),(none,0,0),(none,0,0)))
end Go.Sky
namespace Go.Sky
theorem Sqn.mem{P:R2→R2→Prop}{hi:Rat} : ∀{lo:Rat} {l:List (R2×R2)},Sqn P hi lo l→∀c∈l,P c.1 c.2
 | _,[],_,c,hc=>by cases hc
 | lo,d :: r,h,c,hc=>by
  rcases List.mem_cons.1 hc with rfl | hc
  ·exact h.2.2.1
  ·exact Sqn.mem h.2.2.2 c hc
theorem en_bl{K Q d B:Nat}{z:R2}(h:En K Q d z)(hQ:0<Q)(h1:Q*2^d<2^B)(h2:K*(Q*2^d)<2^B):bl z.1.natAbs≤B∧bl z.2.natAbs≤B:=by
 obtain⟨hp,hd,hl,hu⟩:=h
 have hpos:0<Q*2^d:=Nat.mul_pos hQ (Nat.pow_pos (by decide))
 have hz2:z.2.natAbs≤Q*2^d:=by
  have:=Int.natAbs_dvd_natAbs.2 hd
  rw [Int.natAbs_natCast]at this
  exact Nat.le_of_dvd hpos this
 have hz1:z.1.natAbs≤K*z.2.natAbs:=by
  have r:=Gw hp
  have e:(z.1:Rat)=qv z*z.2:=by unfold qv;grind
  have t1:=Rat.mul_nonneg (a:=(K:Rat)-qv z) (b:=(z.2:Rat)) (by grind) (by grind)
  have t2:=Rat.mul_nonneg (a:=(K:Rat)+qv z) (b:=(z.2:Rat)) (by grind) (by grind)
  have hn:((K*z.2.natAbs:Nat):Int)=(K:Int)*z.2:=by push_cast;rw [Int.natAbs_of_nonneg (by omega)]
  have u1:((z.1:Int):Rat)≤(((K:Int)*z.2:Int):Rat):=by push_cast;grind
  have u2:((-((K:Int)*z.2):Int):Rat)≤((z.1:Int):Rat):=by push_cast;grind
  have v1:z.1≤(K:Int)*z.2:=by exact_mod_cast u1
  have v2:-((K:Int)*z.2)≤z.1:=by exact_mod_cast u2
  omega
 have hz3:K*z.2.natAbs≤K*(Q*2^d):=Nat.mul_le_mul_left _ hz2
 exact⟨Zdp (by omega),Zdp (by omega)⟩
theorem Ycs{n e w Q B:Nat}{z:R2}(h:En (2^n) Q (e+w) z)(hQ:0<Q)(hQ1:Q<2^(2*n))(hB:3*n+1+(e+w)≤B):bl z.1.natAbs≤B∧bl z.2.natAbs≤B:=by
 have hpow:∀m,m≤B→2^m≤2^B:=fun m h=>Nat.pow_le_pow_right (by decide) h
 have hPP:0<2^(e+w):=Nat.pow_pos (by decide)
 have h1:Q*2^(e+w)<2^(2*n)*2^(e+w):=Nat.mul_lt_mul_of_pos_right hQ1 hPP
 have h2:2^n*(Q*2^(e+w))<2^n*(2^(2*n)*2^(e+w)):=Nat.mul_lt_mul_of_pos_left h1 (Nat.pow_pos (by decide))
 have e1:2^(2*n)*2^(e+w)=2^(2*n+(e+w)):=(Nat.pow_add _ _ _).symm
 have e2:2^n*(2^(2*n)*2^(e+w))=2^(n+(2*n+(e+w))):=by rw [e1,←Nat.pow_add]
 rw [e1]at h1
 rw [e2]at h2
 exact en_bl h hQ (Nat.lt_of_lt_of_le h1 (hpow _ (by omega))) (Nat.lt_of_lt_of_le h2 (hpow _ (by omega)))
end Go.Sky

