/- rules, arithmetic and contracts: part 14
   Proved without conditions of its own: each theorem bears its own. -/
import Derived.Test.YtcmiiammekgooaaGreatSl12
set_option linter.all false
namespace Go.Sky
theorem Zei(x:Rat):rsg x=-1↔x<0:=by
 unfold rsg
 by_cases h:x<0
 ·rw [if_pos h];simp [h]
 ·rw [if_neg h]
  by_cases h2:x=0
  ·rw [if_pos h2];simp [h]
  ·rw [if_neg h2];simp [h]
theorem Zwb(x:Rat):rsg (-x)=- rsg x:=by
 unfold rsg
 by_cases h:x<0
 ·rw [if_pos h,if_neg (by grind),if_neg (by grind)];rfl
 ·rw [if_neg h]
  by_cases h2:x=0
  ·rw [if_pos h2,if_neg (by grind),if_pos (by grind)];rfl
  ·rw [if_neg h2,if_pos (by grind)]
theorem Zi2{f g:Rat→Rat}(r:List (Rat→Rat)){x:Rat}(h:rsg (g x)≠0):vat (f :: g :: r) x=vat (g :: r) x+(if rsg (f x)=- rsg (g x)then 1 else 0):=by
 unfold vat
 simp only [List.map_cons]
 exact chg_two _ h
def Tay(s t M:Rat)(p:List Int):Prop:=∀x y,s≤x→x≤y→y≤t→-(M*(y-x)*(y-x))≤rev p y-rev p x-(y-x)*rev (ld p) x∧rev p y-rev p x-(y-x)*rev (ld p) x≤M*(y-x)*(y-x)
theorem Zd8 {s t:Rat} {f:Nat} {a b:List Int} (ha:Tr a) (hb:Tr b) (hok:cok f a b) {κ:Rat} (hκ:0<κ) (hder:∀x,rev (ld a) x=κ*rev b x)
  {ε L L' M h:Rat} (e1:0<ε) (e2:∀x,s≤x→x≤t→Big ε x (rev a)∨Big ε x (rev b)) (l1:0≤L) (l2:Lip s t L (rev a)) (l1':0≤L') (l2':Lip s t L' (rev b)) (m1:0≤M) (m2:Tay s t M a)
  (h5:0<h) (h3:h*(L+L')≤ε/2) (h7:h*M≤κ*ε/2) {u v:Rat} (hs:s≤u) (huv:u≤v) (ht:v≤t) (hh:v-u≤h) :
  vat ((Mk f a b).map rev) u-vat ((Mk f a b).map rev) v=crs (rev a) u v:=by
 have hL:∀w,u≤w→w≤v→L*(w-u)≤ε/2∧L'*(w-u)≤ε/2:=fun w q1 q2=>by
  have p1:=Rat.mul_nonneg (a:=L) (b:=h-(w-u)) (by grind) (by grind)
  have p2:=Rat.mul_nonneg (a:=L') (b:=h-(w-u)) (by grind) (by grind)
  have p3:=Rat.mul_nonneg (a:=L) (b:=h) (by grind) (by grind)
  have p4:=Rat.mul_nonneg (a:=L') (b:=h) (by grind) (by grind)
  constructor<;>grind
 by_cases hba:Big ε u (rev a)
 ·have hB:∀w,u≤w→w≤v→Big (ε/2) w (rev a):=fun w q1 q2=>by
   obtain⟨x1,x2⟩:=l2 u w hs q1 (by grind)
   have:=hL w q1 q2
   exact hba.near (by grind) (by grind)
  rw [Zcl ha hb hok huv (show 0<ε/2 by grind) hB]
  have hv:=hB v huv (by grind)
  have:crs (rev a) u v=0:=by
   unfold crs
   refine if_neg fun⟨_,h9⟩=>?_
   obtain⟨x1,x2⟩:=l2 u v hs huv ht
   have hLv:=hL v huv (by grind)
   unfold Big at hba hv
   rcases hba with hp | hp
   ·have:0<rev a v:=by grind
    have:=Rat.mul_pos (show 0<rev a u by grind) this
    grind
   ·have:0 < - rev a v:=by grind
    have:=Rat.mul_pos (show 0 < - rev a u by grind) this
    grind
  omega
 ·have hbb:Big ε u (rev b):=(e2 u hs (by grind)).resolve_left hba
  have hB:∀w,u≤w→w≤v→Big (ε/2) w (rev b):=fun w q1 q2=>by
   obtain⟨x1,x2⟩:=l2' u w hs q1 (by grind)
   have:=hL w q1 q2
   exact hbb.near (by grind) (by grind)
  have hb0:b≠[]:=fun e=>by
   rw [e]at hbb;unfold Big at hbb
   have:rev [] u=0:=rfl
   rw [this]at hbb;grind
  obtain⟨g,hg,hd,hle,hcg,hsc⟩:=Zdo hok hb0
  have hT:=Zcl hb (Zaf ha) hcg huv (show 0<ε/2 by grind) hB
  obtain⟨r,hr,_,_,_⟩:=Zji (s:=u) (t:=v) g b (Lf a b) hb (Zaf ha) hcg
  rw [hsc,hr]
  rw [hr]at hT
  simp only [List.map_cons]at hT ⊢
  have hsg:∃σ:Rat,(σ=1∨σ=-1)∧ε<σ*rev b u∧∀w,u≤w→w≤v→0<σ*rev b w:=by
   unfold Big at hbb
   rcases hbb with hp | hp
   ·refine⟨1,.inl rfl,by grind,fun w q1 q2=>?_⟩
    obtain⟨x1,x2⟩:=l2' u w hs q1 (by grind)
    have:=hL w q1 q2
    grind
   ·refine⟨-1,.inr rfl,by grind,fun w q1 q2=>?_⟩
    obtain⟨x1,x2⟩:=l2' u w hs q1 (by grind)
    have:=hL w q1 q2
    grind
  obtain⟨σ,hσ,hbu,hbw⟩:=hsg
  have hmono:u<v→σ*rev a u<σ*rev a v:=fun hlt=>by
   obtain⟨y1,y2⟩:=m2 u v hs huv ht
   rw [hder u]at y1 y2
   have hd:0<v-u:=by grind
   have z1:M*(v-u)≤κ*ε/2:=by
    have:=Rat.mul_nonneg (a:=M) (b:=h-(v-u)) (by grind) (by grind)
    grind
   have z2:0<κ*(σ*rev b u)-M*(v-u):=by
    have:=Rat.mul_pos hκ (show 0<σ*rev b u-ε by grind)
    have:=Rat.mul_pos hκ e1
    grind
   have z3:=Rat.mul_pos hd z2
   rcases hσ with rfl | rfl<;>grind
  have hne:∀w,u≤w→w≤v→rsg (rev b w)≠0:=fun w q1 q2=>by
   have:=hbw w q1 q2
   rcases hσ with rfl | rfl
   ·rw [Dz (by grind)];decide
   ·rw [Ca (by grind)];decide
  rw [Zi2 _ (hne u (by grind) huv),Zi2 _ (hne v huv (by grind)),hT]
  have hite:∀w,u≤w→w≤v→(rsg (rev a w)=- rsg (rev b w)↔σ*rev a w<0):=fun w q1 q2=>by
   have:=hbw w q1 q2
   rcases hσ with rfl | rfl
   ·rw [Dz (x:=rev b w) (by grind),Zei]
    constructor<;>intro<;>grind
   ·rw [Ca (x:=rev b w) (by grind),show(-(-1:Int))=- -1 from rfl]
    have h9:=Zei (-(rev a w))
    rw [Zwb]at h9
    constructor
    ·intro h8
     have:=h9.1 (by omega)
     grind
    ·intro h8
     have:=h9.2 (by grind)
     omega
  rw [show(if rsg (rev a u)=- rsg (rev b u)then(1:Int)else 0)=if σ*rev a u<0 then 1 else 0 from by simp only [hite u (by grind) huv]]
  rw [show(if rsg (rev a v)=- rsg (rev b v)then(1:Int)else 0)=if σ*rev a v<0 then 1 else 0 from by simp only [hite v huv (by grind)]]
  have hcrs:crs (rev a) u v=if σ*rev a u<0∧¬σ*rev a v<0 then 1 else 0:=by
   unfold crs
   have hpp:rev a u*rev a v=(σ*rev a u)*(σ*rev a v):=by rcases hσ with rfl | rfl<;>grind
   have hz:rev a u≠0↔σ*rev a u≠0:=by rcases hσ with rfl | rfl<;>constructor<;>intro h9 h8<;>exact h9 (by grind)
   have hiff:(rev a u≠0∧rev a u*rev a v≤0)↔(σ*rev a u<0∧¬σ*rev a v<0):=by
    rw [hpp,hz]
    generalize hp:σ*rev a u=p at *
    generalize hq:σ*rev a v=q at *
    constructor
    ·intro ⟨n1,n2⟩
     rcases(show u<v∨u=v by grind)with hlt | heq
     ·have:=hmono hlt
      rcases(show p<0∨0<p by grind)with n3 | n3
      ·refine⟨n3,fun n4=>?_⟩
       have:=Rat.mul_pos (show 0 < -p by grind) (show 0 < -q by grind)
       grind
      ·have:=Rat.mul_pos n3 (show 0<q by grind)
       grind
     ·exfalso
      have:q=p:=by rw [←hp,←hq,heq]
      rw [this]at n2
      rcases(show p<0∨0<p by grind)with n3 | n3
      ·have:=Rat.mul_pos (show 0 < -p by grind) (show 0 < -p by grind)
       grind
      ·have:=Rat.mul_pos n3 n3
       grind
    ·intro ⟨n1,n2⟩
     refine⟨by grind,?_⟩
     have:=Rat.mul_nonneg (show 0≤-p by grind) (show 0≤q by grind)
     grind
   simp only [hiff]
  rw [hcrs]
  by_cases k1:σ*rev a u<0<;>by_cases k2:σ*rev a v<0
  ·simp [k1,k2]
  ·simp [k1,k2]
   omega
  ·exfalso
   rcases(show u<v∨u=v by grind)with hlt | heq
   ·have:=hmono hlt;grind
   ·rw [heq]at k1;exact k1 k2
  ·simp [k1,k2]
theorem Zfy{s t:Rat}{f:Nat}{a b:List Int}(ha:Tr a)(hb:Tr b)(h0:a≠[])(hok:cok f a b){κ:Rat}(hκ:0<κ)(hder:∀x,rev (ld a) x=κ*rev b x)(hc:∀q,Tr q→Ed q a→Ed q b→q.length≤1) :
  ∃h:Rat,0<h∧∀u v,s≤u→u≤v→v≤t→v-u≤h→vat ((Mk f a b).map rev) u-vat ((Mk f a b).map rev) v=crs (rev a) u v:=by
 obtain⟨ε,e1,e2⟩:=Zt9 ha hb h0 hc s t
 obtain⟨L,l1,l2⟩:=Ez s t a
 obtain⟨L',l1',l2'⟩:=Ez s t b
 obtain⟨M,m1,m2⟩:=Zhq s t a
 obtain⟨h1,h2,h3,h4⟩:=Ih (show(0:Rat)<1 by decide) (show 0<L+L' by grind) (show 0<ε/2 by grind)
 obtain⟨h,h5,h6,h7⟩:=Ih h2 m1 (show 0<κ*ε/2 by have:=Rat.mul_pos hκ e1;grind)
 refine⟨h,h5,fun u v hs huv ht hh=>Zd8 ha hb hok hκ hder e1 e2 (by grind) l2 (by grind) l2' (by grind) m2 h5 ?_ h7 hs huv ht hh⟩
 have:=Rat.mul_nonneg (a:=L+L') (b:=h1-h) (by grind) (by grind)
 grind
theorem inj_le:∀(n m:Nat) (f:Nat→Nat),(∀k,k<n→f k<m)→(∀a b,a<n→b<n→f a=f b→a=b)→n≤m
 | 0,_,_,_,_=>Nat.zero_le _
 | n+1,m,f,hf,hi=>by
  have h0:=hf n (by omega)
  have:=inj_le n (m-1) (fun k=>if f n<f k then f k-1 else f k) (fun k hk=>by
   have h1:=hf k (by omega)
   have h2:f k≠f n:=fun e=>by have:=hi k n (by omega) (by omega) e;omega
   split<;>omega) (fun a b ha hb e=>by
   have h2:f a≠f n:=fun e=>by have:=hi a n (by omega) (by omega) e;omega
   have h3:f b≠f n:=fun e=>by have:=hi b n (by omega) (by omega) e;omega
   refine hi a b (by omega) (by omega) ?_
   split at e<;>split at e<;>omega)
  omega
theorem php{n m:Nat}{f:Nat→Nat}(h:m<n)(hf:∀k,k<n→f k<m):∃a b,a<n∧b<n∧a≠b∧f a=f b:=by
 refine Classical.byContradiction fun h9=>?_
 have:=inj_le n m f hf fun a b ha hb e=>Classical.byContradiction fun h8=>h9 ⟨a,b,ha,hb,h8,e⟩
 omega
def enc(B:Nat)(d:Nat→Nat):Nat→Nat
 | 0=>0
 | n+1=>enc B d n+d n*B^n
theorem Zoi{B:Nat}{d:Nat→Nat} : ∀n,(∀i,i<n→d i<B)→enc B d n<B^n
 | 0,_=>by simp [enc]
 | n+1,h=>by
  have h1:=Zoi n fun i hi=>h i (by omega)
  have h2:=h n (by omega)
  have h3:(d n+1)*B^n≤B*B^n:=Nat.mul_le_mul_right _ h2
  rw [Nat.add_mul,Nat.one_mul]at h3
  rw [Nat.pow_succ,Nat.mul_comm (B^n) B]
  show enc B d n+d n*B^n<_
  omega
theorem Zts{B:Nat}{d e:Nat→Nat} : ∀n,(∀i,i<n→d i<B)→(∀i,i<n→e i<B)→enc B d n=enc B e n→∀i,i<n→d i=e i
 | 0,_,_,_,i,hi=>absurd hi (Nat.not_lt_zero i)
 | n+1,h1,h2,h,i,hi=>by
  have a1:=Zoi n fun i hi=>h1 i (by omega)
  have a2:=Zoi n fun i hi=>h2 i (by omega)
  have h:enc B d n+d n*B^n=enc B e n+e n*B^n:=h
  have hp:0<B^n:=by omega
  have hd:d n=e n:=by
   have b1:(enc B d n+d n*B^n)/B^n=d n:=by rw [Nat.add_mul_div_right _ _ hp,Nat.div_eq_of_lt a1,Nat.zero_add]
   have b2:(enc B e n+e n*B^n)/B^n=e n:=by rw [Nat.add_mul_div_right _ _ hp,Nat.div_eq_of_lt a2,Nat.zero_add]
   rw [←b1,←b2,h]
  rcases Nat.lt_or_ge i n with h3 | h3
  ·exact Zts n (fun i hi=>h1 i (by omega)) (fun i hi=>h2 i (by omega)) (by rw [hd]at h;omega) i h3
  ·rw [show i=n by omega];exact hd
def dig(B k j:Nat):Nat:=k/B^j%B
theorem Zl8(B k:Nat):∀n,enc B (dig B k) n=k%B^n
 | 0=>by simp [enc,Nat.mod_one]
 | n+1=>by
  show enc B (dig B k) n+dig B k n*B^n=_
  rw [Zl8 B k n,Nat.pow_succ,Nat.mod_mul]
  unfold dig;rw [Nat.mul_comm]
theorem Zg7{f:Nat→Int}{C:Int} : ∀n,(∀i,i<n→-C≤f i∧f i≤C)→-((n:Int)*C)≤Qn f n∧Qn f n≤(n:Int)*C
 | 0,_=>by simp [Gb]
 | n+1,h=>by
  have h1:=Zg7 n fun i hi=>h i (by omega)
  have h2:=h n (by omega)
  have h3:((n+1:Nat):Int)*C=(n:Int)*C+C:=by push_cast;grind
  rw [Xt,h3];omega
theorem Zi7(f g:Nat→Int):∀n,Qn (fun i=>f i-g i) n=Qn f n-Qn g n
 | 0=>by simp [Gb]
 | n+1=>by rw [Xt,Xt,Xt,Zi7 f g n];omega
theorem siegel{N M A:Nat}(hMN:M<N)(hA:0<A)(c:Nat→Nat→Int)(hc:∀i j,i<M→j<N→(c i j).natAbs≤A) :
  ∃x:Nat→Int,(∃j,j<N∧x j≠0)∧(∀j,j<N→(x j).natAbs≤(2*N*A)^M)∧∀i,i<M→Qn (fun j=>c i j*x j) N=0:=by
 generalize hX:(2*N*A)^M=X
 generalize hW:N*(A*X)=W
 let d:=fun k j=>dig (X+1) k j
 have hd:∀k j,d k j≤X:=fun k j=>Nat.le_of_lt_succ (Nat.mod_lt _ (Nat.succ_pos X))
 let y:=fun k i=>Qn (fun j=>c i j*(d k j:Int)) N
 have hy:∀k i,i<M→-(W:Int)≤y k i∧y k i≤(W:Int):=fun k i hi=>by
  have h1:=Zg7 (f:=fun j=>c i j*(d k j:Int)) (C:=((A*X:Nat):Int)) N fun j hj=>by
   have h2:=hc i j hi hj
   have h3:(c i j*(d k j:Int)).natAbs≤A*X:=by
    rw [Int.natAbs_mul,Int.natAbs_natCast];exact Nat.mul_le_mul h2 (hd k j)
   omega
  have h4:((N:Int)*((A*X:Nat):Int))=(W:Int):=by rw [←hW];push_cast;rfl
  rw [h4]at h1;exact h1
 let e:=fun k=>enc (2*W+1) (fun i=>(y k i+(W:Int)).toNat) M
 have he:∀k i,i<M→(y k i+(W:Int)).toNat<2*W+1:=fun k i hi=>by have:=hy k i hi;omega
 have hlt:(2*W+1)^M<(X+1)^N:=by
  have h1:2*W+1≤(2*N*A)*(X+1):=by
   have:0<N*A:=Nat.mul_pos (by omega) hA
   have e1:2*N*A*(X+1)=2*W+2*(N*A):=by rw [←hW];grind
   omega
  have h2:=Nat.pow_le_pow_left h1 M
  rw [Nat.mul_pow,hX]at h2
  have h3:(X+1)^(M+1)≤(X+1)^N:=Nat.pow_le_pow_right (by omega) (by omega)
  rw [Nat.pow_succ]at h3
  have h4:0<(X+1)^M:=Nat.pow_pos (by omega)
  have h5:X*(X+1)^M<(X+1)^M*(X+1):=by rw [Nat.mul_comm];exact Nat.mul_lt_mul_of_pos_left (by omega) h4
  omega
 obtain⟨a,b,ha,hb,hab,hf⟩:=php (f:=e) hlt (fun k _=>Zoi M (he k))
 have hyy:=Zts M (he a) (he b) hf
 refine⟨fun j=>(d a j:Int)-(d b j:Int),?_,fun j _=>?_,fun i hi=>?_⟩
 ·refine Classical.byContradiction fun h9=>hab ?_
  have h8:∀j,j<N→d a j=d b j:=fun j hj=>Classical.byContradiction fun h7=>h9 ⟨j,hj,fun h6=>h7 (by have h6:(d a j:Int)-(d b j:Int)=0:=h6;omega)⟩
  have e1:=Zl8 (X+1) a N
  have e2:=Zl8 (X+1) b N
  rw [Nat.mod_eq_of_lt ha]at e1
  rw [Nat.mod_eq_of_lt hb]at e2
  have e3:∀n,n≤N→enc (X+1) (dig (X+1) a) n=enc (X+1) (dig (X+1) b) n:=fun n=>by
   induction n with
   | zero=>intro _;rfl
   | succ n ih=>
    intro hn
    have h7:dig (X+1) a n=dig (X+1) b n:=h8 n (by omega)
    show enc _ _ n+dig (X+1) a n*_=enc _ _ n+dig (X+1) b n*_
    rw [ih (by omega),h7]
  rw [←e1,←e2];exact e3 N (Nat.le_refl _)
 ·have h1:=hd a j
  have h2:=hd b j
  dsimp only;omega
 ·have h1:Qn (fun j=>c i j*((d a j:Int)-(d b j:Int))) N=y a i-y b i:=by
   rw [←Zi7];exact Xg fun j _=>by grind
  rw [h1]
  have h2:=hyy i hi
  have h3:=hy a i hi
  have h4:=hy b i hi
  omega
theorem Zd7(f:Nat→Int)(p:Nat):∀q,Qn f (p+q)=Qn f p+Qn (fun k=>f (p+k)) q
 | 0=>by simp [Gb]
 | q+1=>by rw [←Nat.add_assoc,Xt,Xt,Zd7 f p q];omega
def sft(a:List Int)(t k:Nat):Int:=if k≤t then cf a (t-k)else 0
theorem Zij{U a:List Int}{p:Nat}(h:U.length=p)(t:Nat):(ps U*ps a).c t=Qn (fun k=>sft a t k*cf U k) p:=by
 rw [←Zo6,←h]
 refine Xg fun k _=>?_
 unfold sft;split<;>grind
theorem Zbg{U a:List Int}{p t:Nat}(h:U.length≤p)(ht:p+a.length≤t+1):(ps U*ps a).c t=0:=by
 rw [PS.mul_c]
 refine Ff fun k hk=>?_
 rw [Ik,Ik]
 rcases Nat.lt_or_ge k U.length with h1 | h1
 ·rw [Qf (p:=a) (by omega),Int.mul_zero]
 ·rw [Qf h1,Int.zero_mul]
theorem Zed{a b:List Int}{p q lo A:Nat}(hA:0<A)(ha:∀i,(cf a i).natAbs≤A)(hb:∀i,(cf b i).natAbs≤A)(h0:0<p+q)(h1:p+a.length≤p+q+lo)(h2:q+b.length≤p+q+lo) :
  ∃U V:List Int,U.length=p∧V.length=q∧((∃i,cf U i≠0)∨∃i,cf V i≠0)∧(∀i,(cf U i).natAbs≤(2*(p+q)*A)^(p+q-1))∧(∀i,(cf V i).natAbs≤(2*(p+q)*A)^(p+q-1))∧
   ∀t,lo≤t→(ps U*ps a).c t+(ps V*ps b).c t=0:=by
 obtain⟨x,⟨j,hj,hne⟩,hx,he⟩:=siegel (N:=p+q) (M:=p+q-1) (A:=A) (by omega) hA (fun i j=>if j<p then sft a (lo+i) j else sft b (lo+i) (j-p)) (fun i j _ _=>by
  split<;>unfold sft<;>split
  ·exact ha _
  ·simp
  ·exact hb _
  ·simp)
 have cU:∀i,cf (mk p x) i=if i<p then x i else 0:=fun i=>Il _ _ _
 have cV:∀i,cf (mk q fun k=>x (p+k)) i=if i<q then x (p+i)else 0:=fun i=>Il _ _ _
 refine⟨mk p x,mk q fun k=>x (p+k),Xr _ _,Xr _ _,?_,fun i=>?_,fun i=>?_,fun t ht=>?_⟩
 ·rcases Nat.lt_or_ge j p with h | h
  ·exact .inl ⟨j,by rw [cU,if_pos h];exact hne⟩
  ·exact .inr ⟨j-p,by rw [cV,if_pos (by omega),show p+(j-p)=j by omega];exact hne⟩
 ·rw [cU];split
  ·exact hx i (by omega)
  ·exact Nat.zero_le _
 ·rw [cV];split
  ·exact hx _ (by omega)
  ·exact Nat.zero_le _
 ·rcases Nat.lt_or_ge (t-lo) (p+q-1)with h | h
  ·have h3:=he (t-lo) h
   rw [show lo+(t-lo)=t by omega,Zd7]at h3
   rw [Zij (Xr _ _),Zij (Xr _ _),←h3]
   congr 1
   ·exact Xg fun k hk=>by rw [if_pos hk,cU,if_pos hk]
   ·exact Xg fun k hk=>by rw [if_neg (by omega),cV,if_pos hk,show p+k-p=k by omega]
  ·rw [Zbg (Nat.le_of_eq (Xr _ _)) (by omega),Zbg (Nat.le_of_eq (Xr _ _)) (by omega)];rfl
theorem Zua{U a:List Int}{p t X A:Nat}(h:U.length=p)(hU:∀i,(cf U i).natAbs≤X)(ha:∀i,(cf a i).natAbs≤A):((ps U*ps a).c t).natAbs≤p*(X*A):=by
 rw [Zij h]
 have h1:=Zg7 (f:=fun k=>sft a t k*cf U k) (C:=((X*A:Nat):Int)) p fun k _=>by
  have:(sft a t k*cf U k).natAbs≤X*A:=by
   rw [Int.natAbs_mul,Nat.mul_comm]
   refine Nat.mul_le_mul (hU k) ?_
   unfold sft;split
   ·exact ha _
   ·simp
  omega
 have h2:((p:Int)*((X*A:Nat):Int))=((p*(X*A):Nat):Int):=by push_cast;rfl
 rw [h2]at h1;omega
theorem Zdd{w q y:List Int}{n:Nat}(h:∀x,rev w x=rev q x*rev y x)(hy:Tr y)(h0:y≠[])(hn:∀i,n≤i→cf w i=0):tzl q=[]∨(tzl q).length+y.length≤n+1:=by
 by_cases hq:tzl q=[]
 ·exact .inl hq
 ·right
  have hc:∀i,cf w i=(ps (tzl q)*ps y).c i:=fun i=>by
   rw [Mh (p:=w) (q:=Mn (tzl q) y) (fun x=>by rw [Yt,Lc];exact h x) i,Gm,PS.mul_c];rfl
  have l1:=List.length_pos_iff.2 hq
  have l2:=List.length_pos_iff.2 h0
  have ht:=Dl (p:=tzl q) (q:=y) (a:=(tzl q).length-1) (b:=y.length-1) (fun i hi=>Qf (by omega)) (fun i hi=>Qf (by omega))
  rw [←hc]at ht
  have hne:=Int.mul_ne_zero ((Oy q).mem hq) (hy.mem h0)
  rcases Nat.lt_or_ge ((tzl q).length-1+(y.length-1)) n with h9 | h9
  ·omega
  ·rw [hn _ h9]at ht;exact absurd ht.symm hne
theorem Hk{v f:List Int}(hv:tzl v≠[])(h:∀x,rev v x*rev f x=0)(x:Rat):rev f x=0:=by
 by_cases hf:tzl f=[]
 ·rw [←Lc,hf];rfl
 ·exfalso
  rcases Zdd (w:=[]) (q:=v) (y:=tzl f) (n:=0) (fun x=>by rw [Lc,h x];rfl) (Oy f) hf (fun i _=>Zbh i)with h9 | h9
  ·exact hv h9
  ·have:=List.length_pos_iff.2 hf
   have:=List.length_pos_iff.2 hv
   omega
structure Inv (a b x y:List Int):Prop where
 ex:∃(α β γ:Int) (u' v' u v:List Int),α≠0∧β≠0∧γ≠0∧
  (∀t:Rat,(α:Rat)*rev x t=rev u' t*rev a t+rev v' t*rev b t)∧(∀t:Rat,(β:Rat)*rev y t=rev u t*rev a t+rev v t*rev b t)∧
  (∀t:Rat,rev u' t*rev v t-rev u t*rev v' t=(γ:Rat))∧(tzl v).length≤a.length-x.length+1∧(tzl v').length≤a.length-x.length+1
 xl:x.length≤b.length
 yl:y.length<x.length
theorem Zrx{x q y z:List Int}{L:Int}{c:Int}(hy:Tr y)(h0:y≠[])(hz:z.length≤x.length)(h:∀t:Rat,(L:Rat)*rev x t=rev q t*rev y t+(c:Rat)*rev z t):tzl q=[]∨(tzl q).length+y.length≤x.length+1:=
 Zdd (w:=Gf (x.map fun a=>L*a) (z.map fun a=>(-c)*a)) (n:=x.length) (fun t=>by rw [Qd,Yd,Yd];have:=h t;push_cast;grind) hy h0 fun i hi=>by
  rw [Ke,Pg,Pg,Qf hi,Qf (p:=z) (by omega)];omega
theorem Dg{p q:List Int}{m n:Nat}(hp:(tzl p).length≤m)(hq:(tzl q).length≤n)(i:Nat)(hi:m+n≤i+1):cf (Mn p q) i=0:=by
 have h1:cf (Mn p q) i=cf (Mn (tzl p) (tzl q)) i:=Mh (fun x=>by rw [Yt,Yt,Lc,Lc]) i
 rw [h1,Gm]
 have h2:=Zbg (U:=tzl p) (a:=tzl q) (p:=m) (t:=i) hp (by omega)
 rw [PS.mul_c]at h2
 exact h2
theorem Zkx{p:List Int}{n:Nat}(h:∀i,n≤i→cf p i=0):(tzl p).length≤n:=Cw h
theorem Zuq{p:List Int}{n i:Nat}(h:(tzl p).length≤n)(hi:n≤i):cf p i=0:=by
 rw [←Lr];exact Qf (by omega)
theorem Inv.next{a b x y z z' q:List Int}{L:Int}(hI:Inv a b x y)(hab:b.length≤a.length)(hx:Tr x)(hy:Tr y)(h0:y≠[])(hL:L≠0)(h:∀t:Rat,(L:Rat)*rev x t=rev q t*rev y t+rev z' t)(hz:Sim z' z)(hzl:z.length<y.length):Inv a b y z:=by
 obtain⟨⟨α,β,γ,u',v',u,v,hα,hβ,hγ,e1,e2,e3,l1,l2⟩,xl,yl⟩:=hI
 obtain⟨m,n,hm,hn,hs⟩:=hz
 have hs':∀t:Rat,(m:Rat)*rev z' t=(n:Rat)*rev z t:=fun t=>by
  have:=Mr t (z'.map fun a=>m*a) (z.map fun a=>n*a) fun i=>by rw [Pg,Pg,hs]
  rwa [Yd,Yd]at this
 have h9:∀t:Rat,((L*m:Int):Rat)*rev x t=rev (q.map fun a=>m*a) t*rev y t+(n:Rat)*rev z t:=fun t=>by
  rw [Yd];push_cast
  have:=h t;have:=hs' t;grind
 have hql:=Zrx hy h0 (by omega) h9
 have hqz:(tzl (q.map fun a=>m*a)).length≤x.length-y.length+1:=by
  rcases hql with hq | hq
  ·rw [hq];simp
  ·omega
 generalize hQ:(q.map fun a=>m*a)=Q at *
 have key:∀t:Rat,((n*(α*β):Int):Rat)*rev z t=rev (Gf (u'.map fun c=>(L*m*β)*c) ((Mn Q u).map fun c=>(-α)*c)) t*rev a t+rev (Gf (v'.map fun c=>(L*m*β)*c) ((Mn Q v).map fun c=>(-α)*c)) t*rev b t:=fun t=>by
  rw [Qd,Qd,Yd,Yd,Yd,Yd,Yt,Yt]
  have a1:=h9 t;have a2:=e1 t;have a3:=e2 t
  push_cast at a1 ⊢
  have:(n:Rat)*(α*β)*rev z t=α*β*(n*rev z t):=by grind
  rw [this,show(n:Rat)*rev z t=L*m*rev x t-rev Q t*rev y t by grind]
  have:(α:Rat)*β*(L*m*rev x t-rev Q t*rev y t)=L*m*β*(α*rev x t)-α*rev Q t*(β*rev y t):=by grind
  rw [this,a2,a3];grind
 refine⟨⟨β,n*(α*β),-(L*m*β*γ),u,v,_,_,hβ,Int.mul_ne_zero hn (Int.mul_ne_zero hα hβ),?_,e2,key,fun t=>?_,?_,?_⟩,by omega,hzl⟩
 ·have:=Int.mul_ne_zero (Int.mul_ne_zero (Int.mul_ne_zero hL hm) hβ) hγ;omega
 ·rw [Qd,Qd,Yd,Yd,Yd,Yd,Yt,Yt]
  have:=e3 t;push_cast;grind
 ·refine Zkx fun i hi=>?_
  rw [Ke,Pg,Pg,Zuq (p:=v') l2 (by omega),Dg hqz l1 i (by omega)];omega
 ·omega
theorem Inv.first{a b z z' q:List Int}{L:Int}(hab:b.length≤a.length)(ha:Tr a)(hb:Tr b)(h0:b≠[])(hL:L≠0)(h:∀t:Rat,(L:Rat)*rev a t=rev q t*rev b t+rev z' t)(hz:Sim z' z)(hzl:z.length<b.length):Inv a b b z:=by
 obtain⟨m,n,hm,hn,hs⟩:=hz
 have hs':∀t:Rat,(m:Rat)*rev z' t=(n:Rat)*rev z t:=fun t=>by
  have:=Mr t (z'.map fun a=>m*a) (z.map fun a=>n*a) fun i=>by rw [Pg,Pg,hs]
  rwa [Yd,Yd]at this
 have h9:∀t:Rat,((L*m:Int):Rat)*rev a t=rev (q.map fun a=>m*a) t*rev b t+(n:Rat)*rev z t:=fun t=>by
  rw [Yd];push_cast
  have:=h t;have:=hs' t;grind
 have hql:=Zrx hb h0 (by omega) h9
 have hqz:(tzl (q.map fun a=>m*a)).length≤a.length-b.length+1:=by
  rcases hql with hq | hq
  ·rw [hq];simp
  ·omega
 generalize hQ:(q.map fun a=>m*a)=Q at *
 refine⟨⟨1,n,-(L*m),[],[1],[L*m],Q.map fun c=>(-1)*c,by decide,hn,?_,fun t=>?_,fun t=>?_,fun t=>?_,?_,?_⟩,Nat.le_refl _,hzl⟩
 ·have:=Int.mul_ne_zero hL hm;omega
 ·rw [Ot];show _=(0:Rat)*_+_;grind
 ·rw [Ot,Yd];have:=h9 t;push_cast at this ⊢;grind
 ·rw [Ot,Ot];show(0:Rat)*_-_=_;push_cast;grind
 ·refine Zkx fun i hi=>?_
  rw [Pg,Zuq hqz (by omega)];omega
 ·refine Nat.le_trans (Hu _) ?_
  simp
theorem Zfx{n:Nat}{a:List Int}(h:Sz n a)(i:Nat):(cf a i).natAbs≤2^n:=Nat.le_of_lt ((Me n _).1 (h i))
theorem Ey{p:List Int}(h:tzl p=[])(x:Rat):rev p x=0:=by rw [←Lc,h];rfl
theorem tzl_ne{p:List Int}{i:Nat}(h:cf p i≠0):tzl p≠[]:=fun e=>h ((Lb p).1 e i)
theorem nn_eq{x a b:Nat}(h1:x≤b)(h2:b≤a):b-x+1+(a-x+1)=a+b-2*x+2:=by omega
theorem Inv.bound{a b x y:List Int}{n s:Nat}(hI:Inv a b x y)(hab:b.length≤a.length)(ha:Tr a)(hx:Tr x)(hy:Tr y)(h0:y≠[])(hp:Qc y=1)(na:Sz n a)(nb:Sz n b)(hs:a.length+b.length-2*x.length+2≤2^s) :
  msz y≤(s+1+n)*(a.length+b.length-2*x.length+2):=by
 obtain⟨⟨α,β,γ,u',v',u,v,hα,hβ,hγ,e1,e2,e3,l1,l2⟩,xl,yl⟩:=hI
 have hy1:=List.length_pos_iff.2 h0
 have hx0:x≠[]:=fun e=>by rw [e]at yl;simp at yl
 have ha0:a≠[]:=fun e=>by
  have h9:a.length=0:=by rw [e];rfl
  omega
 obtain⟨U,V,lU,lV,hne,bU,bV,hz⟩:=Zed (a:=a) (b:=b) (p:=b.length-x.length+1) (q:=a.length-x.length+1) (lo:=x.length-1) (A:=2^n) (Nat.pow_pos (by decide)) (Zfx na) (Zfx nb) (by omega) (by omega) (by omega)
 have hv:a.length+1≤(tzl v).length+x.length:=by
  refine Classical.byContradiction fun h9=>?_
  have hid:∀i,cf (Gf (a.map fun c=>γ*c) ((Mn y v').map fun c=>β*c)) i=cf (Mn (tzl v) (x.map fun c=>α*c)) i:=fun i=>Mh (fun t=>by
   rw [Qd,Yd,Yd,Yt,Yt,Yd,Lc]
   have a1:=e1 t;have a2:=e2 t;have a3:=e3 t
   have:rev v t*(α*rev x t)=(rev u' t*rev v t-rev u t*rev v' t)*rev a t+(rev u t*rev a t+rev v t*rev b t)*rev v' t:=by rw [a1];grind
   rw [this,a3,←a2];grind) i
  have h1:=hid (a.length-1)
  rw [Ke,Pg,Pg,Dg (m:=y.length) (n:=a.length-x.length+1) (Hu _) l2 _ (by omega),Gm]at h1
  have h2:=Zbg (U:=tzl v) (a:=x.map fun c=>α*c) (p:=(tzl v).length) (t:=a.length-1) (Nat.le_refl _) (by rw [List.length_map];omega)
  rw [PS.mul_c]at h2
  have h3:Qn (fun k=>cf (tzl v) k*cf (x.map fun c=>α*c) (a.length-1-k)) (a.length-1+1)=0:=h2
  rw [h3]at h1
  have:=Int.mul_ne_zero hγ (ha.mem ha0)
  omega
 have hvne:tzl v≠[]:=fun e=>by rw [e]at hv;simp at hv;omega
 have cR:∀i,cf (Gf (Mn U a) (Mn V b)) i=(ps U*ps a).c i+(ps V*ps b).c i:=fun i=>by
  rw [Ke,Gm,Gm,PS.mul_c,PS.mul_c];rfl
 generalize hR:Gf (Mn U a) (Mn V b)=R at cR
 have rR:∀t,rev R t=rev U t*rev a t+rev V t*rev b t:=fun t=>by rw [←hR,Qd,Yt,Yt]
 have lR:(tzl R).length≤x.length-1:=Zkx fun i hi=>by rw [cR];exact hz i hi
 have hf:tzl (Gf (Mn U v) ((Mn u V).map fun c=>(-1)*c))=[]:=by
  rcases Zdd (w:=Gf (Mn R v) ((Mn y V).map fun c=>(-β)*c)) (q:=Gf (Mn U v) ((Mn u V).map fun c=>(-1)*c)) (y:=a) (n:=a.length-1) (fun t=>by
   rw [Qd,Yd,Yt,Yt,Qd,Yd,Yt,Yt,rR]
   have a2:=e2 t
   push_cast
   have:(-(β:Rat))*(rev y t*rev V t)=- (β*rev y t)*rev V t:=by grind
   rw [this,a2];grind) ha ha0 (fun i hi=>by
   rw [Ke,Pg,Dg lR l1 i (by omega),Dg (m:=y.length) (n:=a.length-x.length+1) (Hu _) (Nat.le_trans (Hu _) (Nat.le_of_eq lV)) i (by omega)];omega)with h9 | h9
  ·exact h9
  ·refine Classical.byContradiction fun h8=>?_
   have:=List.length_pos_iff.2 h8;omega
 have huv:∀t,rev U t*rev v t=rev u t*rev V t:=fun t=>by
  have:=Ey hf t
  rw [Qd,Yd,Yt,Yt]at this
  push_cast at this;grind
 have hRv:∀t,rev R t*rev v t=β*rev y t*rev V t:=fun t=>by
  rw [rR,e2 t]
  have:=huv t;grind
 have hw:∀t,(γ:Rat)*rev V t=rev v t*rev (Gf (Mn u' V) ((Mn v' U).map fun c=>(-1)*c)) t:=fun t=>by
  rw [Qd,Yd,Yt,Yt,←e3 t]
  have:=huv t;push_cast;grind
 generalize Gf (Mn u' V) ((Mn v' U).map fun c=>(-1)*c)=w at hw
 have hV:tzl V≠[]:=fun e=>by
  rcases hne with⟨i,hi⟩ | ⟨i,hi⟩
  ·refine hi (Mh (p:=U) (q:=[]) (fun t=>?_) i▸Zbh i)
   exact Hk (v:=v) (f:=U) hvne (fun t=>by have:=huv t;rw [Ey e]at this;grind) t
  ·exact tzl_ne hi e
 have hwl:∃c:Int,c≠0∧∀t,rev w t=(c:Rat):=by
  have hwne:tzl w≠[]:=fun e=>hV ((Lb V).2 fun i=>by
   have:=Mh (p:=V.map fun c=>γ*c) (q:=[]) (fun t=>by rw [Yd,hw t,Ey e];show _=(0:Rat);grind) i
   rw [Pg,Zbh]at this
   exact(Int.mul_eq_zero.1 this).resolve_left hγ)
  rcases Zdd (w:=V.map fun c=>γ*c) (q:=w) (y:=tzl v) (n:=a.length-x.length+1) (fun t=>by rw [Yd,Lc,hw t];grind) (Oy v) hvne (fun i hi=>by rw [Pg,Qf (by omega)];omega)with h9 | h9
  ·exact absurd h9 hwne
  ·have h8:=List.length_pos_iff.2 hwne
   have h7:(tzl w).length=1:=by omega
   match hc:tzl w,h7 with
   | [c],_=>
    refine⟨c,?_,fun t=>by rw [←Lc,hc,Ot]⟩
    have:=(Oy w).mem hwne
    rw [hc]at this;exact this
 obtain⟨c,hc0,hc⟩:=hwl
 have hsim:Sim R y:=by
  refine⟨γ,β*c,hγ,Int.mul_ne_zero hβ hc0,fun i=>?_⟩
  have:=Mh (p:=R.map fun d=>γ*d) (q:=y.map fun d=>(β*c)*d) (fun t=>by
   rw [Yd,Yd];push_cast
   have h1:rev (Gf (R.map fun d=>γ*d) (y.map fun d=>(-(β*c))*d)) t=0:=Hk (v:=v) hvne (fun t=>by
    rw [Qd,Yd,Yd];push_cast
    have a1:=hRv t;have a2:=hw t;rw [hc]at a2
    have:rev v t*(γ*rev R t + -(β*c:Rat)*rev y t)=γ*(rev R t*rev v t)-β*rev y t*(rev v t*c):=by grind
    rw [this,a1,←a2];grind) t
   rw [Qd,Yd,Yd]at h1
   push_cast at h1;grind) i
  rwa [Pg,Pg]at this
 have hsz:Sz ((s+1+n)*(a.length+b.length-2*x.length+2)) R:=fun i=>by
  rw [cR]
  have c1:=Zua (t:=i) lU bU (Zfx na)
  have c2:=Zua (t:=i) lV bV (Zfx nb)
  have hN3:b.length-x.length+1+(a.length-x.length+1)=a.length+b.length-2*x.length+2:=nn_eq xl hab
  rw [←hN3]at hs ⊢
  generalize hN:b.length-x.length+1+(a.length-x.length+1)=N at *
  generalize hXX:(2*N*2^n)^(N-1)=X at *
  have c3:((ps U*ps a).c i+(ps V*ps b).c i).natAbs≤N*(X*2^n):=by
   rw [←hN,Nat.add_mul]
   have:=Int.natAbs_add_le ((ps U*ps a).c i) ((ps V*ps b).c i)
   omega
  refine(Me _ _).2 (Nat.lt_of_le_of_lt c3 ?_)
  have hX0:0<X:=by rw [←hXX];exact Nat.pow_pos (Nat.mul_pos (by omega) (Nat.pow_pos (by decide)))
  have c4:N*(X*2^n)<(2*N*2^n)^N:=by
   have e:(2*N*2^n)^N=X*(2*N*2^n):=by
    rw [←hXX,←Nat.pow_succ,Nat.succ_eq_add_one,show N-1+1=N by omega]
   rw [e]
   have:0<N*(X*2^n):=Nat.mul_pos (by omega) (Nat.mul_pos hX0 (Nat.pow_pos (by decide)))
   have e2:X*(2*N*2^n)=2*(N*(X*2^n)):=by grind
   omega
  have c5:2*N*2^n≤2^(s+1+n):=by
   rw [Nat.pow_add,Nat.pow_succ]
   exact Nat.mul_le_mul_right _ (by omega)
  have c6:=Nat.pow_le_pow_left c5 N
  rw [←Nat.pow_mul]at c6
  exact Nat.lt_of_lt_of_le c4 c6
 have h1:tzl R≠[]:=fun e=>by
  obtain⟨m,k,hm,hk,e9⟩:=hsim
  have:=e9 (y.length-1)
  rw [(Lb R).1 e,Int.mul_zero]at this
  exact Int.mul_ne_zero hk (hy.mem h0) this.symm
 have hsim2:Sim (tzl R) y:=by
  obtain⟨m,k,hm,hk,e9⟩:=hsim
  exact⟨m,k,hm,hk,fun i=>by rw [Lr];exact e9 i⟩
 have h2:=(Qo (Oy R)).trans hsim2
 have h3:∀i,(cf y i).natAbs=(cf (Yx (tzl R)) i).natAbs:=fun i=>by
  rcases Zha (Xi (Oy R)) hy (fun e=>h1 (List.eq_nil_of_length_eq_zero (by rw [←Yi,e];rfl))) (Ld (Oy R) h1) hp h2 with h9 | h9
  ·rw [h9]
  ·rw [h9 i,Int.natAbs_neg]
 exact Ps fun i=>by rw [h3];exact Hd hsz.tzl i
def Zsf(la lb K:Nat):Prop:=∀l,l≤lb→(l+1)*(K*(la+lb-2*l+2)+1)≤65536
theorem Zoz{la lb K l m:Nat}(h:l≤m):K*(la+lb-2*m+2)≤K*(la+lb-2*l+2):=Nat.mul_le_mul_left _ (by omega)
theorem Zdm{x y:List Int}{C:Nat}(hy:y≠[])(hl:y.length<x.length)(h1:msz x≤C)(h2:msz y≤C)(h:(x.length+1)*(C+1)≤65536):Zdn x y=0:=by
 have l1:=List.length_pos_iff.2 hy
 unfold Zdn
 rw [if_neg (by omega),if_neg (by omega)]
 have h3:(x.length-y.length+1)*(msz y+1)≤x.length*(C+1):=Nat.mul_le_mul (by omega) (by omega)
 rw [Nat.add_mul,Nat.one_mul]at h
 rw [if_neg (by omega)]
theorem Zs6{a b x y:List Int}(hI:Inv a b x y)(hab:b.length≤a.length)(hx:Tr x)(hy:Tr y)(h0:y≠[]):Inv a b y (Yx (Pk x y)):=by
 obtain⟨k,s,hs⟩:=Gy x h0
 have hL:=Nl (hy.mem h0) k
 generalize cf y (y.length-1)^k=L at hs hL
 have he:∀t:Rat,(L:Rat)*rev x t=rev s t*rev y t+rev (Pk x y) t:=fun t=>by
  have:=Fi (a:=L) (c:=-1) (x:=x) (s:=s) (y:=y) (z:=Pk x y) (fun t=>by rw [hs t];omega) t
  push_cast at this;grind
 exact hI.next hab hx hy h0 hL he (Qo (Lp hx)).symm (by rw [Yi];exact Qx x h0)
theorem Zdf{p:List Int}(h:Tr p):Yx p=[]∨Qc (Yx p)=1:=by
 by_cases h0:p=[]
 ·left;rw [h0];rfl
 ·right;exact Ld h h0
theorem Fb{x y:List Int}(hx:Tr x)(h0:y≠[]):(Lf x y).length<y.length:=by rw [Fa hx];exact Qx x h0
theorem Zs5{a b x y:List Int}(hI:Inv a b x y)(hab:b.length≤a.length)(hx:Tr x)(hy:Tr y)(h0:y≠[]):Inv a b y (Lf x y)∧(Lf x y=[]∨Qc (Lf x y)=1):=by
 have l0:=List.length_pos_iff.2 h0
 have hxy:=hI.yl
 obtain⟨r1,r2,k,u,hk⟩:=Ag hy h0 x.length x hx (by omega)
 have hs:=Zai (f:=x.length) hx hy h0 (by omega) (by omega)
 have htn:Tr (Zlj (Bn x.length x y)):=Qw _ _
 have hK:Ai y^k≠0:=Nl (by have:=Zdc hy h0;omega) _
 constructor
 ·refine hI.next (z':=Bn x.length x y) (q:=u) hab hx hy h0 hK (fun t=>?_) ?_ (Fb hx h0)
  ·have:=Fi (a:=Ai y^k) (c:=-1) (x:=x) (s:=u) (y:=y) (z:=Bn x.length x y) (fun t=>by rw [hk t];omega) t
   push_cast at this ⊢;grind
  ·rw [←hs]
   exact Sim.trans ⟨1,-1,by decide,by decide,fun i=>by rw [Fn];omega⟩ (Qo htn).symm
 ·rw [←hs];exact Zdf htn
theorem Ztq{a b:List Int}{n s K:Nat}(hab:b.length≤a.length)(ha:Tr a)(na:Sz n a)(nb:Sz n b)(hs:a.length+b.length≤2^s)(hK:s+1+n≤K)(hN:Zsf a.length b.length K) :
  ∀(f:Nat) (x y:List Int),Inv a b x y→Tr x→Tr y→(y=[]∨Qc y=1)→msz x≤K*(a.length+b.length-2*x.length+2)→y.length≤f→eok f x y∧msz (eu f x y)≤K*(a.length+b.length)
 | 0,x,y,hI,hx,hy,hp,hm,hl=>by
  have hxl:=hI.yl
  refine⟨List.eq_nil_of_length_eq_zero (by omega),Nat.le_trans hm (Nat.mul_le_mul_left _ (by have:=hI.xl;omega))⟩
 | f+1,x,y,hI,hx,hy,hp,hm,hl=>by
  have hyl:=hI.yl
  have hxl:=hI.xl
  by_cases h0:y=[]
  ·subst h0
   refine⟨.inl rfl,?_⟩
   rw [Ek]
   exact Nat.le_trans hm (Nat.mul_le_mul_left _ (by omega))
  ·have l0:=List.length_pos_iff.2 h0
   have hb:=hI.bound hab ha hx hy h0 (hp.resolve_left h0) na nb (s:=s) (by omega)
   have hb2:msz y≤K*(a.length+b.length-2*x.length+2):=Nat.le_trans hb (Nat.mul_le_mul_right _ hK)
   have hd:=Zdm h0 hyl hm hb2 (hN x.length hxl)
   have ht:=Lp (q:=y) hx
   have ih:=Ztq hab ha na nb hs hK hN f y (Yx (Pk x y)) (Zs6 hI hab hx hy h0) hy (Xi ht) (Zdf ht) (Nat.le_trans hb2 (Zoz (by omega))) (by rw [Yi];have:=Qx x h0;omega)
   refine⟨.inr ⟨hd,ih.1⟩,?_⟩
   rw [show eu (f+1) x y=eu f y (Yx (Pk x y)) by
     conv=>lhs;unfold eu
     rw [if_neg h0]]
   exact ih.2
theorem Zub{a b:List Int}{n s K:Nat}(hab:b.length≤a.length)(ha:Tr a)(na:Sz n a)(nb:Sz n b)(hs:a.length+b.length≤2^s)(hK:s+1+n≤K)(hN:Zsf a.length b.length K) :
  ∀(f:Nat) (x y:List Int),Inv a b x y→Tr x→Tr y→(y=[]∨Qc y=1)→msz x≤K*(a.length+b.length-2*x.length+2)→y.length≤f→cok f x y∧∀p∈Mk f x y,msz p≤K*(a.length+b.length)∧p.length≤a.length
 | 0,x,y,hI,hx,hy,hp,hm,hl=>by
  have hxl:=hI.yl
  have hxl2:=hI.xl
  have h0:y=[]:=List.eq_nil_of_length_eq_zero (by omega)
  refine⟨h0,fun p hp=>?_⟩
  have:p=x:=by unfold Mk at hp;simpa using hp
  rw [this]
  exact⟨Nat.le_trans hm (Nat.mul_le_mul_left _ (by omega)),by omega⟩
 | f+1,x,y,hI,hx,hy,hp,hm,hl=>by
  have hyl:=hI.yl
  have hxl:=hI.xl
  by_cases h0:y=[]
  ·subst h0
   refine⟨.inl rfl,fun p hp=>?_⟩
   rw [Ge]at hp
   have:p=x:=by simpa using hp
   rw [this]
   exact⟨Nat.le_trans hm (Nat.mul_le_mul_left _ (by omega)),by omega⟩
  ·have l0:=List.length_pos_iff.2 h0
   have hb:=hI.bound hab ha hx hy h0 (hp.resolve_left h0) na nb (s:=s) (by omega)
   have hb2:msz y≤K*(a.length+b.length-2*x.length+2):=Nat.le_trans hb (Nat.mul_le_mul_right _ hK)
   have hd:=Zdm h0 hyl hm hb2 (hN x.length hxl)
   obtain⟨i1,i2⟩:=Zs5 hI hab hx hy h0
   have ih:=Zub hab ha na nb hs hK hN f y (Lf x y) i1 hy (Zaf hx) i2 (Nat.le_trans hb2 (Zoz (by omega))) (by have:=Fb hx h0;omega)
   refine⟨.inr ⟨hd,by omega,ih.1⟩,fun p hp=>?_⟩
   unfold Mk at hp
   rw [if_neg h0]at hp
   rcases List.mem_cons.1 hp with rfl | hp
   ·exact⟨Nat.le_trans hm (Nat.mul_le_mul_left _ (by omega)),by omega⟩
   ·exact ih.2 p hp
theorem Ztr{a b:List Int}{n s K f:Nat}(hab:b.length<a.length)(ha:Tr a)(hb:Tr b)(na:Sz n a)(nb:Sz n b)(hs:a.length+b.length≤2^s)(hK:s+1+n≤K)(hN:Zsf a.length b.length K)(hd:(a.length+1)*(n+1)≤65536)(hf:b.length≤f) :
  eok f a b∧msz (eu f a b)≤K*(a.length+b.length):=by
 have ma:=Ps na
 have mb:=Ps nb
 have la:0<a.length:=by omega
 have hKn:n≤K*(a.length+b.length):=Nat.le_trans (by omega:n≤K*1) (Nat.mul_le_mul_left _ (by omega))
 by_cases h0:b=[]
 ·subst h0
  cases f with
  | zero=>exact⟨rfl,by rw [Ek];omega⟩
  | succ f=>exact⟨.inl rfl,by rw [Ek];omega⟩
 ·have l0:=List.length_pos_iff.2 h0
  obtain⟨g,rfl⟩:∃g,f=g+1:=⟨f-1,by omega⟩
  have ht:=Lp (q:=b) ha
  obtain⟨k,q,hq⟩:=Gy a h0
  have hL:=Nl (hb.mem h0) k
  generalize cf b (b.length-1)^k=L at hq hL
  have he:∀t:Rat,(L:Rat)*rev a t=rev q t*rev b t+rev (Pk a b) t:=fun t=>by
   have:=Fi (a:=L) (c:=-1) (x:=a) (s:=q) (y:=b) (z:=Pk a b) (fun t=>by rw [hq t];omega) t
   push_cast at this;grind
  have hI:Inv a b b (Yx (Pk a b)):=Inv.first (by omega) ha hb h0 hL he (Qo ht).symm (by rw [Yi];exact Qx a h0)
  have ih:=Ztq (by omega) ha na nb hs hK hN g b (Yx (Pk a b)) hI hb (Xi ht) (Zdf ht) (Nat.le_trans (by omega:msz b≤K*1) (Nat.mul_le_mul_left _ (by omega))) (by rw [Yi];have:=Qx a h0;omega)
  refine⟨.inr ⟨Zdm h0 hab ma mb hd,ih.1⟩,?_⟩
  rw [show eu (g+1) a b=eu g b (Yx (Pk a b)) by
    conv=>lhs;unfold eu
    rw [if_neg h0]]
  exact ih.2
theorem cok_all{a b:List Int}{n s K f:Nat}(hab:b.length<a.length)(ha:Tr a)(hb:Tr b)(na:Sz n a)(nb:Sz n b)(hs:a.length+b.length≤2^s)(hK:s+1+n≤K)(hN:Zsf a.length b.length K)(hd:(a.length+1)*(n+1)≤65536)(hf:b.length≤f) :
  cok f a b∧∀p∈Mk f a b,msz p≤K*(a.length+b.length)∧p.length≤a.length:=by
 have ma:=Ps na
 have mb:=Ps nb
 have la:0<a.length:=by omega
 have hKn:n≤K*(a.length+b.length):=Nat.le_trans (by omega:n≤K*1) (Nat.mul_le_mul_left _ (by omega))
 by_cases h0:b=[]
 ·subst h0
  have hall:∀p∈Mk f a [],msz p≤K*(a.length+([]:List Int).length)∧p.length≤a.length:=fun p hp=>by
   rw [Ge]at hp
   have:p=a:=by simpa using hp
   rw [this];exact⟨by omega,Nat.le_refl _⟩
  cases f with
  | zero=>exact⟨rfl,hall⟩
  | succ f=>exact⟨.inl rfl,hall⟩
 ·have l0:=List.length_pos_iff.2 h0
  obtain⟨g,rfl⟩:∃g,f=g+1:=⟨f-1,by omega⟩
  obtain⟨r1,r2,k,u,hk⟩:=Ag hb h0 a.length a ha (by omega)
  have hs':=Zai (f:=a.length) ha hb h0 (by omega) (by omega)
  have htn:Tr (Zlj (Bn a.length a b)):=Qw _ _
  have hKK:Ai b^k≠0:=Nl (by have:=Zdc hb h0;omega) _
  have hI:Inv a b b (Lf a b):=by
   refine Inv.first (z':=Bn a.length a b) (q:=u) (by omega) ha hb h0 hKK (fun t=>?_) ?_ (Fb ha h0)
   ·have:=Fi (a:=Ai b^k) (c:=-1) (x:=a) (s:=u) (y:=b) (z:=Bn a.length a b) (fun t=>by rw [hk t];omega) t
    push_cast at this ⊢;grind
   ·rw [←hs']
    exact Sim.trans ⟨1,-1,by decide,by decide,fun i=>by rw [Fn];omega⟩ (Qo htn).symm
  have hp:Lf a b=[]∨Qc (Lf a b)=1:=by rw [←hs'];exact Zdf htn
  have ih:=Zub (by omega) ha na nb hs hK hN g b (Lf a b) hI hb (Zaf ha) hp (Nat.le_trans (by omega:msz b≤K*1) (Nat.mul_le_mul_left _ (by omega))) (by have:=Fb ha h0;omega)
  refine⟨.inr ⟨Zdm h0 hab ma mb hd,by omega,ih.1⟩,fun p hp=>?_⟩
  unfold Mk at hp
  rw [if_neg h0]at hp
  rcases List.mem_cons.1 hp with rfl | hp
  ·exact⟨by omega,Nat.le_refl _⟩
  ·exact ih.2 p hp
def kkR(R:Nat):Nat→Nat
 | 0=>0
 | d+1=>2*(R+1)*kkR R d+1
theorem kkR_le(R:Nat):∀d,kkR R d≤kkR R (d+1)
 | 0=>Nat.zero_le _
 | d+1=>by
  have h:=kkR_le R d
  show 2*(R+1)*kkR R d+1≤2*(R+1)*kkR R (d+1)+1
  exact Nat.succ_le_succ (Nat.mul_le_mul_left _ h)
theorem Zxn(R:Nat){d e:Nat}(h:d≤e):kkR R d≤kkR R e:=by
 induction e with
 | zero=>rw [show d=0 by omega];exact Nat.le_refl _
 | succ e ih=>
  rcases Nat.lt_or_ge d (e+1)with h1 | h1
  ·exact Nat.le_trans (ih (by omega)) (kkR_le R e)
  ·rw [show d=e+1 by omega];exact Nat.le_refl _
theorem Zs9(R:Nat):∀(d:Nat) (u:List Int) (T:List Int) (B:Nat),u.length≤d→T.length=d→T.Nodup→(∀t∈T,t.natAbs≤R)→(∀t∈T,(ev1 u t).natAbs≤B)→∀i,(cf u i).natAbs≤kkR R d*B
 | 0,u,T,B,hu,_,_,_,_,i=>by rw [Qf (by omega)];exact Nat.zero_le _
 | d+1,u,[],B,_,hT,_,_,_,_=>by simp at hT
 | d+1,u,t :: T,B,hu,hT,hd,hr,hB,i=>by
  have hl:=Zb8 u t
  have ht:=hr t (List.mem_cons_self ..)
  have hb:=hB t (List.mem_cons_self ..)
  have ih:=Zs9 R d (sdv u t) T (2*B) (by omega) (by simpa using hT) (List.nodup_cons.1 hd).2 (fun x hx=>hr x (List.mem_cons_of_mem _ hx)) fun x hx=>by
   have h1:=Zl6 u t x
   have h2:=hB x (List.mem_cons_of_mem _ hx)
   have hne:x≠t:=fun e=>(List.nodup_cons.1 hd).1 (e▸hx)
   have h3:((x-t)*ev1 (sdv u t) x).natAbs≤2*B:=by omega
   rw [Int.natAbs_mul]at h3
   have h4:1*(ev1 (sdv u t) x).natAbs≤(x-t).natAbs*(ev1 (sdv u t) x).natAbs:=Nat.mul_le_mul_right _ (by omega)
   omega
  have hk:kkR R (d+1)*B=R*(kkR R d*(2*B))+kkR R d*(2*B)+B:=by
   show(2*(R+1)*kkR R d+1)*B=_
   grind
  have hmul:∀x:Int,x.natAbs≤kkR R d*(2*B)→(t*x).natAbs≤R*(kkR R d*(2*B)):=fun x hx=>by
   rw [Int.natAbs_mul];exact Nat.mul_le_mul (by omega) hx
  rw [hk]
  cases i with
  | zero=>
   rw [Zun u t]
   have:=hmul _ (ih 0)
   omega
  | succ i=>
   rw [Zuo u t]
   have h1:=ih i
   have h2:=hmul _ (ih (i+1))
   omega
theorem Zj9(R:Nat):∀(n:Nat) (s:List Int) (A:Nat) (t:Int),s.length≤n→(∀c∈s,c.natAbs≤A)→0≤t→t≤(R:Int)→(ev1 s t).natAbs≤A*((R+1)^n)
 | n,[],A,t,_,_,_,_=>by simp [ev1]
 | 0,c :: s,A,t,h,_,_,_=>by simp at h
 | n+1,c :: s,A,t,h,hc,h0,h1=>by
  have ih:=Zj9 R n s A t (by simpa using h) (fun x hx=>hc x (List.mem_cons_of_mem _ hx)) h0 h1
  have h2:=hc c (List.mem_cons_self ..)
  have h3:(t*ev1 s t).natAbs≤R*(A*(R+1)^n):=by rw [Int.natAbs_mul];exact Nat.mul_le_mul (by omega) ih
  show(c+t*ev1 s t).natAbs≤A*(R+1)^(n+1)
  have h4:A*(R+1)^(n+1)=R*(A*(R+1)^n)+A*(R+1)^n:=by rw [Nat.pow_succ];grind
  have h5:A*1≤A*(R+1)^n:=Nat.mul_le_mul_left _ (Nat.pow_pos (by omega))
  omega
theorem Iy{s u v:List Int}{n L R e:Nat}(hu:Tr u)(hv:Tr v)(hs:Sz n s)(h0:s≠[])(hts:Tr s)(hl:s.length≤L)(hR:2*L≤R+2)(he:kkR R L*(R+1)^L<2^e)(h:s=Mb u v):Sz (n+e) u:=by
 have hne:u≠[]∧v≠[]:=by
  refine⟨fun e=>h0 ?_,fun e=>h0 ?_⟩
  ·rw [h,e,Iw]
  ·rw [h,e,Zb3]
 have hlen:=Oe hu hv hne.1 hne.2
 rw [←h]at hlen
 have lu:=List.length_pos_iff.2 hne.1
 have lv:=List.length_pos_iff.2 hne.2
 have hz:∃i,cf s i≠0:=⟨_,hts.mem h0⟩
 generalize hP:(List.range (R+1)).map (fun n:Nat=>(n:Int))=pts
 have hnp:pts.Nodup:=by
  rw [←hP]
  refine List.Pairwise.map _ (fun a b hab=>?_) List.nodup_range
  intro e;exact hab (by exact_mod_cast e)
 have h1:=Zgj (fun t=>decide (ev1 s t≠0)) pts
 have h2:=Zho s.length s (pts.filter fun t=>!decide (ev1 s t≠0)) rfl hz (hnp.filter _) fun t ht=>by
  have:=(List.mem_filter.1 ht).2
  simpa using this
 have h3:pts.length=R+1:=by rw [←hP];simp
 generalize hT:pts.filter (fun t=>decide (ev1 s t≠0))=T at h1
 have hTl:s.length≤T.length:=by omega
 have hTm:∀t∈T.take u.length,t∈pts∧ev1 s t≠0:=fun t ht=>by
  have:=List.mem_of_mem_take ht
  rw [←hT,List.mem_filter]at this
  exact⟨this.1,by simpa using this.2⟩
 have hr:∀t∈T.take u.length,0≤t∧t≤(R:Int):=fun t ht=>by
  have:=(hTm t ht).1
  rw [←hP]at this
  obtain⟨k,hk,rfl⟩:=List.mem_map.1 this
  have:=List.mem_range.1 hk
  omega
 have hA:∀c∈s,c.natAbs≤2^n:=fun c hc=>Nat.le_of_lt ((Me n _).1 (hs.mem hc))
 have hk:=Zs9 R u.length u (T.take u.length) (2^n*(R+1)^L) (Nat.le_refl _) (by rw [List.length_take];omega) ((hT▸hnp.filter _:T.Nodup).sublist (List.take_sublist _ _)) (fun t ht=>by have:=hr t ht;omega) fun t ht=>by
  have hb:=Zj9 R L s (2^n) t hl hA (hr t ht).1 (hr t ht).2
  have he:ev1 s t=ev1 u t*ev1 v t:=by
   rw [Zid,Zid,Zid,h,Zwx hu hv hne.1 hne.2]
  have hnz:=(hTm t ht).2
  have hd:ev1 u t∣ev1 s t:=⟨_,he⟩
  exact Nat.le_trans (Nat.le_of_dvd (by omega) (Int.natAbs_dvd_natAbs.2 hd)) hb
 intro i
 rw [Me]
 refine Nat.lt_of_le_of_lt (hk i) ?_
 have hkk:=Zxn R (show u.length≤L by omega)
 rw [Nat.pow_add,Nat.mul_comm (kkR R u.length),Nat.mul_assoc]
 refine Nat.mul_lt_mul_of_pos_left ?_ (Nat.pow_pos (by decide))
 rw [Nat.mul_comm]
 exact Nat.lt_of_le_of_lt (Nat.mul_le_mul_right _ hkk) he
theorem num13{la lb K:Nat}(h1:la≤13)(h2:lb+1=la)(hK:K≤600):Zsf la lb K:=fun l hl=>by
 have h3:∀l,l≤12→(l+1)*(600*(27-2*l)+1)≤65536:=by decide
 refine Nat.le_trans (Nat.mul_le_mul_left _ (Nat.succ_le_succ (Nat.mul_le_mul hK (by omega)))) (h3 l (by omega))
theorem chF{xs:List Int}{n:Nat}(F:Nat)(hx:Tr xs)(h0:xs≠[])(hs:Sz n xs)(hn:n≤260)(hl:xs.length≤13)(hF:xs.length≤F+1) :
  Zfh F xs∧Sz (n+130) (sqf F xs)∧(sqf F xs).length≤xs.length∧∀p∈chn F xs,msz p≤(n+141)*25∧p.length≤xs.length:=by
 have hnn:=Zm1 hs
 have hln:=Pt hx
 have ht:Tr (nrm xs):=Nk (Xi hx)
 have hd:=He hnn (by omega)
 have hld:=Oj (nrm xs)
 have htd:Tr (Pf (nrm xs)):=Nv ht
 have m1:=Ps hnn
 have m2:=Ps hd
 have l0:=List.length_pos_iff.2 h0
 have hgA:gA (nrm xs) (Pf (nrm xs))=Yx (nrm xs):=if_neg (by omega)
 have hgB:gB (nrm xs) (Pf (nrm xs))=Yx (Pf (nrm xs)):=if_neg (by omega)
 have hok:eok F (gA (nrm xs) (Pf (nrm xs))) (gB (nrm xs) (Pf (nrm xs))):=by
  rw [hgA,hgB]
  refine(Ztr (n:=n+5) (s:=5) (K:=n+11) (by rw [Yi,Yi];omega) (Xi ht) (Xi htd) (Hd (hnn.mono (by omega))) (Hd hd) ?_ (by omega) ?_ ?_ ?_).1
  ·rw [Yi,Yi];omega
  ·rw [Yi,Yi];exact num13 (by omega) (by omega) (by omega)
  ·rw [Yi]
   exact Nat.le_trans (Nat.mul_le_mul (show(nrm xs).length+1≤14 by omega) (show n+5+1≤300 by omega)) (by decide)
  ·rw [Yi];omega
 obtain⟨f1,f2,f3,f4,f5,f6⟩:=Nh (F:=F) hx h0 hok
 have hg:=Zbt (F:=F) ht htd
 have hn0:=Zgd hx h0
 have hK:kkR 24 13*(24+1)^13<2^130:=by decide +kernel
 have hq:=Iy (L:=13) (R:=24) f2 hg hnn hn0 ht (by omega) (by decide) hK f4
 have hgs:=Iy (L:=13) (R:=24) hg f2 hnn hn0 ht (by omega) (by decide) hK (by rw [Ee];exact f4)
 have hlq:=Oe f2 hg f3 f5
 rw [←f4]at hlq
 have lg:=List.length_pos_iff.2 f5
 have lq:=List.length_pos_iff.2 f3
 have mg:=Ps hgs
 have hql:(sqf F xs).length≤xs.length:=by omega
 have hqd:=He hq (by omega)
 have hlqd:=Oj (sqf F xs)
 have hc:=cok_all (a:=sqf F xs) (b:=Yx (Pf (sqf F xs))) (n:=n+130+5) (s:=5) (K:=n+141) (f:=F) (by rw [Yi];omega) f2 (Xi (Nv f2)) (hq.mono (by omega)) (Hd hqd) (by rw [Yi];omega) (by omega) (by rw [Yi];exact num13 (by omega) (by omega) (by omega)) (Nat.le_trans (Nat.mul_le_mul (show(sqf F xs).length+1≤14 by omega) (show n+130+5+1≤400 by omega)) (by decide)) (by rw [Yi];omega)
 refine⟨⟨⟨fun i _=>Nat.le_trans (Zt3 hnn (by omega) i) (by omega),?_,hok,?_,f1⟩,fun i _=>Nat.le_trans (Zt3 hq (by omega) i) (by omega),hc.1⟩,hq,hql,fun p hp=>?_⟩
 ·intro h
  have h3:(max (nrm xs).length (Pf (nrm xs)).length+2)*(max (nrm xs).length (Pf (nrm xs)).length+2)*(max (msz (nrm xs)) (msz (Pf (nrm xs)))+8)≤15*15*280:=Nat.mul_le_mul (Nat.mul_le_mul (by omega) (by omega)) (by omega)
  have:=h.2.2
  omega
 ·unfold Zdn
  rw [if_neg (by omega)]
  split
  ·rfl
  ·have:((nrm xs).length-(Ku F (nrm xs) (Pf (nrm xs))).length+1)*(msz (Ku F (nrm xs) (Pf (nrm xs)))+1)≤14*400:=Nat.mul_le_mul (by omega) (by omega)
   rw [if_neg (by omega)]
 ·obtain⟨a1,a2⟩:=hc.2 p hp
  refine⟨Nat.le_trans a1 (Nat.mul_le_mul_left _ ?_),by omega⟩
  rw [Yi];omega
theorem Dv.ed{g a:List Int}(h:Dv g a):Ed g a:=by
 obtain⟨k,s,hk,h⟩:=h
 refine⟨k,s,hk,fun x=>?_⟩
 have:=Fi (a:=k) (c:=0) (x:=a) (s:=s) (y:=g) (z:=[]) (fun t=>by rw [h t];omega) x
 push_cast at this;grind
theorem Zik{xs:List Int}{F:Nat}(hx:Tr xs)(h0:xs≠[])(hC:Zfh F xs)(s t:Rat) :
  ∃h:Rat,0<h∧∀u v,s≤u→u≤v→v≤t→v-u≤h→vat ((chn F xs).map rev) u-vat ((chn F xs).map rev) v=crs (rev (sqf F xs)) u v:=by
 have hok:=hC.1.2.2.1
 obtain⟨f1,f2,f3,f4,f5,f6⟩:=Nh (F:=F) hx h0 hok
 have htp:=Nv f2
 by_cases hd:Pf (sqf F xs)=[]
 ·refine Zfy (κ:=1) f2 (Xi htp) f3 hC.2.2 (by decide) (fun x=>?_) fun q hq a b=>?_
  ·rw [←Kd,hd];show(0:Rat)=1*0;grind
  ·exact Zea hx h0 hok hq a (b.sim (Qo htp))
 ·have hpc:0<Qc (Pf (sqf F xs)):=by
   have h1:=Dd htp hd
   have h2:=Ns (Pf (sqf F xs))
   omega
  refine Zfy (κ:=(Qc (Pf (sqf F xs)):Rat)) f2 (Xi htp) f3 hC.2.2 (by exact_mod_cast hpc) (fun x=>?_) fun q hq a b=>?_
  ·rw [←Kd,←Yd]
   exact Mr x _ _ fun i=>by rw [Pg,Int.mul_comm,Hj]
  ·exact Zea hx h0 hok hq a (b.sim (Qo htp))
theorem irr_sqf{p s g q:List Int}(hps:∀x:Rat,rev p x=rev s x*rev g x)(hg:Tr g)(g0:g≠[])(hgd:Ed g (ld p))(hq:Irr q)(hqp:Ed q p):Ed q s:=by
 refine Classical.byContradiction fun hns=>?_
 have hq1:=hq.1
 have hq2:=hq.2.1
 have hqd:¬Ed q (ld q):=fun h=>by
  have h8:Ed q (Pf q):=h.congr fun x=>(Kd q x).symm
  have hl:=Oj q
  have:=(h8.len hq1 (Nv hq1) (fun e=>by rw [e]at hl;simp at hl;omega)).2
  omega
 obtain⟨c1,m1,k1,e1⟩:=hqp
 obtain⟨c2,m,k2,e2⟩:=hgd
 have key:∀k,Ed (Aj q k) g:=fun k=>by
  induction k with
  | zero=>exact⟨1,g,by decide,fun x=>by rw [show Aj q 0=[1]from rfl,Ot];push_cast;grind⟩
  | succ k ih=>
   cases k with
   | zero=>
    have h9:Ed q g:=(Ci (f:=s) (h:=g) (m:=m1) hq k1 (fun x=>by rw [←hps x];exact e1 x)).resolve_left hns
    exact h9.congr_l fun x=>by rw [Hx,show Aj q 0=[1]from rfl,Ot];push_cast;grind
   | succ k=>
    obtain⟨c,u,kc,eu⟩:=ih
    have hd:∀x:Rat,(c:Rat)*rev (ld g) x=rev (ld u) x*rev (Aj q (k+1)) x+rev u x*(((k:Rat)+1)*(rev (Aj q k) x*rev (ld q) x)):=fun x=>by
     have:=Gx (p:=g.map fun a=>c*a) (q:=Mn u (Aj q (k+1))) (fun y=>by rw [Yd,Yt];exact eu y) x
     rwa [Cb,Da,Zlc]at this
    have hp:∀x:Rat,rev (ld p) x=rev (ld s) x*rev g x+rev s x*rev (ld g) x:=fun x=>by
     have:=Gx (p:=p) (q:=Mn s g) (fun y=>by rw [Yt];exact hps y) x
     rwa [Da]at this
    have hz:∀x:Rat,rev (Gf ((Mn (Mn s u) (ld q)).map fun a=>(c2*((k:Int)+1))*a) ((Mn (Gf ((Mn s (ld u)).map fun a=>c2*a) ((Mn (Gf m ((ld s).map fun a=>(-c2)*a)) u).map fun a=>(-1)*a)) q))) x=0:=fun x=>by
     refine Hk (v:=Aj q k) (fun e=>?_) (fun x=>?_) x
     ·rw [Zae (Bb hq1 hq2 k).1]at e
      have:=(Bb hq1 hq2 k).2
      rw [e]at this;simp at this
     ·rw [Qd,Yd,Yt,Yt,Yt,Qd,Yd,Yt,Yd,Yt,Qd,Yd]
      have a1:=e2 x;have a2:=hp x;have a3:=hd x;have a4:=eu x
      rw [Hx]at a3 a4
      push_cast
      have b1:(c2:Rat)*rev s x*(c*rev (ld g) x)=(rev m x-c2*rev (ld s) x)*(c*rev g x):=by
       have:(c2:Rat)*rev s x*(c*rev (ld g) x)=c*(c2*(rev (ld p) x-rev (ld s) x*rev g x)):=by rw [a2];grind
       rw [this]
       have:(c:Rat)*(c2*(rev (ld p) x-rev (ld s) x*rev g x))=c*(c2*rev (ld p) x)-c*c2*rev (ld s) x*rev g x:=by grind
       rw [this,a1];grind
      rw [a3,a4]at b1
      grind
    have h9:=Ci (f:=Mn s u) (h:=ld q) (k:=c2*((k:Int)+1)) (m:=Gf ((Mn (Gf m ((ld s).map fun a=>(-c2)*a)) u)) ((Mn s (ld u)).map fun a=>(-c2)*a)) hq (Int.mul_ne_zero k2 (by omega)) (fun x=>by
     have:=hz x
     rw [Qd,Yd,Yt,Yt,Yt,Qd,Yd,Yt,Yd,Yt,Qd,Yd]at this
     rw [Yt,Qd,Yt,Qd,Yd,Yd,Yt]
     push_cast at this ⊢
     grind)
    have h8:=Ci (f:=s) (h:=u) (k:=1) (m:=[]) hq (by decide)
    have h7:Ed q u:=by
     obtain⟨c3,w,k3,e3⟩:=h9.resolve_right hqd
     exact(Ci (f:=s) (h:=u) (k:=c3) (m:=w) hq k3 (fun x=>by have:=e3 x;rwa [Yt]at this)).resolve_left hns
    obtain⟨c3,w,k3,e3⟩:=h7
    refine⟨c3*c,w,Int.mul_ne_zero k3 kc,fun x=>?_⟩
    have a4:=eu x;have a5:=e3 x
    rw [Hx q (k+1)];push_cast
    have:(c3:Rat)*c*rev g x=c3*(c*rev g x):=by grind
    rw [this,a4]
    have:(c3:Rat)*(rev u x*rev (Aj q (k+1)) x)=(c3*rev u x)*rev (Aj q (k+1)) x:=by grind
    rw [this,a5];grind
 obtain⟨a1,a2⟩:=Bb hq1 hq2 g.length
 have:=((key g.length).len a1 hg g0).2
 omega
theorem lin_irr{r d:Int}(hd:d≠0):Irr [-r,d]:=by
 have ht:Tr [-r,d]:= .inr hd
 refine⟨ht,by simp,fun q hq he=>?_⟩
 have:=(he.len hq ht (by simp)).2
 simp at this ⊢;omega
theorem Zhr(r d:Int)(x:Rat):rev [-r,d] x=(d:Rat)*x-r:=by
 show((-r:Int):Rat)+x*((d:Rat)+x*0)=_;push_cast;grind
theorem root_ed{p:List Int}{r d:Int}(hp:Tr p)(hd:d≠0)(h:rev p ((r:Rat)/d)=0):Ed [-r,d] p:=by
 have hd':(d:Rat)≠0:=by exact_mod_cast hd
 have ht:Tr [-r,d]:= .inr hd
 obtain⟨k,s,hs⟩:=Gy p (q:=[-r,d]) (by simp)
 have hL:=Nl (ht.mem (by simp)) k
 generalize cf [-r,d] ([-r,d].length-1)^k=L at hs hL
 have he:∀x,(L:Rat)*rev p x=rev s x*rev [-r,d] x+rev (Pk p [-r,d]) x:=fun x=>by
  have:=Fi (a:=L) (c:=-1) (x:=p) (s:=s) (y:=[-r,d]) (z:=Pk p [-r,d]) (fun t=>by rw [hs t];omega) x
  push_cast at this;grind
 have hl:=Qx p (q:=[-r,d]) (by simp)
 have hz:∀x,rev (Pk p [-r,d]) x=0:=fun x=>by
  have h1:=he ((r:Rat)/d)
  rw [h,Zhr]at h1
  match hr:Pk p [-r,d],hl with
  | [],_=>rfl
  | [c],_=>
   rw [hr,Ot]at h1
   rw [Ot]
   have:(d:Rat)*(r/d)=r:=by grind
   rw [this]at h1;grind
 exact⟨L,s,hL,fun x=>by rw [he x,hz x];grind⟩
theorem Ed.root{p:List Int}{r d:Int}(hd:d≠0)(h:Ed [-r,d] p):rev p ((r:Rat)/d)=0:=by
 obtain⟨k,s,hk,h⟩:=h
 have hd':(d:Rat)≠0:=by exact_mod_cast hd
 have hk':(k:Rat)≠0:=by exact_mod_cast hk
 have h1:=h ((r:Rat)/d)
 rw [Zhr]at h1
 have:(d:Rat)*(r/d)=r:=by grind
 rw [this]at h1;grind
theorem Zvv{xs:List Int}{F:Nat}(hx:Tr xs)(h0:xs≠[])(hok:eok F (gA (nrm xs) (Pf (nrm xs))) (gB (nrm xs) (Pf (nrm xs)))){r d:Int}(hd:d≠0)(h:rev xs ((r:Rat)/d)=0):rev (sqf F xs) ((r:Rat)/d)=0:=by
 obtain⟨f1,f2,f3,f4,f5,f6⟩:=Nh (F:=F) hx h0 hok
 have hs:Tr (nrm xs):=Nk (Xi hx)
 have hd':Tr (Pf (nrm xs)):=Nv hs
 have h1:Ed [-r,d] (nrm xs):=(root_ed hx hd h).sim ((Qo hx).symm.trans (Kg _).symm)
 have h2:∀x:Rat,rev (nrm xs) x=rev (sqf F xs) x*rev (Ku F (nrm xs) (Pf (nrm xs))) x:=fun x=>by
  have:rev (nrm xs) x=rev (Mb (sqf F xs) (Ku F (nrm xs) (Pf (nrm xs)))) x:=by rw [←f4]
  rw [this,Yz]
 have h3:Ed (Ku F (nrm xs) (Pf (nrm xs))) (ld (nrm xs)):=((Zb4 hs hd' hok).2.ed).congr fun x=>Kd _ x
 exact(irr_sqf h2 (Zbt hs hd') f5 h3 (lin_irr hd) h1).root hd
def Away(s t:Rat)(f:Rat→Rat):Prop:=∃δ:Rat,0<δ∧∀x,s≤x→x≤t→δ≤f x∨f x≤-δ
theorem Away.mul{s t:Rat}{f g h:Rat→Rat}(hf:Away s t f)(hg:Away s t g)(e:∀x,h x=f x*g x):Away s t h:=by
 obtain⟨a,a1,a2⟩:=hf
 obtain⟨b,b1,b2⟩:=hg
 refine⟨a*b,Rat.mul_pos a1 b1,fun x h1 h2=>?_⟩
 rw [e x]
 rcases a2 x h1 h2 with h3 | h3<;>rcases b2 x h1 h2 with h4 | h4
 ·left;have:=Rat.mul_nonneg (a:=f x-a) (b:=g x) (by grind) (by grind);have:=Rat.mul_nonneg (a:=a) (b:=g x-b) (by grind) (by grind);grind
 ·right;have:=Rat.mul_nonneg (a:=f x-a) (b:=- g x) (by grind) (by grind);have:=Rat.mul_nonneg (a:=a) (b:=- g x-b) (by grind) (by grind);grind
 ·right;have:=Rat.mul_nonneg (a:=- f x-a) (b:=g x) (by grind) (by grind);have:=Rat.mul_nonneg (a:=a) (b:=g x-b) (by grind) (by grind);grind
 ·left;have:=Rat.mul_nonneg (a:=- f x-a) (b:=- g x) (by grind) (by grind);have:=Rat.mul_nonneg (a:=a) (b:=- g x-b) (by grind) (by grind);grind
theorem Away.lin{s t:Rat}{r d:Int}(hd:0<d)(h:(r:Rat)<d*s∨(d:Rat)*t<r):Away s t (rev [-r,d]):=by
 have hd':(0:Rat)<(d:Rat):=by exact_mod_cast hd
 rcases h with h | h
 ·refine⟨d*s-r,by grind,fun x h1 h2=> .inl ?_⟩
  rw [Zhr];have:=Rat.mul_nonneg (a:=(d:Rat)) (b:=x-s) (by grind) (by grind);grind
 ·refine⟨r-d*t,by grind,fun x h1 h2=> .inr ?_⟩
  rw [Zhr];have:=Rat.mul_nonneg (a:=(d:Rat)) (b:=t-x) (by grind) (by grind);grind
theorem Away.sq(s t:Rat):Away s t (rev [1,0,1]):=⟨1,by decide,fun x _ _=>by
 left
 show(1:Rat)≤((1:Int):Rat)+x*(((0:Int):Rat)+x*(((1:Int):Rat)+x*0))
 have:0≤x*x:=by
  rcases(show 0≤x∨x<0 by grind)with h | h
  ·exact Rat.mul_nonneg h h
  ·have:=Rat.mul_nonneg (a:=-x) (b:=-x) (by grind) (by grind);grind
 push_cast;grind⟩
theorem Away.one(s t:Rat):Away s t (rev [1]):=⟨1,by decide,fun x _ _=>by left;rw [Ot];exact Rat.le_refl⟩
def cntP(P:Int→Prop)[DecidablePred P](m:Int):Nat→Int
 | 0=>0
 | n+1=>cntP P m n+(if P (m+n+1)then 1 else 0)
def eB(K C:Nat):Nat→Nat
 | 0=>0
 | n+1=>C+K*eB K C n
def eL(K C:Nat):Nat→Nat
 | 0=>0
 | n+1=>K*eL K C n+eB K C n
def eM(K C:Nat):Nat→Nat
 | 0=>0
 | n+1=>eL K C n+K*eM K C n
theorem Ht{a b:Nat}(h:a≤b):(a:Rat)≤(b:Rat):=by exact_mod_cast h
theorem cf_rat{c:Int}{C:Nat}(h:c.natAbs≤C):-(C:Rat)≤(c:Rat)∧(c:Rat)≤(C:Rat):=by
 have h1:((-(C:Int):Int):Rat)≤(c:Rat):=by exact_mod_cast (show -(C:Int)≤c by omega)
 have h2:(c:Rat)≤(((C:Nat):Int):Rat):=by exact_mod_cast (show c≤(C:Int) by omega)
 push_cast at h1 h2
 constructor<;>grind
theorem Zmj{c:Int}{p:List Int}{C:Nat}(h:∀i,(cf (c :: p) i).natAbs≤C):c.natAbs≤C∧∀i,(cf p i).natAbs≤C:=⟨h 0,fun i=>h (i+1)⟩
theorem Zng{K C:Nat} : ∀(n:Nat) (p:List Int),p.length≤n→(∀i,(cf p i).natAbs≤C)→∀x:Rat,-(K:Rat)≤x→x≤(K:Rat)→-(eB K C n:Rat)≤rev p x∧rev p x≤(eB K C n:Rat)
 | n,[],_,_,x,_,_=>by
  have h:(0:Rat)≤(eB K C n:Rat):=Ht (Nat.zero_le _)
  show -(eB K C n:Rat)≤0∧(0:Rat)≤(eB K C n:Rat)
  constructor<;>grind
 | 0,c :: p,hl,_,_,_,_=>absurd hl (by simp)
 | n+1,c :: p,hl,hc,x,h1,h2=>by
  obtain⟨hc0,hc1⟩:=Zmj hc
  obtain⟨a1,a2⟩:=Zng n p (by simpa using hl) hc1 x h1 h2
  obtain⟨b1,b2⟩:=cf_rat hc0
  have hK:(0:Rat)≤(K:Rat):=Ht (Nat.zero_le _)
  obtain⟨f1,f2⟩:=Zcy h1 h2 a1 a2 hK
  have e:((eB K C (n+1):Nat):Rat)=(C:Rat)+(K:Rat)*(eB K C n:Rat):=by show((C+K*eB K C n:Nat):Rat)=_;push_cast;rfl
  rw [e,show rev (c :: p) x=(c:Rat)+x*rev p x from rfl]
  constructor<;>grind
theorem Znf{K C:Nat} : ∀(n:Nat) (p:List Int),p.length≤n→(∀i,(cf p i).natAbs≤C)→Lip (-(K:Rat)) (K:Rat) (eL K C n:Rat) (rev p)
 | n,[],_,_,x,y,_,hxy,_=>by
  have h:(0:Rat)≤(eL K C n:Rat):=Ht (Nat.zero_le _)
  have:=Rat.mul_nonneg (a:=(eL K C n:Rat)) (b:=y-x) h (by grind)
  show(0:Rat)-0≤_∧(0:Rat)-0≤_
  constructor<;>grind
 | 0,c :: p,hl,_,_,_,_,_,_=>absurd hl (by simp)
 | n+1,c :: p,hl,hc,x,y,h1,hxy,h2=>by
  obtain⟨hc0,hc1⟩:=Zmj hc
  obtain⟨a1,a2⟩:=Znf n p (by simpa using hl) hc1 x y h1 hxy h2
  obtain⟨b1,b2⟩:=Zng n p (by simpa using hl) hc1 y (by grind) h2
  have hK:(0:Rat)≤(K:Rat):=Ht (Nat.zero_le _)
  obtain⟨f1,f2⟩:=Zcy (q:=x) (g:=rev p x-rev p y) (e:=(eL K C n:Rat)*(y-x)) h1 (by grind) (by grind) (by grind) hK
  have g1:=Rat.mul_nonneg (a:=(eB K C n:Rat)-rev p y) (b:=y-x) (by grind) (by grind)
  have g2:=Rat.mul_nonneg (a:=(eB K C n:Rat)+rev p y) (b:=y-x) (by grind) (by grind)
  have e:((eL K C (n+1):Nat):Rat)=(K:Rat)*(eL K C n:Rat)+(eB K C n:Rat):=by show((K*eL K C n+eB K C n:Nat):Rat)=_;push_cast;rfl
  rw [e,show rev (c :: p) x=(c:Rat)+x*rev p x from rfl,show rev (c :: p) y=(c:Rat)+y*rev p y from rfl]
  constructor<;>grind
theorem rev_eM{K C:Nat} : ∀(n:Nat) (p:List Int),p.length≤n→(∀i,(cf p i).natAbs≤C)→Tay (-(K:Rat)) (K:Rat) (eM K C n:Rat) p
 | n,[],_,_,x,y,_,hxy,_=>by
  have h:(0:Rat)≤(eM K C n:Rat):=Ht (Nat.zero_le _)
  have h1:=Rat.mul_nonneg (a:=y-x) (b:=y-x) (by grind) (by grind)
  have:=Rat.mul_nonneg h h1
  show -((eM K C n:Rat)*(y-x)*(y-x))≤(0:Rat)-0-(y-x)*0∧(0:Rat)-0-(y-x)*0≤(eM K C n:Rat)*(y-x)*(y-x)
  constructor<;>grind
 | 0,c :: p,hl,_,_,_,_,_,_=>absurd hl (by simp)
 | n+1,c :: p,hl,hc,x,y,hs,hxy,ht=>by
  obtain⟨hc0,hc1⟩:=Zmj hc
  obtain⟨a1,a2⟩:=rev_eM n p (by simpa using hl) hc1 x y hs hxy ht
  obtain⟨b1,b2⟩:=Znf n p (by simpa using hl) hc1 x y hs hxy ht
  have hK:(0:Rat)≤(K:Rat):=Ht (Nat.zero_le _)
  have hd:0≤y-x:=by grind
  obtain⟨f1,f2⟩:=Zcy (q:=x) (Q:=(K:Rat)) (g:=rev p y-rev p x-(y-x)*rev (ld p) x) (e:=(eM K C n:Rat)*(y-x)*(y-x)) hs (by grind) a1 a2 hK
  have g1:=Rat.mul_nonneg (a:=y-x) (b:=(eL K C n:Rat)*(y-x)-(rev p y-rev p x)) hd (by grind)
  have g2:=Rat.mul_nonneg (a:=y-x) (b:=(eL K C n:Rat)*(y-x)+(rev p y-rev p x)) hd (by grind)
  have e:((eM K C (n+1):Nat):Rat)=(eL K C n:Rat)+(K:Rat)*(eM K C n:Rat):=by show((eL K C n+K*eM K C n:Nat):Rat)=_;push_cast;rfl
  rw [e,Zem,show rev (c :: p) y=(c:Rat)+y*rev p y from rfl,show rev (c :: p) x=(c:Rat)+x*rev p x from rfl]
  constructor<;>grind
theorem Zp3{a b:List Int}{A:Nat}(ha:Tr a)(hb:Tr b)(la:2≤a.length)(lb:b.length+1=a.length)(hA:0<A)(na:∀i,(cf a i).natAbs≤A)(nb:∀i,(cf b i).natAbs≤A)(hc:∀q,Tr q→Ed q a→Ed q b→q.length≤1) :
  ∃(U V:List Int) (c:Int),c≠0∧U.length+2=a.length∧V.length+1=a.length∧(∀i,(cf U i).natAbs≤(2*(2*a.length-3)*A)^(2*a.length-4))∧(∀i,(cf V i).natAbs≤(2*(2*a.length-3)*A)^(2*a.length-4))∧
   ∀x,(c:Rat)=rev U x*rev a x+rev V x*rev b x:=by
 obtain⟨U,V,lU,lV,hne,bU,bV,hz⟩:=Zed (a:=a) (b:=b) (p:=a.length-2) (q:=a.length-1) (lo:=1) hA na nb (by omega) (by omega) (by omega)
 have hne2:¬(tzl U=[]∧tzl V=[]):=fun⟨h1,h2⟩=>by
  rcases hne with⟨i,hi⟩ | ⟨i,hi⟩
  ·exact hi ((Lb U).1 h1 i)
  ·exact hi ((Lb V).1 h2 i)
 clear hne
 rw [show a.length-2+(a.length-1)=2*a.length-3 by omega]at bU bV
 rw [show 2*a.length-3-1=2*a.length-4 by omega]at bU bV
 have ha0:a≠[]:=fun e=>by rw [e]at la;simp at la
 have cR:∀i,cf (Gf (Mn U a) (Mn V b)) i=(ps U*ps a).c i+(ps V*ps b).c i:=fun i=>by
  rw [Ke,Gm,Gm,PS.mul_c,PS.mul_c];rfl
 have rR:∀t,rev (Gf (Mn U a) (Mn V b)) t=rev U t*rev a t+rev V t*rev b t:=fun t=>by rw [Qd,Yt,Yt]
 generalize Gf (Mn U a) (Mn V b)=R at cR rR
 have hR:∀t,rev R t=(cf R 0:Rat):=fun t=>by
  rw [←Ot (cf R 0) t]
  refine Mr t _ _ fun i=>?_
  match i with
  | 0=>rfl
  | i+1=>rw [cR,hz (i+1) (by omega),Qf (by simp)]
 refine⟨U,V,cf R 0,fun h0=>?_,by omega,by omega,bU,bV,fun x=>by rw [←rR,hR]⟩
 have hz0:∀t,rev U t*rev a t+rev V t*rev b t=0:=fun t=>by rw [←rR,hR,h0];rfl
 obtain⟨g,P,Q,g1,g2,g3,g4⟩:=Zkp _ a b ha hb (Nat.le_refl _)
 have hl:=hc g g1 g2 g3
 have hg:=(g2.len g1 ha ha0).1
 have hV:tzl V=[]:=by
  refine Classical.byContradiction fun hV=>?_
  match g,hg,hl,g1,g4 with
  | [c],_,_,g1,g4=>
   have hc0:c≠0:=g1.mem (by simp)
   have hd:Ed a (tzl V):=⟨c,Gf (Mn P V) ((Mn Q U).map fun z=>(-1)*z),hc0,fun x=>by
    have h4:=g4 x
    rw [Ot]at h4
    rw [Lc,Qd,Yd,Yt,Yt,h4]
    have:=hz0 x
    have e:rev V x*rev b x=- (rev U x*rev a x):=by grind
    have:(rev P x*rev a x+rev Q x*rev b x)*rev V x=rev P x*rev V x*rev a x+rev Q x*(rev V x*rev b x):=by grind
    rw [this,e];push_cast;grind⟩
   have:=(hd.len ha (Oy V) hV).2
   have:=Hu V
   omega
  | c :: d :: r,_,h9,_,_=>simp at h9
 have hU:tzl U=[]:=by
  refine Classical.byContradiction fun hU=>?_
  have:∀t,rev a t=0:=Hk (v:=U) hU fun t=>by
   have:=hz0 t
   rw [Ey hV]at this
   grind
  exact ha.mem ha0 (Zrm this _)
 exact hne2 ⟨hU,hV⟩
def Zv9(K A n e:Nat):Bool:=
 let X:=(2*(2*n-3)*A)^(2*n-4)
 let W:=eB K X (n-1)
 Nat.ble (2*(2*W+1)*(2*eL K A n)) (2^e) && Nat.ble (2*(2*W+1)*eM K A n) (2^e)
theorem big_or {a b:List Int} {K A n e:Nat} (hK:0<K) (hA:0<A) (ha:Tr a) (hb:Tr b) (hn:a.length=n) (h2:2≤n) (lb:b.length+1=a.length) (na:∀i,(cf a i).natAbs≤A) (nb:∀i,(cf b i).natAbs≤A) (hc:∀q,Tr q→Ed q a→Ed q b→q.length≤1)
  (x:Rat) (h1:-(K:Rat)≤x) (h3:x≤(K:Rat)):Big (1/((2*eB K ((2*(2*n-3)*A)^(2*n-4)) (n-1)+1:Nat):Rat)) x (rev a)∨Big (1/((2*eB K ((2*(2*n-3)*A)^(2*n-4)) (n-1)+1:Nat):Rat)) x (rev b):=by
 obtain⟨U,V,c,c0,lU,lV,bU,bV,hid⟩:=Zp3 ha hb (by omega) lb hA na nb hc
 rw [hn]at bU bV
 generalize (2*(2*n-3)*A)^(2*n-4)=X at *
 obtain⟨u1,u2⟩:=Zng (n-1) U (by omega) bU x h1 h3
 obtain⟨v1,v2⟩:=Zng (n-1) V (by omega) bV x h1 h3
 generalize eB K X (n-1)=W at *
 have hW:(0:Rat)≤(W:Rat):=Ht (Nat.zero_le _)
 have hD:(0:Rat)<((2*W+1:Nat):Rat):=by
   have:(((0:Nat)):Rat)<((2*W+1:Nat):Rat):=by exact_mod_cast Nat.succ_pos _
   exact this
 have hDe:((2*W+1:Nat):Rat)=2*(W:Rat)+1:=by push_cast;rfl
 generalize hε:1/((2*W+1:Nat):Rat)=ε
 have hε2:ε*(2*(W:Rat)+1)=1:=by rw [←hε,hDe];rw [hDe]at hD;grind
 have hε0:0≤ε:=by
  rw [←hε]
  have:=Rat.inv_pos.2 hD
  rw [Rat.div_def];grind
 by_cases p1:Big ε x (rev a)
 ·exact .inl p1
 ·by_cases p2:Big ε x (rev b)
  ·exact .inr p2
  ·exfalso
   obtain⟨a1,a2⟩:=Zb6 p1
   obtain⟨b1,b2⟩:=Zb6 p2
   obtain⟨q1,q2⟩:=Zcy u1 u2 a1 a2 hW
   obtain⟨r1,r2⟩:=Zcy v1 v2 b1 b2 hW
   have h4:=hid x
   have h5:(c:Rat)≤-1∨1≤(c:Rat):=by
    rcases Int.lt_or_gt_of_ne c0 with h | h
    ·left;have:((c:Int):Rat)≤((-1:Int):Rat):=by exact_mod_cast (show c≤-1 by omega)
     rwa [show(((-1:Int)):Rat)=-1 from rfl]at this
    ·right;have:1≤c:=by omega
     exact_mod_cast this
   have hεp:0<ε:=by
    rcases(show ε=0∨0<ε by grind)with h | h
    ·rw [h]at hε2;grind
    ·exact h
   rcases h5 with h5 | h5<;>grind
theorem two_pow_pos(e:Nat):(0:Rat)<((2^e:Nat):Rat):=by
 have:0<2^e:=Nat.pow_pos (by decide)
 exact_mod_cast this
theorem chn_sep {xs:List Int} {F K A n e:Nat} (hx:Tr xs) (h0:xs≠[]) (hC:Zfh F xs) (hK:0<K) (hA:0<A) (hn:(sqf F xs).length=n) (h2:2≤n) (na:∀i,(cf (sqf F xs) i).natAbs≤A) (nb:∀i,(cf (Pf (sqf F xs)) i).natAbs≤A) (hs:Zv9 K A n e=true)
  {u v:Rat} (h1:-(K:Rat)≤u) (huv:u≤v) (h3:v≤(K:Rat)) (hh:v-u≤1/((2^e:Nat):Rat)) :
  vat ((chn F xs).map rev) u-vat ((chn F xs).map rev) v=crs (rev (sqf F xs)) u v:=by
 have hok:=hC.1.2.2.1
 obtain⟨f1,f2,f3,f4,f5,f6⟩:=Nh (F:=F) hx h0 hok
 have htp:=Nv f2
 have hlp:=Oj (sqf F xs)
 have hd:Pf (sqf F xs)≠[]:=fun e=>by rw [e]at hlp;simp at hlp;omega
 have hpc:1≤Qc (Pf (sqf F xs)):=by
  have h1:=Dd htp hd
  have h2:=Ns (Pf (sqf F xs))
  omega
 have hpc':(1:Rat)≤(Qc (Pf (sqf F xs)):Rat):=by exact_mod_cast hpc
 have nbp:∀i,(cf (Yx (Pf (sqf F xs))) i).natAbs≤A:=fun i=>by
  have h5:=Hj (Pf (sqf F xs)) i
  have h6:=nb i
  rw [←h5,Int.natAbs_mul]at h6
  have:(cf (Yx (Pf (sqf F xs))) i).natAbs*1≤(cf (Yx (Pf (sqf F xs))) i).natAbs*(Qc (Pf (sqf F xs))).natAbs:=Nat.mul_le_mul_left _ (by omega)
  omega
 have hcop:∀q,Tr q→Ed q (sqf F xs)→Ed q (Yx (Pf (sqf F xs)))→q.length≤1:=fun q hq a b=>Zea hx h0 hok hq a (b.sim (Qo htp))
 have hlb:(Yx (Pf (sqf F xs))).length+1=(sqf F xs).length:=by rw [Yi];omega
 have hbig:=big_or (e:=e) hK hA f2 (Xi htp) hn h2 hlb na nbp hcop
 unfold Zv9 at hs
 simp only [Bool.and_eq_true,Nat.ble_eq]at hs
 obtain⟨s1,s2⟩:=hs
 generalize (2*(2*n-3)*A)^(2*n-4)=X at *
 generalize eB K X (n-1)=W at *
 have hD:(0:Rat)<((2*W+1:Nat):Rat):=by
   have:(((0:Nat)):Rat)<((2*W+1:Nat):Rat):=by exact_mod_cast Nat.succ_pos _
   exact this
 have hP:=two_pow_pos e
 have s1':=Ht s1
 have s2':=Ht s2
 have c1:((2*(2*W+1)*(2*eL K A n):Nat):Rat)=2*((2*W+1:Nat):Rat)*(2*(eL K A n:Rat)):=by push_cast;rfl
 have c2:((2*(2*W+1)*eM K A n:Nat):Rat)=2*((2*W+1:Nat):Rat)*(eM K A n:Rat):=by push_cast;rfl
 rw [c1]at s1'
 rw [c2]at s2'
 have hi:=Rat.inv_pos.2 hD
 have hj:=Rat.inv_pos.2 hP
 have hii:((2*W+1:Nat):Rat)*((2*W+1:Nat):Rat)⁻¹=1:=by grind
 have hjj:((2^e:Nat):Rat)*((2^e:Nat):Rat)⁻¹=1:=by grind
 rw [Rat.div_def,Rat.one_mul]at hh
 simp only [Rat.div_def,Rat.one_mul]at hbig
 generalize ((2*W+1:Nat):Rat)=D at *
 generalize ((2^e:Nat):Rat)=P at *
 have hLn:(0:Rat)≤(eL K A n:Rat):=Ht (Nat.zero_le _)
 have hMn:(0:Rat)≤(eM K A n:Rat):=Ht (Nat.zero_le _)
 refine Zd8 (s:=-(K:Rat)) (t:=(K:Rat)) (κ:=(Qc (Pf (sqf F xs)):Rat)) (ε:=D⁻¹) (L:=(eL K A n:Rat)) (L':=(eL K A n:Rat)) (M:=(eM K A n:Rat)) (h:=P⁻¹) f2 (Xi htp) hC.2.2 (by grind) (fun x=>?_) hi hbig hLn (Znf n _ (by omega) na) hLn (Znf n _ (by omega) nbp) hMn (rev_eM n _ (by omega) na) hj ?_ ?_ h1 huv h3 hh
 ·rw [←Kd,←Yd]
  exact Mr x _ _ fun i=>by rw [Pg,Int.mul_comm,Hj]
 ·-- P⁻¹ * (2 L) ≤ D⁻¹ / 2
  have t1:=Rat.mul_nonneg (a:=P⁻¹*D⁻¹) (b:=P-2*D*(2*(eL K A n:Rat))) (by have:=Rat.mul_pos hj hi;grind) (by grind)
  have e1:P⁻¹*D⁻¹*(P-2*D*(2*(eL K A n:Rat)))=D⁻¹*(P*P⁻¹)-2*P⁻¹*(D*D⁻¹)*(2*(eL K A n:Rat)):=by grind
  rw [e1,hii,hjj]at t1
  grind
 ·have t1:=Rat.mul_nonneg (a:=P⁻¹*D⁻¹) (b:=P-2*D*(eM K A n:Rat)) (by have:=Rat.mul_pos hj hi;grind) (by grind)
  have e1:P⁻¹*D⁻¹*(P-2*D*(eM K A n:Rat))=D⁻¹*(P*P⁻¹)-2*P⁻¹*(D*D⁻¹)*(eM K A n:Rat):=by grind
  rw [e1,hii,hjj]at t1
  have t2:=Rat.mul_nonneg (a:=(Qc (Pf (sqf F xs)):Rat)-1) (b:=D⁻¹) (by grind) (by grind)
  grind
theorem Zil{xs:List Int}{F:Nat}(hx:Tr xs)(h0:xs≠[])(hC:Zfh F xs){s t:Rat}(hst:s≤t):vat ((chn F xs).map rev) t≤vat ((chn F xs).map rev) s:=by
 obtain⟨h,h1,h2⟩:=Zik hx h0 hC s t
 have hc:∀f u v,0≤crs f u v:=fun f u v=>by unfold crs;split<;>decide
 have key:∀n:Nat,∀y,s≤y→y≤t→y-s≤(n:Rat)*h→vat ((chn F xs).map rev) y≤vat ((chn F xs).map rev) s:=fun n=>by
  induction n with
  | zero=>
    intro y h3 h4 h5;have:y=s:=by simp at h5;grind
    rw [this];exact Int.le_refl _
  | succ n ih=>
   intro y h3 h4 h5
   have h6:((n+1:Nat):Rat)*h=(n:Rat)*h+h:=by push_cast;grind
   rcases(show y-s≤(n:Rat)*h∨(n:Rat)*h<y-s by grind)with h7 | h7
   ·exact ih y h3 h4 h7
   ·have h8:(0:Rat)≤(n:Rat)*h:=Rat.mul_nonneg (by exact_mod_cast Nat.zero_le n) (by grind)
    rcases(show s≤y-h∨y-h<s by grind)with h9 | h9
    ·have a:=ih (y-h) h9 (by grind) (by grind)
     have b:=h2 (y-h) y h9 (by grind) h4 (by grind)
     have c:=hc (rev (sqf F xs)) (y-h) y
     omega
    ·have b:=h2 s y (by grind) h3 h4 (by grind)
     have c:=hc (rev (sqf F xs)) s y
     omega
 have h3:∃n:Nat,t-s≤(n:Rat)*h:=by
  have h4:0<h⁻¹:=Rat.inv_pos.2 h1
  refine⟨((t-s)*h⁻¹).ceil.toNat,?_⟩
  have h5:=@Rat.le_ceil ((t-s)*h⁻¹)
  have h6:((((t-s)*h⁻¹).ceil:Int):Rat)≤((((t-s)*h⁻¹).ceil.toNat:Nat):Rat):=by
   have:((t-s)*h⁻¹).ceil≤((((t-s)*h⁻¹).ceil.toNat:Nat):Int):=Int.self_le_toNat _
   exact_mod_cast this
  have h7:=Rat.mul_le_mul_of_nonneg_right (Rat.le_trans h5 h6) (show 0≤h by grind)
  have h8:(t-s)*h⁻¹*h=t-s:=by grind
  grind
 obtain⟨n,hn⟩:=h3
 exact key n t hst (by grind) hn
def qv(z:R2):Rat:=(z.1:Rat)/(z.2:Rat)
theorem Zmf{x y X Y g:Nat}(hg:g=Nat.gcd x y)(hy:0<y)(hY:0<Y)(h:x*Y=X*y):y/g∣Y∧x/g≤X:=by
 have hg0:0<g:=by rw [hg];exact Nat.gcd_pos_of_pos_right _ hy
 have hc:Nat.Coprime (x/g) (y/g):=by rw [hg];exact Nat.coprime_div_gcd_div_gcd (by rw [←hg];exact hg0)
 have hx':x/g*g=x:=Nat.div_mul_cancel (by rw [hg];exact Nat.gcd_dvd_left _ _)
 have hy':y/g*g=y:=Nat.div_mul_cancel (by rw [hg];exact Nat.gcd_dvd_right _ _)
 have h2:x/g*Y=X*(y/g):=by
  refine Nat.eq_of_mul_eq_mul_right hg0 ?_
  have e1:x/g*Y*g=x/g*g*Y:=by grind
  have e2:X*(y/g)*g=X*(y/g*g):=by grind
  rw [e1,e2,hx',hy',h]
 have hd:y/g∣Y:=hc.symm.dvd_of_dvd_mul_left (by rw [h2];exact Nat.dvd_mul_left _ _)
 refine⟨hd,?_⟩
 obtain⟨k,hk⟩:=hd
 have hk0:0<k:=Nat.pos_of_ne_zero fun e=>by rw [e,Nat.mul_zero]at hk;omega
 have hyg:0<y/g:=Nat.pos_of_ne_zero fun e=>by rw [e,Nat.zero_mul]at hy';omega
 rw [hk]at h2
 have h3:x/g*k=X:=by
  refine Nat.eq_of_mul_eq_mul_right hyg ?_
  have:x/g*k*(y/g)=x/g*(y/g*k):=by grind
  rw [this,h2]
 rw [←h3]
 exact Nat.le_mul_of_pos_right _ hk0
theorem Zlw{x y X Y:Int}(hy:0<y)(hY:0<Y)(h:x*Y=X*y){B:Nat}(hX:bl X.natAbs≤B)(hYb:bl Y.natAbs≤B)(hB:B≤65536) :
  ¬It x y∧Zcm x y∣Y∧0<Zcm x y∧bl (Zda x y).natAbs≤B∧bl (Zcm x y).natAbs≤B∧Zda x y*y=x*Zcm x y:=by
 have hg:Gi x y=(Nat.gcd x.natAbs y.natAbs:Int):=by rw [lgcd_ge (by omega)];rfl
 have hn:x.natAbs*Y.natAbs=X.natAbs*y.natAbs:=by rw [←Int.natAbs_mul,←Int.natAbs_mul,h]
 obtain⟨d1,d2⟩:=Zmf (g:=Nat.gcd x.natAbs y.natAbs) rfl (by omega:0<y.natAbs) (by omega:0<Y.natAbs) hn
 have e1:(y/Gi x y).natAbs=y.natAbs/Nat.gcd x.natAbs y.natAbs:=by
  rw [Int.natAbs_ediv_of_dvd (Zh9 x y),Za0]
 have e2:(x/Gi x y).natAbs=x.natAbs/Nat.gcd x.natAbs y.natAbs:=by
  rw [Int.natAbs_ediv_of_dvd (Zn5 x y),Za0]
 have b1:bl (y/Gi x y).natAbs≤B:=Nat.le_trans (Ow (by rw [e1];exact Nat.le_of_dvd (by omega) d1)) hYb
 have b2:bl (x/Gi x y).natAbs≤B:=Nat.le_trans (Ow (by rw [e2];exact d2)) hX
 have hf:¬It x y:=fun h=>by unfold It at h;omega
 obtain⟨n1,n2,-⟩:=Zeu hf
 refine⟨hf,?_,Zsh hf hy,by rw [n1];exact b2,by rw [n2];exact b1,?_⟩
 ·rw [n2]
  refine Int.natAbs_dvd_natAbs.1 ?_
  rw [e1];exact d1
 ·rw [n1,n2];exact Zxl x y
structure En (K Q:Nat) (d:Nat) (z:R2):Prop where
 pos:0<z.2
 dv:z.2∣((Q*2^d:Nat):Int)
 lo:-(K:Rat)≤qv z
 hi:qv z≤(K:Rat)
theorem En.up{K Q d:Nat}{z:R2}(h:En K Q d z):En K Q (d+1) z:=by
 obtain⟨h1,h2,h3,h4⟩:=h
 refine⟨h1,?_,h3,h4⟩
 have:((Q*2^(d+1):Nat):Int)=((Q*2^d:Nat):Int)*2:=by rw [Nat.pow_succ];push_cast;grind
 rw [this];exact Int.dvd_trans h2 (Int.dvd_mul_right _ _)
theorem canc{N p s Y X D:Int}(hp:p≠0)(h1:N*p=s*D)(h2:s*Y=X*p):N*Y=X*D:=by
 refine Int.eq_of_mul_eq_mul_right hp ?_
 have e1:N*Y*p=(N*p)*Y:=by grind
 have e2:X*D*p=(X*p)*D:=by grind
 rw [e1,e2,h1,←h2];grind
theorem Iu{z:Int}(h:0<z):(0:Rat)<(z:Rat):=by exact_mod_cast h
theorem Zbj{n m:Nat}(h:n<2^m):bl n≤m:=(Me m n).2 h
theorem mid_en{K Q d B:Nat}{a b:R2}(ha:En K Q d a)(hb:En K Q d b)(hQ:0<Q)(hB1:Q*2^(d+1)<2^B)(hB2:2*K*(Q*2^d)<2^B)(hB:B≤65536) :
  Zfn a b∧En K Q (d+1) (Mp a b)∧qv (Mp a b)=(qv a+qv b)/2∧bl (Mp a b).1.natAbs≤B∧bl (Mp a b).2.natAbs≤B:=by
 obtain⟨pa,⟨ka,da⟩,la,ua⟩:=ha
 obtain⟨pb,⟨kb,db⟩,lb,ub⟩:=hb
 generalize hY:((Q*2^d:Nat):Int)=Y at *
 have hQd:0<Q*2^d:=Nat.mul_pos hQ (Nat.pow_pos (by decide))
 have hY0:0<Y:=by rw [←hY];exact_mod_cast hQd
 have rpa:=Iu pa
 have rpb:=Iu pb
 have rY:=Iu hY0
 have hpp:0<a.2*b.2:=Int.mul_pos pa pb
 have hsum:(a.1*b.2+b.1*a.2)*Y=(a.1*ka+b.1*kb)*(a.2*b.2):=by
  have e1:(a.1*ka+b.1*kb)*(a.2*b.2)=a.1*b.2*(a.2*ka)+b.1*a.2*(b.2*kb):=by grind
  rw [e1,←da,←db];grind
 have hqa:(a.1:Rat)*ka=qv a*Y:=by
  unfold qv;have:(Y:Rat)=(a.2:Rat)*ka:=by rw [da];push_cast;rfl
  rw [this];grind
 have hqb:(b.1:Rat)*kb=qv b*Y:=by
  unfold qv;have:(Y:Rat)=(b.2:Rat)*kb:=by rw [db];push_cast;rfl
  rw [this];grind
 have hX:((a.1*ka+b.1*kb:Int):Rat)=(qv a+qv b)*Y:=by push_cast;rw [hqa,hqb];grind
 have hXb:(a.1*ka+b.1*kb).natAbs≤2*K*(Q*2^d):=by
  have hKn:((2*K*(Q*2^d):Nat):Rat)=2*(K:Rat)*(Y:Rat):=by rw [←hY];push_cast;grind
  have t1:=Rat.mul_nonneg (a:=2*(K:Rat)-(qv a+qv b)) (b:=(Y:Rat)) (by grind) (by grind)
  have t2:=Rat.mul_nonneg (a:=2*(K:Rat)+(qv a+qv b)) (b:=(Y:Rat)) (by grind) (by grind)
  have u1:((a.1*ka+b.1*kb:Int):Rat)≤(((2*K*(Q*2^d):Nat):Int):Rat):=by rw [hX];push_cast at hKn ⊢;grind
  have u2:((-((2*K*(Q*2^d):Nat):Int):Int):Rat)≤((a.1*ka+b.1*kb:Int):Rat):=by rw [hX];push_cast at hKn ⊢;grind
  have v1:a.1*ka+b.1*kb≤((2*K*(Q*2^d):Nat):Int):=by exact_mod_cast u1
  have v2:-((2*K*(Q*2^d):Nat):Int)≤a.1*ka+b.1*kb:=by exact_mod_cast u2
  omega
 have hYb:Y.natAbs=Q*2^d:=by rw [←hY];rfl
 have hB3:Q*2^(d+1)=2*(Q*2^d):=by rw [Nat.pow_succ];grind
 have hbY:bl Y.natAbs≤B:=Zbj (by rw [hYb];omega)
 have hbX:bl (a.1*ka+b.1*kb).natAbs≤B:=Zbj (by omega)
 obtain⟨f1,f2,f3,f4,f5,f6⟩:=Zlw hpp hY0 hsum hbX hbY hB
 have hv1:=canc (Int.ne_of_gt hpp) f6 hsum
 have hbY2:bl (2*Y).natAbs≤B:=Zbj (by rw [Int.natAbs_mul,hYb];show 2*(Q*2^d)<_;omega)
 have hs2:Zda (a.1*b.2+b.1*a.2) (a.2*b.2)*1*(2*Y)=(a.1*ka+b.1*kb)*(Zcm (a.1*b.2+b.1*a.2) (a.2*b.2)*2):=by
  rw [Int.mul_one]
  have e1:Zda (a.1*b.2+b.1*a.2) (a.2*b.2)*(2*Y)=2*(Zda (a.1*b.2+b.1*a.2) (a.2*b.2)*Y):=by grind
  rw [e1,hv1];grind
 have hp2:0<Zcm (a.1*b.2+b.1*a.2) (a.2*b.2)*2:=by omega
 obtain⟨g1,g2,g3,g4,g5,g6⟩:=Zlw hp2 (by omega:0<2*Y) hs2 hbX hbY2 hB
 have hv2:=canc (Int.ne_of_gt hp2) g6 hs2
 have hm1:(Mp a b).1=Zda (Zda (a.1*b.2+b.1*a.2) (a.2*b.2)*1) (Zcm (a.1*b.2+b.1*a.2) (a.2*b.2)*2):=rfl
 have hm2:(Mp a b).2=Zcm (Zda (a.1*b.2+b.1*a.2) (a.2*b.2)*1) (Zcm (a.1*b.2+b.1*a.2) (a.2*b.2)*2):=rfl
 rw [←hm1,←hm2]at hv2
 rw [←hm2]at g2 g3 g5
 rw [←hm1]at g4
 have hq:qv (Mp a b)=(qv a+qv b)/2:=by
  have h1:(((Mp a b).1:Int):Rat)*(2*(Y:Rat))=((a.1*ka+b.1*kb:Int):Rat)*(((Mp a b).2:Int):Rat):=by
   have:(((Mp a b).1*(2*Y):Int):Rat)=(((a.1*ka+b.1*kb)*(Mp a b).2:Int):Rat):=by rw [hv2]
   push_cast at this ⊢;grind
  rw [hX]at h1
  have rd:=Iu g3
  unfold qv at *
  generalize (((Mp a b).1:Int):Rat)=n at *
  generalize (((Mp a b).2:Int):Rat)=m at *
  generalize (a.1:Rat)/(a.2:Rat)=p at *
  generalize (b.1:Rat)/(b.2:Rat)=q at *
  generalize (Y:Rat)=y at *
  grind
 refine⟨⟨f1,g1⟩,⟨g3,?_,by rw [hq];grind,by rw [hq];grind⟩,hq,g4,g5⟩
 have e:((Q*2^(d+1):Nat):Int)=2*Y:=by rw [hB3,←hY];push_cast;rfl
 rw [e];exact g2
def vch(F:Nat)(xs:List Int)(x:Rat):Int:=vat ((chn F xs).map rev) x
theorem cvc_v{F:Nat}{xs:List Int}{z:R2}(h:0<z.2):cvc F xs z=vch F xs (qv z):=cnt_vat h
def Sqn(P:R2→R2→Prop)(hi:Rat):Rat→List (R2×R2)→Prop
 | lo,[]=>lo≤hi
 | lo,c :: r=>lo≤qv c.1∧qv c.1<qv c.2∧P c.1 c.2∧Sqn P hi (qv c.2) r
theorem Sqn.le{P:R2→R2→Prop}{hi:Rat} : ∀{lo:Rat} {l:List (R2×R2)},Sqn P hi lo l→lo≤hi
 | lo,[],h=>h
 | lo,c :: r,h=>by have:=Sqn.le h.2.2.2;have:=h.1;have:=h.2.1;grind
theorem Znn{a:R2}{K:Nat}(ha:0<a.2)(h:a.1.natAbs≤K):-(K:Rat)≤qv a∧qv a≤(K:Rat):=by
 obtain⟨c1,c2⟩:=cf_rat h
 have ra:(1:Rat)≤(a.2:Rat):=by exact_mod_cast (show 1≤a.2 by omega)
 have hK:(0:Rat)≤(K:Rat):=Ht (Nat.zero_le _)
 have hi:=Rat.inv_pos.2 (show 0<(a.2:Rat) by grind)
 have hm:(a.2:Rat)*(a.2:Rat)⁻¹=1:=by grind
 unfold qv;rw [Rat.div_def]
 have t1:=Rat.mul_nonneg (a:=(a.2:Rat)⁻¹) (b:=(K:Rat)*a.2-a.1) (by grind) (by have:=Rat.mul_nonneg (a:=(K:Rat)) (b:=(a.2:Rat)-1) hK (by grind);grind)
 have t2:=Rat.mul_nonneg (a:=(a.2:Rat)⁻¹) (b:=(K:Rat)*a.2+a.1) (by grind) (by have:=Rat.mul_nonneg (a:=(K:Rat)) (b:=(a.2:Rat)-1) hK (by grind);grind)
 have e1:(a.2:Rat)⁻¹*((K:Rat)*a.2-a.1)=(K:Rat)*(a.2*(a.2:Rat)⁻¹)-a.1*(a.2:Rat)⁻¹:=by grind
 have e2:(a.2:Rat)⁻¹*((K:Rat)*a.2+a.1)=(K:Rat)*(a.2*(a.2:Rat)⁻¹)+a.1*(a.2:Rat)⁻¹:=by grind
 rw [e1,hm]at t1
 rw [e2,hm]at t2
 constructor<;>grind
theorem Zaj{a:R2}{n:Nat}(ha:0<a.2)(h1:bl a.1.natAbs≤n)(h2:bl a.2.natAbs≤n)(hn:n≤65536) :
  ¬It a.1 a.2∧0<(slow a).2∧bl (slow a).1.natAbs≤n∧bl (slow a).2.natAbs≤n∧qv (slow a)=qv a:=by
 obtain⟨f1,f2,f3,f4,f5,f6⟩:=Zlw (x:=a.1) (y:=a.2) (X:=a.1) (Y:=a.2) ha ha rfl h1 h2 hn
 refine⟨f1,f3,f4,f5,?_⟩
 have r1:=Iu ha
 have r2:=Iu f3
 have h6:((Zda a.1 a.2:Int):Rat)*(a.2:Rat)=(a.1:Rat)*((Zcm a.1 a.2:Int):Rat):=by exact_mod_cast f6
 show((Zda a.1 a.2:Int):Rat)/((Zcm a.1 a.2:Int):Rat)=(a.1:Rat)/(a.2:Rat)
 generalize ((Zda a.1 a.2:Int):Rat)=N at *
 generalize ((Zcm a.1 a.2:Int):Rat)=D at *
 generalize (a.1:Rat)=x at *
 generalize (a.2:Rat)=y at *
 have:N/D*(D*y)=x/y*(D*y):=by
  have e1:N/D*(D*y)=N*y:=by grind
  have e2:x/y*(D*y)=x*D:=by grind
  rw [e1,e2,h6]
 have hp:=Rat.mul_pos r2 r1
 have e3:N/D=N/D*(D*y)*(D*y)⁻¹:=by grind
 have e4:x/y=x/y*(D*y)*(D*y)⁻¹:=by grind
 rw [e3,this,←e4]
theorem sep_of {xs:List Int} {F K A e:Nat} (hx:Tr xs) (h0:xs≠[]) (hC:Zfh F xs) (hK:0<K) (hA:0<A) (na:∀i,(cf (sqf F xs) i).natAbs≤A) (nb:∀i,(cf (Pf (sqf F xs)) i).natAbs≤A)
  (hs:2≤(sqf F xs).length→Zv9 K A (sqf F xs).length e=true) (u v:Rat) (h1:-(K:Rat)≤u) (huv:u≤v) (h3:v≤(K:Rat)) (hh:v-u≤1/((2^e:Nat):Rat)):vch F xs u-vch F xs v≤1:=by
 by_cases h2:2≤(sqf F xs).length
 ·have h:=chn_sep hx h0 hC hK hA rfl h2 na nb (hs h2) h1 huv h3 hh
  show vat _ u-vat _ v≤1
  rw [h];unfold crs;split<;>decide
 ·have hl:=Oj (sqf F xs)
  have hd:Pf (sqf F xs)=[]:=List.eq_nil_of_length_eq_zero (by omega)
  have hc:chn F xs=[sqf F xs]:=by unfold chn;rw [hd,Zr1,Ge]
  unfold vch vat
  rw [hc]
  have r1:=Cs (([rev (sqf F xs)]).map fun g=>rsg (g u))
  have r2:=Cs (([rev (sqf F xs)]).map fun g=>rsg (g v))
  simp only [List.map_cons,List.map_nil,List.length_cons,List.length_nil]at r1 r2 ⊢
  omega
open Go.RowKit (Below)
variable {P:Program} {N:Nat} {sc:Nat→Prop} {env env':Env} {H H':Hp} {Q Q':Exit→Act→World→Prop} {M:Nat→Prop}
def CalM(P:Program)(f:FuncId)(args:Array Value)(pre:List Pc){G:Type}(φ:G→Prop)(val:G→Value)(it its:G→Pc):Prop:=
 ∀w,(∀p∈pre,p.holds w)→Calls P f args w fun e w'=>∃g,e= .returned (val g)∧φ g∧Below w.heap.size w w'∧(it g).holds w'∧(∀b,(it g).fp b→w.heap.size≤b)∧
  (its g).holds w'∧(its g).own=false∧(∀b,(its g).fp b→w.heap.size≤b∨∃q∈pre,q.fp b)∧∀b,(it g).fp b→(its g).fp b→False
def FPostM(P:Program)(fn:Func)(w0:World)(pre:List Pc){G:Type}(φ:G→Prop)(val:G→Value)(it its:G→Pc):Exit→Act→World→Prop:=
 bodyPost P fn fun e w'=>∃g,e= .returned (val g)∧φ g∧Below w0.heap.size w0 w'∧(it g).holds w'∧(∀b,(it g).fp b→w0.heap.size≤b)∧
  (its g).holds w'∧(its g).own=false∧(∀b,(its g).fp b→w0.heap.size≤b∨∃q∈pre,q.fp b)∧∀b,(it g).fp b→(its g).fp b→False
abbrev qD (z:SL×Nat):Pc:=d9p (svv z.1) z.2
abbrev JE:=(R2×R2)×(SL×SL×SL×SL)
abbrev encJ (y:JE):Value:= .agg #[.bool (decide (y.1.1.1<0)),svv y.2.1,.bool (decide (y.1.1.2<0)),svv y.2.2.1,.bool (decide (y.1.2.1<0)),svv y.2.2.2.1,.bool (decide (y.1.2.2<0)),svv y.2.2.2.2]
abbrev qJ (y:JE):Pc:=Zb7 qD [(y.2.1,y.1.1.1.natAbs),(y.2.2.1,y.1.1.2.natAbs),(y.2.2.2.1,y.1.2.1.natAbs),(y.2.2.2.2,y.1.2.2.natAbs)]
abbrev J0:JE:=(((0,0),(0,0)),((none,0,0),(none,0,0),(none,0,0),(none,0,0)))
end Go.Sky
namespace Go.Sky
theorem Sqn.mem{P:R2→R2→Prop}{hi:Rat} : ∀{lo:Rat} {l:List (R2×R2)},Sqn P hi lo l→∀c∈l,P c.1 c.2
 | _,[],_,c,hc=>by cases hc
 | lo,d :: r,h,c,hc=>by
  rcases List.mem_cons.1 hc with rfl | hc
  ·exact h.2.2.1
  ·exact Sqn.mem h.2.2.2 c hc
theorem en_bl{K Q d B:Nat}{z:R2}(h:En K Q d z)(hQ:0<Q)(h1:Q*2^d<2^B)(h2:K*(Q*2^d)<2^B):bl z.1.natAbs≤B∧bl z.2.natAbs≤B:=by
 obtain⟨hp,hd,hl,hu⟩:=h
 have hpos:0<Q*2^d:=Nat.mul_pos hQ (Nat.pow_pos (by decide))
 have hz2:z.2.natAbs≤Q*2^d:=by
  have:=Int.natAbs_dvd_natAbs.2 hd
  rw [Int.natAbs_natCast]at this
  exact Nat.le_of_dvd hpos this
 have hz1:z.1.natAbs≤K*z.2.natAbs:=by
  have r:=Iu hp
  have e:(z.1:Rat)=qv z*z.2:=by unfold qv;grind
  have t1:=Rat.mul_nonneg (a:=(K:Rat)-qv z) (b:=(z.2:Rat)) (by grind) (by grind)
  have t2:=Rat.mul_nonneg (a:=(K:Rat)+qv z) (b:=(z.2:Rat)) (by grind) (by grind)
  have hn:((K*z.2.natAbs:Nat):Int)=(K:Int)*z.2:=by push_cast;rw [Int.natAbs_of_nonneg (by omega)]
  have u1:((z.1:Int):Rat)≤(((K:Int)*z.2:Int):Rat):=by push_cast;grind
  have u2:((-((K:Int)*z.2):Int):Rat)≤((z.1:Int):Rat):=by push_cast;grind
  have v1:z.1≤(K:Int)*z.2:=by exact_mod_cast u1
  have v2:-((K:Int)*z.2)≤z.1:=by exact_mod_cast u2
  omega
 have hz3:K*z.2.natAbs≤K*(Q*2^d):=Nat.mul_le_mul_left _ hz2
 exact⟨Zbj (by omega),Zbj (by omega)⟩
theorem en_bl2{n e w Q B:Nat}{z:R2}(h:En (2^n) Q (e+w) z)(hQ:0<Q)(hQ1:Q<2^(2*n))(hB:3*n+1+(e+w)≤B):bl z.1.natAbs≤B∧bl z.2.natAbs≤B:=by
 have hpow:∀m,m≤B→2^m≤2^B:=fun m h=>Nat.pow_le_pow_right (by decide) h
 have hPP:0<2^(e+w):=Nat.pow_pos (by decide)
 have h1:Q*2^(e+w)<2^(2*n)*2^(e+w):=Nat.mul_lt_mul_of_pos_right hQ1 hPP
 have h2:2^n*(Q*2^(e+w))<2^n*(2^(2*n)*2^(e+w)):=Nat.mul_lt_mul_of_pos_left h1 (Nat.pow_pos (by decide))
 have e1:2^(2*n)*2^(e+w)=2^(2*n+(e+w)):=(Nat.pow_add _ _ _).symm
 have e2:2^n*(2^(2*n)*2^(e+w))=2^(n+(2*n+(e+w))):=by rw [e1,←Nat.pow_add]
 rw [e1]at h1
 rw [e2]at h2
 exact en_bl h hQ (Nat.lt_of_lt_of_le h1 (hpow _ (by omega))) (Nat.lt_of_lt_of_le h2 (hpow _ (by omega)))
end Go.Sky

