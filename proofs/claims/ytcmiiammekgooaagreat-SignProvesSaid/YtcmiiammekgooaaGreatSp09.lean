/- Rules, arithmetic and contracts: part 10. No conditions but those that each theorem names. -/
import Derived.Test.YtcmiiammekgooaaGreatSp03
set_option linter.all false
namespace Go.Sky
theorem Ycf(zs:List (Int×SL))(k:Nat)(z:Int×SL):Zk (zs.set k z)=(Zk zs).set k z.1:=by simp [Zk,List.map_set]
theorem Yfy{q D:List Int}{k:Nat}(h:k+q.length≤D.length):Zat (tzl D) (tzl (shm q (cf D (k+q.length-1)/cf q (q.length-1)) k q.length))=tzl (Zeu q D k):=by
 refine(Zdu _ _).ext (Nk _) fun t=>?_
 rw [Hy,Ki,Ki,Ki,Zpw]
 unfold Zeu
 rw [Iu]
 by_cases h1:t<D.length
 ·rw [if_pos h1];rfl
 ·rw [if_neg h1,if_neg (by omega),Xt (by omega)];rfl
theorem div_c{q:List Int}{x:Int}{A:Nat}(h0:cf q (q.length-1)≠0)(hx:x%cf q (q.length-1)=0)(ha:bl x.natAbs≤A)(t:Nat):bl (x/cf q (q.length-1)*cf q t).natAbs≤A+(Pf q+1):=by
 have h1:=Ei (Int.dvd_of_emod_eq_zero hx) ha
 have h2:=Qb (x/cf q (q.length-1)) (cf q t)
 have h3:=On q t
 omega
theorem Zr9(p q:List Int)(j:Nat):Qr p q (j+1)=Zeu q (Qr p q j) (p.length-q.length-j):=rfl
theorem Yc0{p q:List Int}{j:Nat}(h:q.length≤p.length)(hj:j≤p.length-q.length):Zat (tzl (Qr p q j)) (tzl (shm q (cf (Qr p q j) (p.length-q.length-j+q.length-1)/cf q (q.length-1)) (p.length-q.length-j) q.length))=tzl (Qr p q (j+1)):=by
 rw [Zr9];exact Yfy (by rw [Fp];omega)
theorem Zy2{p q:List Int}{j:Nat}(hj:j<p.length-q.length+1):(Zdk p q j).set (p.length-q.length-j) (cf (Qr p q j) (p.length-q.length-j+q.length-1)/cf q (q.length-1))=Zdk p q (j+1):=Zsa hj
theorem div_sz{p q:List Int}{j:Nat}(hj:j≤p.length-q.length+1)(hx:∀k,p.length-q.length<k+j→k≤p.length-q.length→Ll p q k){M:Nat}(hF:Pf p+(p.length-q.length+1)*(Pf q+1)≤M)(t:Nat):bl (cf (Qr p q j) t).natAbs≤M:=by
 have h1:=Za3 p q j hj hx t
 have h2:j*(Pf q+1)≤(p.length-q.length+1)*(Pf q+1):=Nat.mul_le_mul_right _ hj
 omega
theorem Yfx{p q:List Int}{j:Nat}(hj:j≤p.length-q.length)(hx:∀k,p.length-q.length<k+j→k≤p.length-q.length→Ll p q k){M:Nat}(hF:Pf p+(p.length-q.length+1)*(Pf q+1)≤M)(t:Nat):bl (cf (Qr p q j) t).natAbs+(Pf q+1)≤M:=by
 have h1:=Za3 p q j (by omega) hx t
 have h2:(j+1)*(Pf q+1)≤(p.length-q.length+1)*(Pf q+1):=Nat.mul_le_mul_right _ (by omega)
 rw [Nat.succ_mul]at h2
 omega
theorem Yfv{p q:List Int}{M:Nat}(hF:Pf p+(p.length-q.length+1)*(Pf q+1)≤M)(hx:∀k,k≤p.length-q.length→Ll p q k)(j:Nat):Sz M (Zdk p q j):=by
 refine Zaf fun t ht=>?_
 split
 ·unfold Zsh dq
  have h1:=div_sz (p:=p) (q:=q) (j:=p.length-q.length-t) (by omega) (fun k _ hk=>hx k hk) hF (t+q.length-1)
  exact Ei (Int.dvd_of_emod_eq_zero (hx t (by omega))) h1
 ·simp [Lu]
theorem Ye0{p q:List Int}(hp:p≠[])(hl:q.length≤p.length)(hx:∀k,k≤p.length-q.length→Ll p q k){n:Nat}(hn:n=(tzl (Qr p q (p.length-q.length+1))).length):decide (n=0)=decide (pdv p q):=by
 subst hn
 refine decide_eq_decide.2 ⟨fun h=> .inr ⟨hl,hx,List.eq_nil_of_length_eq_zero h⟩,fun h=>?_⟩
 rcases h with h | ⟨_,_,h⟩
 ·exact absurd h hp
 ·rw [h];rfl
theorem pdv_no{p q:List Int}(hp:p≠[]){k:Nat}(hk:k≤p.length-q.length)(h:¬Ll p q k):decide (pdv p q)=false:=decide_eq_false fun hd=>by
 rcases hd with h1 | ⟨_,h2,_⟩
 ·exact hp h1
 ·exact h (h2 k hk)
theorem Yez{p q:List Int}(hp:p≠[])(h:p.length<q.length):decide (pdv p q)=false:=decide_eq_false fun hd=>by
 rcases hd with h1 | ⟨h2,_,_⟩
 ·exact hp h1
 ·omega
theorem Yey{p q:List Int}(hp:p=[]):decide (pdv p q)=true:=decide_eq_true (.inl hp)
def Gi(a b:Int):Nat→List Int
 | 0=>[1]
 | i+1=>Oo (Gi a b i) (tzl [a,b])
def Zn9(p:List Int)(a b d:Int):Nat→List Int
 | 0=>[]
 | i+1=>Zfc (Zn9 p a b d i) (Xm (Gi a b i) (cf p i*d^(p.length-1-i)))
def hs(f:Nat→PS):Nat→PS
 | 0=>0
 | n+1=>hs f n+f n
theorem Zk9{f g:Nat→PS} : ∀{n:Nat},(∀k,k<n→f k=g k)→hs f n=hs g n
 | 0,_=>rfl
 | n+1,h=>by show hs f n+f n=hs g n+g n;rw [Zk9 fun k hk=>h k (by omega),h n (by omega)]
theorem Zr0(f:Nat→PS):∀n,hs f (n+1)=f 0+hs (fun k=>f (k+1)) n
 | 0=>by show(0:PS)+f 0=f 0+0;rw [PS.zero_add',PS.add_zero']
 | n+1=>by
  show hs f (n+1)+f (n+1)=f 0+(hs (fun k=>f (k+1)) n+f (n+1))
  rw [Zr0 f n,PS.add_assoc']
theorem Ych(f:Nat→PS)(c:PS):∀n,hs (fun k=>f k*c) n=hs f n*c
 | 0=>by show(0:PS)=0*c;rw [PS.zero_mul']
 | n+1=>by show hs (fun k=>f k*c) n+f n*c=(hs f n+f n)*c;rw [Ych f c n,PS.distrib_r]
theorem Zom(p:List Int):ps (tzl p)=ps p:=PS.ext' fun i=>Ki p i
theorem Ygk(a b:Int)(i:Nat):cf [a,b] i=if i=0 then a else if i=1 then b else 0:=by
 rcases i with _ | _ | i
 ·rfl
 ·rfl
 ·rw [Xt (by simp),if_neg (by omega),if_neg (by omega)]
theorem Zqi{f:Nat→Int} : ∀{n:Nat},(∀k,k<n→f k=0)→Qi f n=0
 | 0,_=>rfl
 | n+1,h=>by rw [Qf,Zqi fun k hk=>h k (by omega),h n (by omega)];rfl
theorem Zv6(f:PS)(a b:Int)(t:Nat):(f*ps [a,b]).c t=f.c t*a+if t=0 then 0 else f.c (t-1)*b:=by
 rw [PS.mul_c]
 simp only [Nx,Ygk]
 rw [Qf,Nat.sub_self,if_pos rfl]
 rcases t with _ | t
 ·simp [Qi]
 ·rw [Qf,show t+1-t=1 by omega,if_neg (by omega:¬1=0),if_pos rfl,Zqi fun k hk=>by rw [if_neg (by omega),if_neg (by omega),Int.mul_zero],Nat.add_sub_cancel,if_neg (by omega:¬t+1=0)];omega
theorem Yaz:ps [1]=1:=PS.ext' fun i=>by
 rw [Nx,PS.one_c]
 rcases i with _ | i
 ·rfl
 ·rw [Xt (by simp),if_neg (by omega)]
theorem ps_nil:ps []=0:=PS.ext' fun i=>by rw [Nx,PS.zero_c];exact Xt (by simp)
theorem C_c(n:Int)(i:Nat):(PS.C n).c i=if i=0 then n else 0:=by
 have h:=PS.C_mul_c n 1 i
 rw [show PS.C n*1=PS.C n from PS.mul_one' _,PS.one_c]at h
 rw [h];split<;>simp
theorem Zer(a b:Int)(i:Nat):ps (Gi a b (i+1))=ps (Gi a b i)*ps [a,b]:=by
 show ps (Oo _ _)=_;rw [Zvp,Zom]
theorem Zon(p:List Int)(a b d:Int)(j:Nat):ps (Kc p a b d (j+1))=ps (Kc p a b d j)*ps [a,b]+PS.C (cf p (p.length-2-j)*d^(j+1)):=PS.ext' fun t=>by
 rw [PS.add_c,Zv6,C_c,Nx,Zy4,Iu,Nx,Nx]
 by_cases h:t<(Kc p a b d j).length+1
 ·rw [if_pos h]
  by_cases h0:t=0
  ·rw [if_pos h0,if_pos h0,if_pos h0];omega
  ·rw [if_neg h0,if_neg h0,if_neg h0];omega
 ·rw [if_neg h,Xt (by omega),Xt (by omega),if_neg (by omega),if_neg (by omega)];simp
theorem Zvq(p:List Int)(a b d:Int):∀j,j≤p.length-1→ps (Kc p a b d j)=hs (fun k=>PS.C (cf p (p.length-1-j+k)*d^(j-k))*ps (Gi a b k)) (j+1)
 | 0,_=>by
  rw [Ch];show _=(0:PS)+PS.C (cf p (p.length-1)*d^0)*ps [1]
  rw [Yaz,Int.pow_zero,Int.mul_one,show(0:PS)+PS.C (cf p (p.length-1))*1=PS.C (cf p (p.length-1)) by rw [PS.mul_one',PS.zero_add']]
  refine PS.ext' fun t=>?_
  rw [Nx,C_c]
  rcases t with _ | t
  ·rfl
  ·rw [Xt (by simp),if_neg (by omega)]
 | j+1,h=>by
  rw [Zon,Zvq p a b d j (by omega),←Ych,Zr0 _ (j+1)]
  have h1:hs (fun k=>PS.C (cf p (p.length-1-j+k)*d^(j-k))*ps (Gi a b k)*ps [a,b]) (j+1)=hs (fun k=>PS.C (cf p (p.length-1-(j+1)+(k+1))*d^(j+1-(k+1)))*ps (Gi a b (k+1))) (j+1):=Zk9 fun k hk=>by
   rw [Zer,show p.length-1-(j+1)+(k+1)=p.length-1-j+k by omega,show j+1-(k+1)=j-k by omega,PS.mul_assoc']
  rw [h1]
  show _+_=PS.C (cf p (p.length-1-(j+1)+0)*d^(j+1))*ps [1]+_
  rw [Yaz,show p.length-1-(j+1)+0=p.length-2-j by omega]
  rw [PS.mul_one',PS.add_comm']
theorem Zvo(p:List Int)(a b d:Int):∀n,ps (Zn9 p a b d n)=hs (fun k=>PS.C (cf p k*d^(p.length-1-k))*ps (Gi a b k)) n
 | 0=>ps_nil
 | n+1=>by show ps (Zfc _ _)=hs _ n+_;rw [Yev,Zvo p a b d n,Zx7]
theorem Ydz(p:List Int)(a b d:Int):∀n,Tr (Zn9 p a b d n)
 | 0=>Tr.nil
 | n+1=>Zur _ _
theorem Yeh(p:List Int)(a b d:Int):Zn9 p a b d p.length=Zau p a b d:=by
 unfold Zau
 split
 ·rename_i h;rw [h];rfl
 ·rename_i h
  refine(Ydz p a b d _).ps_inj (Nk _) ?_
  rw [Zom,Zvo,Zvq p a b d _ (Nat.le_refl _),show p.length-1+1=p.length by omega]
  exact Zk9 fun k hk=>by rw [Nat.sub_self,Nat.zero_add]
theorem Zhr(a b:Int):∀i,(Gi a b i).length≤i+1
 | 0=>Nat.le_refl _
 | i+1=>by
  have h1:=Zhr a b i
  have h2:(tzl [a,b]).length≤2:=Hc _
  have h3:(Gi a b (i+1)).length≤(Gi a b i).length+(tzl [a,b]).length-1:=Nat.le_trans (Hc _) (by rw [Qe];exact Nat.le_refl _)
  omega
theorem Zkb{a b:Int}{m:Nat}(ha:bl a.natAbs≤m)(hb:bl b.natAbs≤m):∀i,Sz (i*(m+1)+1) (Gi a b i)
 | 0=>fun t=>by
  rcases t with _ | t
  ·show bl 1≤_;rw [Ydf];omega
  ·show bl (cf [1] (t+1)).natAbs≤_;rw [Xt (by simp)];simp [Lu]
 | i+1=>fun t=>by
  have h1:=Zkb ha hb i
  rw [←Nx,Zer,Zv6,Nx,Nx,Nat.succ_mul]
  have h2:=h1 t
  have h3:=h1 (t-1)
  have h4:=Qb (cf (Gi a b i) t) a
  have h5:=Qb (cf (Gi a b i) (t-1)) b
  have h6:=Ia (cf (Gi a b i) t*a) (if t=0 then 0 else cf (Gi a b i) (t-1)*b)
  have h7:bl (if t=0 then 0 else cf (Gi a b i) (t-1)*b).natAbs≤i*(m+1)+1+m:=by
   split
   ·simp [Lu]
   ·omega
  omega
theorem Zp3{x d:Int}{A m k:Nat}(hx:bl x.natAbs≤A)(hd:bl d.natAbs≤m):bl (x*d^k).natAbs≤A+k*m:=by
 have h:=Zhd (a:=x) (n:=1) (d:=d) (A:=A) (m:=max m 1) (i:=0) (j:=k) hx (by show bl 1≤_;rw [Ydf];omega) (by omega)
 rcases Nat.eq_zero_or_pos k with h0 | h0
 ·subst h0;simp;exact hx
 ·have h1:=Qb x (d^k)
  have h2:=Dt d hd k h0
  omega
theorem Zmu{p:List Int}{a b d:Int}{m i:Nat}(ha:bl a.natAbs≤m)(hb:bl b.natAbs≤m)(hd:bl d.natAbs≤m)(hi:i<p.length)(t:Nat) :
  bl (cf (Xm (Gi a b i) (cf p i*d^(p.length-1-i))) t).natAbs≤Pf p+p.length*(m+1)+1:=by
 rw [Qd]
 have h1:=Qb (cf (Gi a b i) t) (cf p i*d^(p.length-1-i))
 have h2:=Zkb ha hb i t
 have h3:=Zp3 (k:=p.length-1-i) (On p i) hd
 have h4:i*(m+1)+(p.length-1-i)*(m+1)+(m+1)=p.length*(m+1):=by rw [←Nat.add_mul,←Nat.succ_mul];congr 1;omega
 have h6:i*(m+1)+(p.length-1-i)*(m+1)≤p.length*(m+1):=by omega
 have h5:(p.length-1-i)*m≤(p.length-1-i)*(m+1):=Nat.mul_le_mul_left _ (by omega)
 omega
theorem Zva{p:List Int}{a b d:Int}{m:Nat}(ha:bl a.natAbs≤m)(hb:bl b.natAbs≤m)(hd:bl d.natAbs≤m):∀i,i≤p.length→Sz (Pf p+p.length*(m+1)+1+i) (Zn9 p a b d i)
 | 0,_=>Sz.nil _
 | i+1,h=>fun t=>by
  have h1:=Zva (p:=p) ha hb hd i (by omega) t
  have h2:=Zmu (p:=p) ha hb hd (i:=i) (by omega) t
  show bl (cf (Zfc _ _) t).natAbs≤_
  rw [Zjl]
  have h3:=Ia (cf (Zn9 p a b d i) t) (cf (Xm (Gi a b i) (cf p i*d^(p.length-1-i))) t)
  omega
theorem Zqv{p:List Int}{a b d:Int} : ∀i,(Zn9 p a b d i).length≤i+1
 | 0=>Nat.zero_le _
 | i+1=>by
  have h1:=Ybf (Zn9 p a b d i) (Xm (Gi a b i) (cf p i*d^(p.length-1-i)))
  have h2:=Zqv (p:=p) (a:=a) (b:=b) (d:=d) i
  have h3:=Zhr a b i
  have h4:(Xm (Gi a b i) (cf p i*d^(p.length-1-i))).length≤(Gi a b i).length:=Nat.le_trans (Hc _) (by simp)
  show(Zfc _ _).length≤_
  omega
end Go.Sky

