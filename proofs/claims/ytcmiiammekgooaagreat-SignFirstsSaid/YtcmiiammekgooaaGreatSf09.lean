/- rules, arithmetic and contracts: part 10
   Proved without conditions of its own: each theorem bears its own. -/
import Derived.Test.YtcmiiammekgooaaGreatSf03
set_option linter.all false
namespace Go.Sky
theorem Zx8(zs:List (Int×SL))(k:Nat)(z:Int×SL):Zt (zs.set k z)=(Zt zs).set k z.1:=by simp [Zt,List.map_set]
theorem div_sub{q D:List Int}{k:Nat}(h:k+q.length≤D.length):Zf2 (tzl D) (tzl (shm q (cf D (k+q.length-1)/cf q (q.length-1)) k q.length))=tzl (Zf5 q D k):=by
 refine(Zb6 _ _).ext (Oz _) fun t=>?_
 rw [Kx,Ka,Ka,Ka,Zpk]
 unfold Zf5
 rw [It]
 by_cases h1:t<D.length
 ·rw [if_pos h1];rfl
 ·rw [if_neg h1,if_neg (by omega),Qh (by omega)];rfl
theorem div_c{q:List Int}{x:Int}{A:Nat}(h0:cf q (q.length-1)≠0)(hx:x%cf q (q.length-1)=0)(ha:bl x.natAbs≤A)(t:Nat):bl (x/cf q (q.length-1)*cf q t).natAbs≤A+(msz q+1):=by
 have h1:=Hh (Int.dvd_of_emod_eq_zero hx) ha
 have h2:=Xm (x/cf q (q.length-1)) (cf q t)
 have h3:=Oh q t
 omega
theorem Zmv(p q:List Int)(j:Nat):Ql p q (j+1)=Zf5 q (Ql p q j) (p.length-q.length-j):=rfl
theorem Zyj{p q:List Int}{j:Nat}(h:q.length≤p.length)(hj:j≤p.length-q.length):Zf2 (tzl (Ql p q j)) (tzl (shm q (cf (Ql p q j) (p.length-q.length-j+q.length-1)/cf q (q.length-1)) (p.length-q.length-j) q.length))=tzl (Ql p q (j+1)):=by
 rw [Zmv];exact div_sub (by rw [Im];omega)
theorem Zul{p q:List Int}{j:Nat}(hj:j<p.length-q.length+1):(Zkw p q j).set (p.length-q.length-j) (cf (Ql p q j) (p.length-q.length-j+q.length-1)/cf q (q.length-1))=Zkw p q (j+1):=Zo5 hj
theorem div_sz{p q:List Int}{j:Nat}(hj:j≤p.length-q.length+1)(hx:∀k,p.length-q.length<k+j→k≤p.length-q.length→Lb p q k){M:Nat}(hF:msz p+(p.length-q.length+1)*(msz q+1)≤M)(t:Nat):bl (cf (Ql p q j) t).natAbs≤M:=by
 have h1:=Ch p q j hj hx t
 have h2:j*(msz q+1)≤(p.length-q.length+1)*(msz q+1):=Nat.mul_le_mul_right _ hj
 omega
theorem div_sz2{p q:List Int}{j:Nat}(hj:j≤p.length-q.length)(hx:∀k,p.length-q.length<k+j→k≤p.length-q.length→Lb p q k){M:Nat}(hF:msz p+(p.length-q.length+1)*(msz q+1)≤M)(t:Nat):bl (cf (Ql p q j) t).natAbs+(msz q+1)≤M:=by
 have h1:=Ch p q j (by omega) hx t
 have h2:(j+1)*(msz q+1)≤(p.length-q.length+1)*(msz q+1):=Nat.mul_le_mul_right _ (by omega)
 rw [Nat.succ_mul]at h2
 omega
theorem dout_sz{p q:List Int}{M:Nat}(hF:msz p+(p.length-q.length+1)*(msz q+1)≤M)(hx:∀k,k≤p.length-q.length→Lb p q k)(j:Nat):Sz M (Zkw p q j):=by
 refine Zbb fun t ht=>?_
 split
 ·unfold Zuq dq
  have h1:=div_sz (p:=p) (q:=q) (j:=p.length-q.length-t) (by omega) (fun k _ hk=>hx k hk) hF (t+q.length-1)
  exact Hh (Int.dvd_of_emod_eq_zero (hx t (by omega))) h1
 ·simp [Lm]
theorem pdv_end{p q:List Int}(hp:p≠[])(hl:q.length≤p.length)(hx:∀k,k≤p.length-q.length→Lb p q k){n:Nat}(hn:n=(tzl (Ql p q (p.length-q.length+1))).length):decide (n=0)=decide (pdv p q):=by
 subst hn
 refine decide_eq_decide.2 ⟨fun h=> .inr ⟨hl,hx,List.eq_nil_of_length_eq_zero h⟩,fun h=>?_⟩
 rcases h with h | ⟨_,_,h⟩
 ·exact absurd h hp
 ·rw [h];rfl
theorem pdv_no{p q:List Int}(hp:p≠[]){k:Nat}(hk:k≤p.length-q.length)(h:¬Lb p q k):decide (pdv p q)=false:=decide_eq_false fun hd=>by
 rcases hd with h1 | ⟨_,h2,_⟩
 ·exact hp h1
 ·exact h (h2 k hk)
theorem pdv_low{p q:List Int}(hp:p≠[])(h:p.length<q.length):decide (pdv p q)=false:=decide_eq_false fun hd=>by
 rcases hd with h1 | ⟨h2,_,_⟩
 ·exact hp h1
 ·omega
theorem pdv_nil{p q:List Int}(hp:p=[]):decide (pdv p q)=true:=decide_eq_true (.inl hp)
def rterm(a b:Int):Nat→List Int
 | 0=>[1]
 | i+1=>Mg (rterm a b i) (tzl [a,b])
def rsum(p:List Int)(a b d:Int):Nat→List Int
 | 0=>[]
 | i+1=>Zxk (rsum p a b d i) (Xo (rterm a b i) (cf p i*d^(p.length-1-i)))
def hs(f:Nat→PS):Nat→PS
 | 0=>0
 | n+1=>hs f n+f n
theorem ps_tzl(p:List Int):ps (tzl p)=ps p:=PS.ext' fun i=>Ka p i
end Go.Sky

