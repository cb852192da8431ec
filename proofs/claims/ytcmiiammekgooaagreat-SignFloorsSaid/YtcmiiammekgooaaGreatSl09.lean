/- rules, arithmetic and contracts: part 10
   Proved without conditions of its own: each theorem bears its own. -/
import Derived.Test.YtcmiiammekgooaaGreatSl03
set_option linter.all false
namespace Go.Sky
theorem Zxp(zs:List (Int×SL))(k:Nat)(z:Int×SL):Zs (zs.set k z)=(Zs zs).set k z.1:=by simp [Zs,List.map_set]
theorem div_sub{q D:List Int}{k:Nat}(h:k+q.length≤D.length):Zfm (tzl D) (tzl (shm q (cf D (k+q.length-1)/cf q (q.length-1)) k q.length))=tzl (Zfo q D k):=by
 refine(Zbs _ _).ext (Oy _) fun t=>?_
 rw [Kq,Lr,Lr,Lr,Zoy]
 unfold Zfo
 rw [Il]
 by_cases h1:t<D.length
 ·rw [if_pos h1];rfl
 ·rw [if_neg h1,if_neg (by omega),Qf (by omega)];rfl
theorem div_c{q:List Int}{x:Int}{A:Nat}(h0:cf q (q.length-1)≠0)(hx:x%cf q (q.length-1)=0)(ha:bl x.natAbs≤A)(t:Nat):bl (x/cf q (q.length-1)*cf q t).natAbs≤A+(msz q+1):=by
 have h1:=Ha (Int.dvd_of_emod_eq_zero hx) ha
 have h2:=Xs (x/cf q (q.length-1)) (cf q t)
 have h3:=Od q t
 omega
theorem Zma(p q:List Int)(j:Nat):Qi p q (j+1)=Zfo q (Qi p q j) (p.length-q.length-j):=rfl
theorem Zx0{p q:List Int}{j:Nat}(h:q.length≤p.length)(hj:j≤p.length-q.length):Zfm (tzl (Qi p q j)) (tzl (shm q (cf (Qi p q j) (p.length-q.length-j+q.length-1)/cf q (q.length-1)) (p.length-q.length-j) q.length))=tzl (Qi p q (j+1)):=by
 rw [Zma];exact div_sub (by rw [Ig];omega)
theorem Zt0{p q:List Int}{j:Nat}(hj:j<p.length-q.length+1):(Zkb p q j).set (p.length-q.length-j) (cf (Qi p q j) (p.length-q.length-j+q.length-1)/cf q (q.length-1))=Zkb p q (j+1):=Zok hj
theorem div_sz{p q:List Int}{j:Nat}(hj:j≤p.length-q.length+1)(hx:∀k,p.length-q.length<k+j→k≤p.length-q.length→Mv p q k){M:Nat}(hF:msz p+(p.length-q.length+1)*(msz q+1)≤M)(t:Nat):bl (cf (Qi p q j) t).natAbs≤M:=by
 have h1:=Dw p q j hj hx t
 have h2:j*(msz q+1)≤(p.length-q.length+1)*(msz q+1):=Nat.mul_le_mul_right _ hj
 omega
theorem div_sz2{p q:List Int}{j:Nat}(hj:j≤p.length-q.length)(hx:∀k,p.length-q.length<k+j→k≤p.length-q.length→Mv p q k){M:Nat}(hF:msz p+(p.length-q.length+1)*(msz q+1)≤M)(t:Nat):bl (cf (Qi p q j) t).natAbs+(msz q+1)≤M:=by
 have h1:=Dw p q j (by omega) hx t
 have h2:(j+1)*(msz q+1)≤(p.length-q.length+1)*(msz q+1):=Nat.mul_le_mul_right _ (by omega)
 rw [Nat.succ_mul]at h2
 omega
theorem dout_sz{p q:List Int}{M:Nat}(hF:msz p+(p.length-q.length+1)*(msz q+1)≤M)(hx:∀k,k≤p.length-q.length→Mv p q k)(j:Nat):Sz M (Zkb p q j):=by
 refine Zay fun t ht=>?_
 split
 ·unfold Zt5 dq
  have h1:=div_sz (p:=p) (q:=q) (j:=p.length-q.length-t) (by omega) (fun k _ hk=>hx k hk) hF (t+q.length-1)
  exact Ha (Int.dvd_of_emod_eq_zero (hx t (by omega))) h1
 ·simp [Le]
theorem pdv_end{p q:List Int}(hp:p≠[])(hl:q.length≤p.length)(hx:∀k,k≤p.length-q.length→Mv p q k){n:Nat}(hn:n=(tzl (Qi p q (p.length-q.length+1))).length):decide (n=0)=decide (pdv p q):=by
 subst hn
 refine decide_eq_decide.2 ⟨fun h=> .inr ⟨hl,hx,List.eq_nil_of_length_eq_zero h⟩,fun h=>?_⟩
 rcases h with h | ⟨_,_,h⟩
 ·exact absurd h hp
 ·rw [h];rfl
theorem pdv_no{p q:List Int}(hp:p≠[]){k:Nat}(hk:k≤p.length-q.length)(h:¬Mv p q k):decide (pdv p q)=false:=decide_eq_false fun hd=>by
 rcases hd with h1 | ⟨_,h2,_⟩
 ·exact hp h1
 ·exact h (h2 k hk)
theorem pdv_low{p q:List Int}(hp:p≠[])(h:p.length<q.length):decide (pdv p q)=false:=decide_eq_false fun hd=>by
 rcases hd with h1 | ⟨h2,_,_⟩
 ·exact hp h1
 ·omega
theorem pdv_nil{p q:List Int}(hp:p=[]):decide (pdv p q)=true:=decide_eq_true (.inl hp)
def rterm(a b:Int):Nat→List Int
 | 0=>[1]
 | i+1=>Mb (rterm a b i) (tzl [a,b])
def rsum(p:List Int)(a b d:Int):Nat→List Int
 | 0=>[]
 | i+1=>Zw0 (rsum p a b d i) (Xj (rterm a b i) (cf p i*d^(p.length-1-i)))
def hs(f:Nat→PS):Nat→PS
 | 0=>0
 | n+1=>hs f n+f n
theorem ps_tzl(p:List Int):ps (tzl p)=ps p:=PS.ext' fun i=>Lr p i
end Go.Sky

