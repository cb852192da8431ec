/- rules, arithmetic and contracts: part 9
   Proved without conditions of its own: each theorem bears its own. -/
import Derived.Test.YtcegclhbeflgbaaGreatSh02
import Derived.Test.YtcegclhbeflgbaaGreatSh01
import Derived.Test.YtcegclhbeflgbaaGreatSh03
import Derived.Test.YtcegclhbeflgbaaGreatSh07
set_option linter.all false
namespace Go.Sky
open Go.Proofs
set_option maxRecDepth 20000
set_option maxHeartbeats 4000000
set_option linter.unusedVariables false
set_option linter.unusedSimpArgs false
theorem r_valid (b : Bool) (s : ByteArray) : Cal Tryz.prog 48 #[.agg #[.bool b, .string s]] [] false (G := Unit) (fun _ => True) (fun _ => .bool (okW b s)) (fun _ => []) := by
 refine Ya Tryz.func48 J Tryz.ntmps48 J trivial ?_
 intro w0 sc hw hsc
 simp only [Zp, Zo]
 refine Zb <|Zd <|tt (Yq (i := 1) J J J J J J hw) J fun b _ => Zl J J <|Zc <|Za <|Zb <|Zb <|Zd <|dt (Yk J J uT28 J zT9 J J) J <|dt (Xb (i := 1) J J J iA9 J) J <|dt (Qc J J uT9) J <|dt (Xu J J J) J <|Zc <|Za <|Zn J (fun h25 => ?_) (fun h25 => ?_)
 ·exact Zb <|Zd <|dt (Yk J J uT28 J zT4 J J) J <|dt (Xb (i := 1) J J J iA4 J) J <|dt (Xf J J) J <|Zl J J <|Zc <|Za <|Zq <|Yp <|Zr (.inl J) hsc () _ (fun a w hs => Yr hs Tryz.results48 J) (by unfold okW; rw [if_pos (by omega)]) trivial J Zj
 ·refine Zk <|Za <|Zb <|Zd <|dt (Yk J J uT28 J zT9 J J) J <|dt (Xb (i := 1) J J J iA9 J) J <|dt (Qc J J uT9) J <|dt (d_leq J J J) J <|mv J J <|Xo (d := 14) J (fun s28 => ?_) (fun s28 => ?_)
  ·exact Yj (Yk J J uT28 J zT9 J J) J J J J <|Yj (Xb (i := 1) J J J iA9 J) J J J J <|Yj (d_ixs (i := 0) J J J uT9 J (by omega)) J J J J <|Yj (Ys J J J) J J J J <|dt (Ym J J J) J <|Zl J J <|Zc <|Za <|Zq <|Zr (.inl J) hsc () _ (fun a w hs => Yr hs Tryz.results48 J) (by unfold okW; rw [if_neg (by omega)]; simp_all <;> omega) trivial J Zj
  ·exact Yy J J J J J <|Yy J J J J J <|Yy J J J J J <|Yy J J J J J <|dt (Zs J J J) J <|Zl J J <|Zc <|Za <|Zq <|Zr (.inl J) hsc () _ (fun a w hs => Yr hs Tryz.results48 J) (by unfold okW; rw [if_neg (by omega)]; simp_all <;> omega) trivial J Zj
theorem r_trim (v : Value) (xs : List Nat) : Cal Tryz.prog 60 #[v] [slp 1 encN v xs] true (G := Unit) (fun _ => True) (fun _ => preV v (tz xs).length) (fun _ => [slp 1 encN (preV v (tz xs).length) (tz xs)]) := by
 refine Ya Tryz.func60 J Tryz.ntmps60 J K1 ?_
 intro w0 sc hw hsc
 simp only [Zp, Zo]
 refine Qh (f_self (i := 1) J Zi) fun hself => Qh (f_len (i := 1) J Zi) fun hlen => Zb <|Zd <|Zl J J <|Zc <|Za <|Zb <|Zm <|Xv [] [(0, _)] (fun (k : Nat) => [(0, preV v k)]) (fun (k : Nat) => [(1, slp 1 encN (preV v k) (xs.take k))]) (fun (k : Nat) => (k ≤ xs.length) ∧ (tz (xs.take k) = tz xs)) (fun (k : Nat) => k) xs.length ⟨Nat.le_refl _, by rw [List.take_length]⟩ ⟨by rw [hself]; rfl, trivial⟩ ⟨by rw [hself, List.take_length]; rfl, rfl, trivial⟩ ?_
 rintro k ⟨hk, ht⟩
 simp only [List.cons_append, List.nil_append]
 have hl : (xs.take k).length = k := by rw [List.length_take]; omega
 refine Zb <|Zb <|Zd <|mv J J <|dt (Zy J J (i := 1) J Zi uT37) J <|dt (Xd J J J) J <|mv J J <|Xo (d := 6) J (fun s33 => ?_) (fun s33 => ?_)
 ·refine Yj (Zv J J) J J J J <|Yj (Zv J J) J J J J <|Yj (Zy J J (i := 1) J Zi uT37) J J J J <|Yj (Xc J J J ⟨by omega, by omega⟩) J J J J <|Yj (Yf (ii := 1) (i := k - 1) J J J J Zi uT37 zT3 (by omega) (by omega)) J J J J <|Yj (Yn (ii := 1) 0 J J J Zi pN (by omega)) J J J J <|Yj (Xu J J J) J J J J <|dt (Ym J J J) J <|Zc <|Za <|Zn J (fun h33 => ?_) (fun h33 => ?_)
  ·have hstep := tz_step hk (by omega) (by omega : (xs.take k).getD (k - 1) 0 = 0)
   exact Zk <|Za <|Zm <|Zd <|mv J J <|mv J J <|dt (Zy J J (i := 1) J Zi uT37) J <|dt (Xc J J J ⟨by omega, by omega⟩) J <|dt (d_pre (ii := 1) (i := k - 1) J J J J Zi uT37 zT3 (by omega) (by omega)) J <|Zl J J <|Zc <|Xl <|Xz (s_pre 1 1 (k - 1) J J (by omega)) <|Yv (k - 1) ⟨by first | omega | (dsimp only <;> omega), by rw [← ht, ← hstep]⟩ (by first | omega | (dsimp only <;> omega)) ⟨by rw [← preV_preV v k (k - 1)]; rfl, trivial⟩ ⟨by rw [preV_preV, List.take_take, Nat.min_eq_left (by omega)]; rfl, rfl, trivial⟩
  ·refine Yo <|Zt <|Zt <|Xr <|Za <|Zb <|Zd <|mv J J <|Zl J J <|Zc <|Za <|Zq ?_
   have hx : tz xs = xs.take k := by rw [← ht]; exact tz_stop hk (by omega)
   exact Zr (.inl J) hsc () _ (fun a w hs => Yr hs Tryz.results60 J) (by rw [hx, hl]) trivial J (Yi 1 J J J (by rw [hx, hl]) Zj)
 ·refine Yy J J J J J <|Yy J J J J J <|Yy J J J J J <|Yy J J J J J <|Yy J J J J J <|Yy J J J J J <|Yy J J J J J <|dt (Zs J J J) J <|Zc <|Za <|Yd J <|Yo <|Zt <|Zt <|Xr <|Za <|Zb <|Zd <|mv J J <|Zl J J <|Zc <|Za <|Zq ?_
  have hx : tz xs = xs.take k := by rw [← ht]; exact tz_stop hk (by omega)
  exact Zr (.inl J) hsc () _ (fun a w hs => Yr hs Tryz.results60 J) (by rw [hx, hl]) trivial J (Yi 1 J J J (by rw [hx, hl]) Zj)
theorem Qr (v : Value) (xs : List Nat) : Cal Tryz.prog 60 #[v] [slp 1 encN v xs] false (G := Unit) (fun _ => True) (fun _ => preV v (tz xs).length) (fun _ => []) := (r_trim v xs).bare
theorem r_order (v w : Value) (x y : Nat) (hx : bl x ≤ 4294967296) (hy : bl y ≤ 4294967296) : Cal Tryz.prog 93 #[v, w] [d9p v x, d9p w y] false (G := Unit) (fun _ => True) (fun _ => .int .i64 (cmpI x y)) (fun _ => []) := by
 refine Ya Tryz.func93 J Tryz.ntmps93 J K2 ?_
 intro w0 sc hw hsc
 simp only [Zp, Zo]
 have hX := len9_bl x
 have hY := len9_bl y
 refine Zb <|Zd <|Zl J J <|Zc <|Za <|Zb <|Zb <|Zd <|mv J J <|dt (Zy J J (i := 1) J Zi uT37) J <|mv J J <|dt (Zy J J (i := 2) J Zi uT37) J <|dt (Ys J J J) J <|Zc <|Za <|Zn J (fun h41 => ?_) (fun h41 => ?_)
 ·refine Zb <|Zb <|Zd <|mv J J <|dt (Zy J J (i := 1) J Zi uT37) J <|mv J J <|dt (Zy J J (i := 2) J Zi uT37) J <|dt (Yw J J J) J <|Zc <|Za <|Zn J (fun h42 => ?_) (fun h42 => ?_)
  ·have hlt : x < y := dg_len_lt two_D (by omega)
   exact Zb <|Zd <|Zl J J <|Zc <|Za <|Zq <|Yp <|Yp <|Zr (.inl J) hsc () _ (fun a w hs => Yr hs Tryz.results93 J) (by unfold cmpI; rw [if_pos hlt]) trivial J Zj
  ·have hlt : y < x := dg_len_lt two_D (by omega)
   exact Zk <|Za <|Zb <|Zd <|Zl J J <|Zc <|Za <|Zq <|Yp <|Zr (.inl J) hsc () _ (fun a w hs => Yr hs Tryz.results93 J) (by unfold cmpI; rw [if_neg (by omega), if_pos hlt]) trivial J Zj
 ·have hlen : (dg 1000000000 x).length = (dg 1000000000 y).length := by omega
  refine Zk <|Za <|Zb <|Zb <|Zd <|mv J J <|dt (Zy J J (i := 1) J Zi uT37) J <|dt (Xc J J J ⟨by omega, by omega⟩) J <|Zl J J <|Zc <|Za <|Zm <|Xv [(0, _), (1, _)] [(0, _), (1, _), (2, _)] (fun (k : Nat) => [(5, .int .i64 ((k : Int) - 1))]) (fun (k : Nat) => []) (fun (k : Nat) => (k ≤ (dg 1000000000 x).length) ∧ ((dg 1000000000 x).drop k = (dg 1000000000 y).drop k)) (fun (k : Nat) => k) (dg 1000000000 x).length ⟨by first | omega | (dsimp only <;> omega), by rw [List.drop_length, hlen, List.drop_length]⟩ K3 K3 ?_
  rintro k ⟨hk, hd⟩
  simp only [List.cons_append, List.nil_append]
  refine Zb <|Zb <|Zd <|mv J J <|dt (Qb J J J) J <|Zc <|Za <|Zn J (fun h47 => ?_) (fun h47 => ?_)
  ·refine Zk <|Za <|Zb <|Zm <|Zb <|Zb <|Xa (fun _ => False) [(0, 0), (1, 0), (2, 0), (3, 0), (4, 0), (5, 0), (6, 0), (7, 0), (8, 0)] (by kernel_rfl) ?_ ?_
   ·kernel_rfl
   refine r0' J J J J (st0 (Zv J J)) <|r0' J J J J (st0 (Zv J J)) <|r0' J J J J (st0 (Yf (ii := 1) (i := k - 1) J J J J Zi uT37 zT3 (by omega) (by omega))) <|r0' J J J J (st0 (Yn (ii := 1) 0 J J J Zi pN (by first | omega | (simp only [List.length_set]; omega)))) <|r0' J J J J (st0 (Zv J J)) <|r0' J J J J (st0 (Zv J J)) <|r0' J J J J (st0 (Yf (ii := 2) (i := k - 1) J J J J Zi uT37 zT3 (by omega) (by omega))) <|r0' J J J J (st0 (Yn (ii := 2) 0 J J J Zi pN (by first | omega | (simp only [List.length_set]; omega)))) <|r0' J J J J (st0 (Yw J J J)) <|Xn <|Za <|Zn J (fun h48 => ?_) (fun h48 => ?_)
   ·have hlt := cmp_lt D_pos (xs := (dg 1000000000 x)) (ys := (dg 1000000000 y)) (dg_lt two_D x) (k := k - 1) (by omega) (by omega) (by rw [show k - 1 + 1 = k by omega]; exact hd) (by omega)
    rw [val_dg two_D, val_dg two_D] at hlt
    exact Zb <|Zd <|Zl J J <|Zc <|Za <|Zq <|Yp <|Qj <|Yp <|Yp <|Qj <|Yp <|Zr (.inl J) hsc () _ (fun a w hs => Yr hs Tryz.results93 J) (by unfold cmpI; rw [if_pos hlt]) trivial J Zj
   ·refine Zk <|Za <|Zb <|Xa (fun _ => False) [(0, 0), (1, 0), (2, 0), (3, 0), (4, 0), (5, 0), (6, 0), (7, 0), (8, 0)] (by kernel_rfl) ?_ ?_
    ·kernel_rfl
    refine r0' J J J J (st0 (Zv J J)) <|r0' J J J J (st0 (Zv J J)) <|r0' J J J J (st0 (Yf (ii := 1) (i := k - 1) J J J J Zi uT37 zT3 (by omega) (by omega))) <|r0' J J J J (st0 (Yn (ii := 1) 0 J J J Zi pN (by first | omega | (simp only [List.length_set]; omega)))) <|r0' J J J J (st0 (Zv J J)) <|r0' J J J J (st0 (Zv J J)) <|r0' J J J J (st0 (Yf (ii := 2) (i := k - 1) J J J J Zi uT37 zT3 (by omega) (by omega))) <|r0' J J J J (st0 (Yn (ii := 2) 0 J J J Zi pN (by first | omega | (simp only [List.length_set]; omega)))) <|r0' J J J J (st0 (Xd J J J)) <|Xn <|Za <|Zn J (fun h51 => ?_) (fun h51 => ?_)
    ·have hlt := cmp_lt D_pos (xs := (dg 1000000000 y)) (ys := (dg 1000000000 x)) (dg_lt two_D y) (k := k - 1) (by omega) (by omega) (by rw [show k - 1 + 1 = k by omega]; exact hd.symm) (by omega)
     rw [val_dg two_D, val_dg two_D] at hlt
     exact Zb <|Zd <|Zl J J <|Zc <|Za <|Zq <|Qj <|Yp <|Yp <|Qj <|Yp <|Zr (.inl J) hsc () _ (fun a w hs => Yr hs Tryz.results93 J) (by unfold cmpI; rw [if_neg (by omega), if_pos hlt]) trivial J Zj
    ·exact Zk <|Xl <|Za <|Zd <|mv J J <|dt (Xc J J J ⟨by omega, by omega⟩) J <|Zl J J <|Zc <|Yv (k - 1) ⟨by first | omega | (dsimp only <;> omega), by have := drop_eq_step (xs := (dg 1000000000 x)) (ys := (dg 1000000000 y)) (k := k - 1) (by omega) (by omega) (by rw [show k - 1 + 1 = k by omega]; exact hd) (by omega); exact this⟩ (by first | omega | (dsimp only <;> omega)) ⟨by rw [show (((k - 1 : Nat) : Int) - 1) = (k : Int) - 1 - 1 by omega]; rfl, rfl, rfl, trivial⟩ K3
  ·refine Yo <|Zt <|Zt <|Xr <|Za <|Zb <|Zd <|Zl J J <|Zc <|Za <|Zq ?_
   obtain rfl : k = 0 := by omega
   have heq : x = y := (dg_eq_iff two_D).1 (by simpa using hd)
   exact Zr (.inl J) hsc () _ (fun a w hs => Yr hs Tryz.results93 J) (by unfold cmpI; rw [if_neg (by omega), if_neg (by omega)]) trivial J Zj
theorem r_plus (v w : Value) (x y : Nat) (hx : bl x ≤ 4294967296) (hy : bl y ≤ 4294967296) : Cal Tryz.prog 92 #[v, w] [d9p v x, d9p w y] false (G := Value) (fun r => True) (fun r => r) (fun r => [d9p r (x + y)]) := by
 refine Ya Tryz.func92 J Tryz.ntmps92 J K2 ?_
 intro w0 sc hw hsc
 simp only [Zp, Zo]
 have hX := len9_bl x
 have hY := len9_bl y
 refine Zb <|Zd <|Zl J J <|Zc <|Za <|Zb <|Zd <|Zl J J <|Zc <|Za <|Zb <|Zd <|Zl J J <|Zc <|Za <|Zb <|Zb <|Zd <|Zl J J <|Zc <|Za <|Zm <|Yh (Xy 70 1 3 encN) <|Xv [(0, _), (1, _)] [(0, _), (1, _), (2, _)] (fun (q : Nat × List Nat × Nat × Value) => [(7, .int .i64 (q.1 : Int)), (6, .int .i64 (q.2.2.1 : Int)), (5, q.2.2.2)]) (fun (q : Nat × List Nat × Nat × Value) => [(70, osl 1 3 encN q.2.2.2 q.2.1)]) (fun (q : Nat × List Nat × Nat × Value) => (q.1 ≤ max (dg 1000000000 x).length (dg 1000000000 y).length + 1 ∧ (q.1 = max (dg 1000000000 x).length (dg 1000000000 y).length + 1 → q.2.2.1 = 0)) ∧ (q.2.1.length = q.1) ∧ (∀ d ∈ q.2.1, d < 1000000000) ∧ (q.2.2.1 ≤ 1) ∧ (val 1000000000 q.2.1 + q.2.2.1 * 1000000000 ^ q.1 = val 1000000000 ((dg 1000000000 x).take q.1) + val 1000000000 ((dg 1000000000 y).take q.1)) ∧ (q.1 = 0 ∨ 1000000000 ^ (q.1 - 1) ≤ x + y)) (fun (q : Nat × List Nat × Nat × Value) => max (dg 1000000000 x).length (dg 1000000000 y).length + 1 - q.1) (0, [], 0, .slice none 0 0) ⟨⟨by omega, by omega⟩, J, by simp, by first | omega | (dsimp only <;> omega), by simp [val], .inl rfl⟩ K5 K4 ?_
 rintro ⟨i, o, c, vo⟩ ⟨hi, hol, hoa, hc, hv, hge⟩
 dsimp only at hi hol hoa hc hv hge
 simp only [List.cons_append, List.nil_append]
 refine Zb <|e_jn [(0, _), (1, _), (5, _), (6, _), (7, _)] [(0, _), (70, _), (1, _), (2, _)] (fun (_ : Unit) => [(21, .bool (decide (i < (dg 1000000000 x).length ∨ i < (dg 1000000000 y).length ∨ 0 < c)))]) (fun (_ : Unit) => []) (fun (_ : Unit) => True) K5 K4 ?_ ?_
 ·refine Zd <|mv J J <|mv J J <|dt (Zy J J (i := 1) J Zi uT37) J <|dt (Yw J J J) J <|mv J J <|Xo (d := 12) J (fun s62 => ?_) (fun s62 => ?_)
  ·exact Yy J J J J J <|Yy J J J J J <|Yy J J J J J <|Yy J J J J J <|dt (Ym J J J) J <|mv J J <|Yy J J J J J <|Yy J J J J J <|dt (Ym J J J) J <|Zc <|Xq () trivial ⟨by first | exact congrArg some (congrArg Value.bool (decide_eq_decide.2 (by omega))) | exact congrArg some (congrArg Value.bool (decide_eq_true (by omega)).symm), rfl, rfl, rfl, rfl, rfl, trivial⟩ K4
  ·refine Yj (Zv J J) J J J J <|Yj (Zv J J) J J J J <|Yj (Zy J J (i := 2) J Zi uT37) J J J J <|Yj (Yw J J J) J J J J <|dt (Zs J J J) J <|mv J J <|Xo (d := 18) J (fun s62_2 => ?_) (fun s62_2 => ?_)
   ·exact Yy J J J J J <|Yy J J J J J <|dt (Ym J J J) J <|Zc <|Xq () trivial ⟨by first | exact congrArg some (congrArg Value.bool (decide_eq_decide.2 (by omega))) | exact congrArg some (congrArg Value.bool (decide_eq_true (by omega)).symm), rfl, rfl, rfl, rfl, rfl, trivial⟩ K4
   ·exact Yj (Zv J J) J J J J <|Yj (Xd J J J) J J J J <|dt (Zs J J J) J <|Zc <|Xq () trivial ⟨by first | exact congrArg some (congrArg Value.bool (decide_eq_decide.2 (by omega))) | exact congrArg some (congrArg Value.bool (decide_eq_true (by omega)).symm), rfl, rfl, rfl, rfl, rfl, trivial⟩ K4
 ·rintro _ -
  simp only [List.cons_append, List.nil_append]
  refine Zn J (fun h62 => ?_) (fun h62 => ?_)
  ·have hgn : 1000000000 ^ i ≤ x + y := by
    rcases h62 with h1 | h1 | h1
    ·have := pow_le_dg two_D h1; omega
    ·have := pow_le_dg two_D h1; omega
    ·by_cases h2 : i < (dg 1000000000 x).length
     ·have := pow_le_dg two_D h2; omega
     ·by_cases h3 : i < (dg 1000000000 y).length
      ·have := pow_le_dg two_D h3; omega
      ·rw [take_dg_all two_D (by omega), take_dg_all two_D (by omega)] at hv
       have : 1000000000 ^ i ≤ c * 1000000000 ^ i := Nat.le_mul_of_pos_left _ h1
       omega
   refine Zk <|Za <|Zb <|Zm <|e_jn [(0, _), (1, _), (5, _), (7, _)] [(0, _), (70, _), (1, _), (2, _)] (fun (_ : Unit) => [(6, .int .i64 ((c + (dg 1000000000 x).getD i 0 : Nat) : Int))]) (fun (_ : Unit) => []) (fun (_ : Unit) => True) K4 K4 ?_ ?_
   ·refine Zb <|Zd <|mv J J <|mv J J <|dt (Zy J J (i := 1) J Zi uT37) J <|dt (Yw J J J) J <|Zc <|Za <|Zn J (fun h63 => ?_) (fun h63 => ?_)
    ·refine Zd <|mv J J <|mv J J <|mv J J <|dt (Yf (ii := 1) J J J J Zi uT37 zT3 J (by first | omega | (simp only [List.length_set]; omega))) J <|dt (Yn (ii := 1) 0 J J J Zi pN (by first | omega | (simp only [List.length_set]; omega))) J <|dt (n_add J J J (by have h1 := (getD_lt D_pos (dg_lt two_D x) i); omega)) J <|Zl J J <|Zc ?_
     try (have hz : (dg 1000000000 x).getD i 0 = 0 := by simp [List.getD, List.getElem?_eq_none (by omega : (dg 1000000000 x).length ≤ i)])
     exact Xq () trivial ⟨by first | rfl | (rw [hz]; rfl), rfl, rfl, rfl, rfl, trivial⟩ K4
    ·refine Zk ?_
     try (have hz : (dg 1000000000 x).getD i 0 = 0 := by simp [List.getD, List.getElem?_eq_none (by omega : (dg 1000000000 x).length ≤ i)])
     exact Xq () trivial ⟨by first | rfl | (rw [hz]; rfl), rfl, rfl, rfl, rfl, trivial⟩ K4
   ·rintro _ -
    simp only [List.cons_append, List.nil_append]
    refine e_jn [(0, _), (1, _), (5, _), (7, _)] [(0, _), (70, _), (1, _), (2, _)] (fun (_ : Unit) => [(6, .int .i64 ((c + (dg 1000000000 x).getD i 0 + (dg 1000000000 y).getD i 0 : Nat) : Int))]) (fun (_ : Unit) => []) (fun (_ : Unit) => True) K4 K4 ?_ ?_
    ·refine Zb <|Zd <|mv J J <|mv J J <|dt (Zy J J (i := 2) J Zi uT37) J <|dt (Yw J J J) J <|Zc <|Za <|Zn J (fun h66 => ?_) (fun h66 => ?_)
     ·refine Zd <|mv J J <|mv J J <|mv J J <|dt (Yf (ii := 2) J J J J Zi uT37 zT3 J (by first | omega | (simp only [List.length_set]; omega))) J <|dt (Yn (ii := 2) 0 J J J Zi pN (by first | omega | (simp only [List.length_set]; omega))) J <|dt (n_add J J J (by have h1 := (getD_lt D_pos (dg_lt two_D x) i); have h2 := (getD_lt D_pos (dg_lt two_D y) i); omega)) J <|Zl J J <|Zc ?_
      try (have hz : (dg 1000000000 y).getD i 0 = 0 := by simp [List.getD, List.getElem?_eq_none (by omega : (dg 1000000000 y).length ≤ i)])
      exact Xq () trivial ⟨by first | rfl | (rw [hz]; rfl), rfl, rfl, rfl, rfl, trivial⟩ K4
     ·refine Zk ?_
      try (have hz : (dg 1000000000 y).getD i 0 = 0 := by simp [List.getD, List.getElem?_eq_none (by omega : (dg 1000000000 y).length ≤ i)])
      exact Xq () trivial ⟨by first | rfl | (rw [hz]; rfl), rfl, rfl, rfl, rfl, trivial⟩ K4
    ·rintro _ -
     simp only [List.cons_append, List.nil_append]
     exact Zb <|Zd <|mv J J <|mv J J <|dt (n_rem (n := 1000000000) J J J (by omega)) J <|tt (Xm (i := 3) (ivs := [(0, _)]) (enc := encN) [(c + (dg 1000000000 x).getD i 0 + (dg 1000000000 y).getD i 0) % 1000000000] J J J K2 uT37 Tryz.ti3 J J J J J J pN.cells J J hw) J fun v _ => tt (t_appa (i := 70) (j := 3) (by_ := 8) J J J J J J (by decide) J (Ye pN) uT37 Tryz.ti3 J pN J J J (by simp; omega) (by decide) J hw) J fun v_2 _ => Zl J J <|Zc <|Za <|Zd <|mv J J <|dt (n_quo (n := 1000000000) J J J (by have h1 := (getD_lt D_pos (dg_lt two_D x) i); have h2 := (getD_lt D_pos (dg_lt two_D y) i); omega) (by omega)) J <|Zl J J <|Zc <|Xl <|Za <|Zd <|mv J J <|dt (Yg J J J ⟨by omega, by omega⟩) J <|Zl J J <|Zc <|Yv (i + 1, o ++ [(c + (dg 1000000000 x).getD i 0 + (dg 1000000000 y).getD i 0) % 1000000000], (c + (dg 1000000000 x).getD i 0 + (dg 1000000000 y).getD i 0) / 1000000000, _) ⟨⟨by dsimp only; omega, fun h => by dsimp only at h ⊢; rw [dg_getD0 (by omega : (dg 1000000000 x).length ≤ i), dg_getD0 (by omega : (dg 1000000000 y).length ≤ i)]; omega⟩, by simp [hol], all_snoc hoa (Nat.mod_lt _ D_pos), by have h1 := (getD_lt D_pos (dg_lt two_D x) i); have h2 := (getD_lt D_pos (dg_lt two_D y) i); dsimp only; omega, plus_step hol hv, .inr hgn⟩ (by first | omega | (dsimp only <;> omega)) K5 K4
  ·refine Yo <|Zt <|Zt <|Xr <|Za <|Zb <|Zd <|mv J J <|Zl J J <|Zc <|Za <|Zq ?_
   have hc0 : c = 0 := by omega
   have hv2 : val 1000000000 o = x + y := by
    rw [take_dg_all two_D (by omega), take_dg_all two_D (by omega), hc0, Nat.zero_mul, Nat.add_zero] at hv
    exact hv
   have hx : o = dg 1000000000 (x + y) := tz_full two_D hoa hv2 (by rw [hol]; exact hge)
   exact Zr (.inl J) hsc _ _ (fun a w hs => Yr hs Tryz.results92 J) J trivial J (Xs 70 J J pN (by rw [← hx] <;> rfl) Zj)
theorem r_minus (v w : Value) (x y : Nat) (hx : bl x ≤ 4294967296) (hxy : y ≤ x) : Cal Tryz.prog 94 #[v, w] [d9p v x, d9p w y] false (G := Value) (fun r => True) (fun r => r) (fun r => [d9p r (x - y)]) := by
 refine Ya Tryz.func94 J Tryz.ntmps94 J K2 ?_
 intro w0 sc hw hsc
 simp only [Zp, Zo]
 have hX := len9_bl x
 have hm := bl_mono hxy
 have hY := len9_bl y
 have hly : (dg 1000000000 y).length ≤ (dg 1000000000 x).length := dg_len_mono two_D hxy
 refine Zb <|Zd <|Zl J J <|Zc <|Za <|Zb <|Zd <|Zl J J <|Zc <|Za <|Zb <|Zd <|Zl J J <|Zc <|Za <|Zb <|Zb <|Zd <|Zl J J <|Zc <|Za <|Zm <|Yh (Xy 70 1 3 encN) <|Xv [(0, _), (1, _)] [(0, _), (1, _), (2, _)] (fun (q : Nat × List Nat × Nat × Value) => [(7, .int .i64 (q.1 : Int)), (6, .int .i64 (q.2.2.1 : Int)), (5, q.2.2.2)]) (fun (q : Nat × List Nat × Nat × Value) => [(70, osl 1 3 encN q.2.2.2 q.2.1)]) (fun (q : Nat × List Nat × Nat × Value) => (q.1 ≤ (dg 1000000000 x).length) ∧ (q.2.1.length = q.1) ∧ (∀ d ∈ q.2.1, d < 1000000000) ∧ (q.2.2.1 ≤ 1) ∧ (val 1000000000 q.2.1 + val 1000000000 ((dg 1000000000 y).take q.1) = val 1000000000 ((dg 1000000000 x).take q.1) + q.2.2.1 * 1000000000 ^ q.1)) (fun (q : Nat × List Nat × Nat × Value) => (dg 1000000000 x).length - q.1) (0, [], 0, .slice none 0 0) ⟨by first | omega | (dsimp only <;> omega), rfl, by simp, by first | omega | (dsimp only <;> omega), by simp [val]⟩ K5 K4 ?_
 rintro ⟨i, o, c, vo⟩ ⟨hi, hol, hoa, hc, hv⟩
 dsimp only at hi hol hoa hc hv
 simp only [List.cons_append, List.nil_append]
 have hda := (getD_lt D_pos (dg_lt two_D x) i)
 have hdb := (getD_lt D_pos (dg_lt two_D y) i)
 refine Zb <|Zb <|Zd <|mv J J <|mv J J <|dt (Zy J J (i := 1) J Zi uT37) J <|dt (Yw J J J) J <|Zc <|Za <|Zn J (fun h79 => ?_) (fun h79 => ?_)
 ·refine Zk <|Za <|Zb <|Zm <|Zb <|Zd <|mv J J <|mv J J <|dt (Yf (ii := 1) J J J J Zi uT37 zT3 J (by first | omega | (simp only [List.length_set]; omega))) J <|dt (Yn (ii := 1) 0 J J J Zi pN (by first | omega | (simp only [List.length_set]; omega))) J <|mv J J <|dt (Xc J J J ⟨by omega, by omega⟩) J <|Zl J J <|Zc <|Za <|e_jn [(0, _), (1, _), (5, _), (7, _)] [(0, _), (70, _), (1, _), (2, _)] (fun (_ : Unit) => [(8, .int .i64 (((dg 1000000000 x).getD i 0 : Int) - (c : Int) - ((dg 1000000000 y).getD i 0 : Int)))]) (fun (_ : Unit) => []) (fun (_ : Unit) => True) K4 K4 ?_ ?_
  ·refine Zb <|Zd <|mv J J <|mv J J <|dt (Zy J J (i := 2) J Zi uT37) J <|dt (Yw J J J) J <|Zc <|Za <|Zn J (fun h81 => ?_) (fun h81 => ?_)
   ·refine Zd <|mv J J <|mv J J <|mv J J <|dt (Yf (ii := 2) J J J J Zi uT37 zT3 J (by first | omega | (simp only [List.length_set]; omega))) J <|dt (Yn (ii := 2) 0 J J J Zi pN (by first | omega | (simp only [List.length_set]; omega))) J <|dt (Xc J J J ⟨by omega, by omega⟩) J <|Zl J J <|Zc ?_
    try (have hz : (dg 1000000000 y).getD i 0 = 0 := by simp [List.getD, List.getElem?_eq_none (by omega : (dg 1000000000 y).length ≤ i)])
    exact Xq () trivial ⟨by first | rfl | (rw [hz]; exact congrArg some (i64_eq (by omega))), rfl, rfl, rfl, rfl, trivial⟩ K4
   ·refine Zk ?_
    try (have hz : (dg 1000000000 y).getD i 0 = 0 := by simp [List.getD, List.getElem?_eq_none (by omega : (dg 1000000000 y).length ≤ i)])
    exact Xq () trivial ⟨by first | rfl | (rw [hz]; exact congrArg some (i64_eq (by omega))), rfl, rfl, rfl, rfl, trivial⟩ K4
  ·rintro _ -
   simp only [List.cons_append, List.nil_append]
   refine Zb <|Zd <|Zl J J <|Zc <|Za <|e_jn [(0, _), (1, _), (5, _), (7, _)] [(0, _), (70, _), (1, _), (2, _)] (fun (_ : Unit) => [(8, .int .i64 ((d9s ((dg 1000000000 x).getD i 0) ((dg 1000000000 y).getD i 0) c : Nat) : Int)), (6, .int .i64 ((brw ((dg 1000000000 x).getD i 0) ((dg 1000000000 y).getD i 0) c : Nat) : Int))]) (fun (_ : Unit) => []) (fun (_ : Unit) => True) K4 K4 ?_ ?_
   ·refine Zb <|Zd <|mv J J <|dt (Yw J J J) J <|Zc <|Za <|Zn J (fun h85 => ?_) (fun h85 => ?_)
    ·exact Zd <|mv J J <|dt (Yg J J J ⟨by omega, by omega⟩) J <|Zl J J <|Zl J J <|Zc <|Xq () trivial ⟨by exact congrArg some (i64_eq (by unfold d9s; split <;> omega)), by exact congrArg some (i64_eq (by unfold brw; split <;> omega)), rfl, rfl, rfl, rfl, trivial⟩ K4
    ·exact Zk <|Xq () trivial ⟨by exact congrArg some (i64_eq (by unfold d9s; split <;> omega)), by exact congrArg some (i64_eq (by unfold brw; split <;> omega)), rfl, rfl, rfl, rfl, trivial⟩ K4
   ·rintro _ -
    simp only [List.cons_append, List.nil_append]
    exact Zd <|mv J J <|mv J J <|tt (Xm (i := 3) (ivs := [(0, _)]) (enc := encN) [d9s ((dg 1000000000 x).getD i 0) ((dg 1000000000 y).getD i 0) c] J J J K2 uT37 Tryz.ti3 J J J J J J pN.cells J J hw) J fun v _ => tt (t_appa (i := 70) (j := 3) (by_ := 8) J J J J J J (by decide) J (Ye pN) uT37 Tryz.ti3 J pN J J J (by simp; omega) (by decide) J hw) J fun v_2 _ => Zl J J <|Zc <|Xl <|Za <|Zd <|mv J J <|dt (Yg J J J ⟨by omega, by omega⟩) J <|Zl J J <|Zc <|Yv (i + 1, o ++ [d9s ((dg 1000000000 x).getD i 0) ((dg 1000000000 y).getD i 0) c], brw ((dg 1000000000 x).getD i 0) ((dg 1000000000 y).getD i 0) c, _) ⟨by first | omega | (dsimp only <;> omega), by simp [hol], all_snoc hoa (d9s_int hda hdb hc).1, brw_le _ _ _, minus_step hc hda hdb hol hv⟩ (by first | omega | (dsimp only <;> omega)) K5 K4
 ·refine Yo <|Zt <|Zt <|Xr <|Za <|Zb <|Zd <|mv J J <|tt (Zg (n := 3) (Qr _ _) J J J K1 cF60 (Xe 70 J J pN Ze) J hw) J fun _ _ => Xj (s_tz 70 J J pN) <|Zl J J <|Zc <|Za <|Zq ?_
  obtain rfl : i = (dg 1000000000 x).length := by omega
  have hx : tz o = dg 1000000000 (x - y) := by
   rw [← dg_val two_D _ hoa]
   congr 1
   rw [val_take_all _ (dg 1000000000 y) _ hly, val_take_all _ (dg 1000000000 x) _ (Nat.le_refl _), val_dg two_D, val_dg two_D] at hv
   have h1 := val_lt D_pos o hoa
   rw [hol] at h1
   have h0 : c = 0 ∨ c = 1 := by omega
   rcases h0 with rfl | rfl <;> omega
  exact Zr (.inl J) hsc _ _ (fun a w hs => Yr hs Tryz.results94 J) J trivial J (Xs 70 J J pN (by rw [hx] <;> rfl) Zj)
set_option maxHeartbeats 4000000 in
theorem r_times (v w : Value) (x y : Nat) (hx : bl x ≤ 4294967296) (hy : bl y ≤ 4294967296) : Cal Tryz.prog 96 #[v, w] [d9p v x, d9p w y] false (G := Value) (fun r => True) (fun r => r) (fun r => [d9p r (x * y)]) := by
 refine Ya Tryz.func96 J Tryz.ntmps96 J K2 ?_
 intro w0 sc hw hsc
 simp only [Zp, Zo]
 have hX := len9_bl x
 have hY := len9_bl y
 refine Zb <|Zd <|Zl J J <|Zc <|Za <|Zb <|Zd <|mv J J <|dt (Zy J J (i := 1) J Zi uT37) J <|mv J J <|dt (Zy J J (i := 2) J Zi uT37) J <|dt (Yg J J J ⟨by omega, by omega⟩) J <|tt (t_mkn (i := 3) (n := ((dg 1000000000 x).length + (dg 1000000000 y).length)) (by_ := 8) (enc := encN) 0 J J J J J (by omega) uT37 Tryz.ti3 J pN.cells pN.pos J J (by omega) (by decide) J hw) J fun v _ => Zl J J <|Zc <|Za <|Zb <|Zb <|Zd <|Zl J J <|Zc <|Za <|Zm <|Xv [(0, _), (1, _), (5, _)] [(0, _), (1, _), (2, _)] (fun (q : Nat × List Nat) => [(6, .int .i64 (q.1 : Int))]) (fun (q : Nat × List Nat) => [(3, osl 1 3 encN v q.2)]) (fun (q : Nat × List Nat) => (q.1 ≤ (dg 1000000000 x).length) ∧ (q.2.length = ((dg 1000000000 x).length + (dg 1000000000 y).length)) ∧ (∀ d ∈ q.2, d < 1000000000) ∧ (∀ j, q.1 + (dg 1000000000 y).length ≤ j → q.2.getD j 0 = 0) ∧ (val 1000000000 q.2 = val 1000000000 ((dg 1000000000 x).take q.1) * y)) (fun (q : Nat × List Nat) => (dg 1000000000 x).length - q.1) (0, List.replicate ((dg 1000000000 x).length + (dg 1000000000 y).length) 0) ⟨by first | omega | (dsimp only <;> omega), by simp, all_replicate _ D_pos, fun j _ => getD_replicate _ j, by simp [val, val_replicate]⟩ K4 K4 ?_
 rintro ⟨i, o⟩ ⟨hi, hol, hoa, hz0, hv⟩
 dsimp only at hi hol hoa hz0 hv
 simp only [List.cons_append, List.nil_append]
 refine Zb <|Zb <|Zd <|mv J J <|mv J J <|dt (Zy J J (i := 1) J Zi uT37) J <|dt (Yw J J J) J <|Zc <|Za <|Zn J (fun h96 => ?_) (fun h96 => ?_)
 ·refine Zk <|Za <|Zb <|Zm <|Zb <|Zd <|Zl J J <|Zc <|Za <|Zb <|Zd <|Zl J J <|Zc <|Za <|Zm <|Xv [(0, _), (1, _), (5, _), (6, _)] [(0, _), (1, _), (2, _)] (fun (q : Nat × List Nat × Nat) => [(8, .int .i64 (q.1 : Int)), (7, .int .i64 (q.2.2 : Int))]) (fun (q : Nat × List Nat × Nat) => [(3, osl 1 3 encN v q.2.1)]) (fun (q : Nat × List Nat × Nat) => (q.1 ≤ (dg 1000000000 y).length + 1 ∧ (q.1 = (dg 1000000000 y).length + 1 → q.2.2 = 0)) ∧ (q.2.1.length = ((dg 1000000000 x).length + (dg 1000000000 y).length)) ∧ (∀ d ∈ q.2.1, d < 1000000000) ∧ (∀ j, i + q.1 ≤ j → i + (dg 1000000000 y).length ≤ j → q.2.1.getD j 0 = 0) ∧ (q.2.2 < 1000000000) ∧ (val 1000000000 q.2.1 + q.2.2 * 1000000000 ^ (i + q.1) = val 1000000000 ((dg 1000000000 x).take i) * y + (dg 1000000000 x).getD i 0 * 1000000000 ^ i * val 1000000000 ((dg 1000000000 y).take q.1))) (fun (q : Nat × List Nat × Nat) => (dg 1000000000 y).length + 1 - q.1) (0, o, 0) ⟨⟨by omega, by omega⟩, hol, hoa, fun j _ h => hz0 j h, by first | omega | (dsimp only <;> omega), by rw [hv]; simp [val]⟩ K6 K4 ?_
  rintro ⟨k, p, c⟩ ⟨hk, hpl, hpa, hpz, hcU, hpv⟩
  dsimp only at hk hpl hpa hpz hcU hpv
  simp only [List.cons_append, List.nil_append]
  have hdig := times_digit (getD_lt D_pos (dg_lt two_D x) i) (getD_lt D_pos (dg_lt two_D y) k) (getD_lt D_pos hpa (i + k)) hcU
  refine Zb <|e_jn [(0, _), (1, _), (5, _), (6, _), (7, _), (8, _)] [(0, _), (3, _), (1, _), (2, _)] (fun (_ : Unit) => [(29, .bool (decide (k < (dg 1000000000 y).length ∨ 0 < c)))]) (fun (_ : Unit) => []) (fun (_ : Unit) => True) K6 K4 ?_ ?_
  ·refine Zd <|mv J J <|mv J J <|dt (Zy J J (i := 2) J Zi uT37) J <|dt (Yw J J J) J <|mv J J <|Xo (d := 26) J (fun s98 => ?_) (fun s98 => ?_)
   ·exact Yy J J J J J <|Yy J J J J J <|dt (Ym J J J) J <|Zc <|Xq () trivial ⟨by first | exact congrArg some (congrArg Value.bool (decide_eq_decide.2 (by omega))) | exact congrArg some (congrArg Value.bool (decide_eq_true (by omega)).symm), rfl, rfl, rfl, rfl, rfl, rfl, trivial⟩ K4
   ·exact Yj (Zv J J) J J J J <|Yj (Xd J J J) J J J J <|dt (Zs J J J) J <|Zc <|Xq () trivial ⟨by first | exact congrArg some (congrArg Value.bool (decide_eq_decide.2 (by omega))) | exact congrArg some (congrArg Value.bool (decide_eq_true (by omega)).symm), rfl, rfl, rfl, rfl, rfl, rfl, trivial⟩ K4
  ·rintro _ -
   simp only [List.cons_append, List.nil_append]
   refine Zn J (fun h98 => ?_) (fun h98 => ?_)
   ·refine Zk <|Za <|Zb <|Zm <|Zb <|Zd <|mv J J <|mv J J <|mv J J <|dt (n_add J J J (by omega)) J <|dt (Yf (ii := 3) (i := (i + k)) J J J J (Ye pN) uT37 zT3 (by omega) (by omega)) J <|dt (Yn (ii := 3) 0 J J J (Ye pN) pN (by omega)) J <|mv J J <|dt (n_add J J J (by have h1 := getD_lt D_pos hpa (i + k); omega)) J <|Zl J J <|Zc <|Za <|e_jn [(0, _), (1, _), (5, _), (6, _), (8, _)] [(0, _), (3, _), (1, _), (2, _)] (fun (_ : Unit) => [(9, .int .i64 ((p.getD (i + k) 0 + c + (dg 1000000000 x).getD i 0 * (dg 1000000000 y).getD k 0 : Nat) : Int))]) (fun (_ : Unit) => []) (fun (_ : Unit) => True) K5 K4 ?_ ?_
    ·refine Zb <|Zd <|mv J J <|mv J J <|dt (Zy J J (i := 2) J Zi uT37) J <|dt (Yw J J J) J <|Zc <|Za <|Zn J (fun h100 => ?_) (fun h100 => ?_)
     ·refine Xa (fun _ => False) [(0, 0), (1, 0), (2, 0), (3, 0), (4, 0), (5, 0), (6, 0), (7, 0), (8, 0), (9, 0), (10, 0), (11, 3)] (by kernel_rfl) ?_ ?_
      ·kernel_rfl
      refine r0' J J J J (st0 (Zv J J)) <|r0' J J J J (st0 (Zv J J)) <|r0' J J J J (st0 (Zv J J)) <|r0' J J J J (st0 (Yf (ii := 1) J J J J Zi uT37 zT3 J (by first | omega | (simp only [List.length_set]; omega)))) <|r0' J J J J (st0 (Yn (ii := 1) 0 J J J Zi pN (by first | omega | (simp only [List.length_set]; omega)))) <|r0' J J J J (st0 (Zv J J)) <|r0' J J J J (st0 (Zv J J)) <|r0' J J J J (st0 (Yf (ii := 2) J J J J Zi uT37 zT3 J (by first | omega | (simp only [List.length_set]; omega)))) <|r0' J J J J (st0 (Yn (ii := 2) 0 J J J Zi pN (by first | omega | (simp only [List.length_set]; omega)))) <|r0' J J J J (st0 (n_mul J J J (by have h1 := hdig.2; omega))) <|r0' J J J J (st0 (n_add J J J hdig.2)) <|r3' J J (Qa (Qf J J) J J) fun _ _ => Xn ?_
      try (have hz : (dg 1000000000 y).getD k 0 = 0 := dg_getD0 (by omega))
      exact Xq () trivial ⟨by first | rfl | (rw [hz, Nat.mul_zero]; rfl), rfl, rfl, rfl, rfl, rfl, trivial⟩ K4
     ·refine Zk ?_
      try (have hz : (dg 1000000000 y).getD k 0 = 0 := dg_getD0 (by omega))
      exact Xq () trivial ⟨by first | rfl | (rw [hz, Nat.mul_zero]; rfl), rfl, rfl, rfl, rfl, rfl, trivial⟩ K4
    ·rintro _ -
     simp only [List.cons_append, List.nil_append]
     exact Zb <|Zd <|mv J J <|mv J J <|mv J J <|dt (n_add J J J (by omega)) J <|mv J J <|dt (n_rem (n := 1000000000) J J J (by omega)) J <|dt (Yf (ii := 3) (i := (i + k)) J J J J (Ye pN) uT37 zT3 (by omega) (by omega)) J <|tt (Qo (i := 3) (enc := encN) _ J J J J J J (by decide) pN (by omega) J hw) J fun _ _ => Zc <|Za <|Zd <|mv J J <|dt (n_quo (n := 1000000000) J J J hdig.2 (by omega)) J <|Zl J J <|Zc <|Xl <|Za <|Zd <|mv J J <|dt (Yg J J J ⟨by omega, by omega⟩) J <|Zl J J <|Zc <|Yv (k + 1, _, _) ⟨⟨by dsimp only; omega, fun h => by dsimp only at h ⊢; rw [dg_getD0 (by omega : (dg 1000000000 y).length ≤ k), hpz (i + k) (by omega) (by omega), Nat.mul_zero]; omega⟩, by simp; omega, all_set hpa _ _ (Nat.mod_lt _ D_pos), fun j hj hj2 => by dsimp only at hj ⊢; rw [getD_set _ _ _ _ _ (by omega), if_neg (by omega)]; exact hpz j (by omega) hj2, hdig.1, times_step hpv (by omega)⟩ (by first | omega | (dsimp only <;> omega)) K6 K4
   ·refine Yo <|Zt <|Zt <|Xr <|Xl <|Za <|Zd <|mv J J <|dt (Yg J J J ⟨by omega, by omega⟩) J <|Zl J J <|Zc ?_
    have hc0 : c = 0 := by omega
    have hvf := hpv
    rw [hc0, Nat.zero_mul, Nat.add_zero, take_dg_all (x := y) (k := k) two_D (by omega)] at hvf
    exact Yv (i + 1, _) ⟨by first | omega | (dsimp only <;> omega), hpl, hpa, fun j hj => hpz j (by dsimp only at hj; omega) (by dsimp only at hj; omega), by dsimp only; rw [hvf, val_take_succ, Nat.add_mul]⟩ (by first | omega | (dsimp only <;> omega)) K4 K4
 ·refine Yo <|Zt <|Zt <|Xr <|Za <|Zb <|Zd <|mv J J <|tt (Zg (n := 3) (Qr _ _) J J J K1 cF60 (Xe 3 J J pN Ze) J hw) J fun _ _ => Xj (s_tz 3 J J pN) <|Zl J J <|Zc <|Za <|Zq ?_
  obtain rfl : i = (dg 1000000000 x).length := by omega
  have hx : tz o = dg 1000000000 (x * y) := by
   rw [← dg_val two_D _ hoa, hv, take_dg_all two_D (Nat.le_refl _)]
  exact Zr (.inl J) hsc _ _ (fun a w hs => Yr hs Tryz.results96 J) J trivial J (Xs 3 J J pN (by rw [hx] <;> rfl) Zj)
theorem r_small (v : Value) (x n : Nat) (hx : bl x ≤ 4294967296) (hn : n < 1000000000) : Cal Tryz.prog 97 #[v, .int .i64 (n : Int)] [d9p v x] true (G := Value) (fun r => True) (fun r => r) (fun r => [d9p r (x * n)]) := by
 refine Ya Tryz.func97 J Tryz.ntmps97 J K1 ?_
 intro w0 sc hw hsc
 simp only [Zp, Zo]
 refine Zb <|Zd <|Zl J J <|Zc <|Za <|Zb <|Zb <|Zd <|mv J J <|dt (Xu J J J) J <|Zc <|Za <|Zn J (fun h112 => ?_) (fun h112 => ?_)
 ·exact Zb <|Zd <|Zl J J <|Zc <|Za <|Zq <|Yp <|Xz (Xy 9 1 3 encN) <|Zr (.inl J) hsc (.slice none 0 0) _ (fun a w hs => Yr hs Tryz.results97 J) J trivial J (Xs 9 J J pN (by rw [show n = 0 by omega, Nat.mul_zero] <;> rfl) Zj)
 ·have hn0 : n ≠ 0 := by omega
  exact Zk <|Za <|Zb <|Zd <|mv J J <|mv J J <|tt (Xm (i := 70) (ivs := [(0, _)]) (enc := encN) [n] J J J K2 uT37 Tryz.ti3 J J J J J J pN.cells J J hw) J fun v _ => Xj (s_oeq 70 (dg_digit two_D hn hn0).symm J J) <|tt (Zg (n := 2) (r_times _ _ _ n hx (by have := (bl_le 30 n).2 (by omega); omega)) J J J K2 cF96 (Zf 1 J J J (Xe 70 J J pN Ze)) J hw) J fun v_2 _ => Zl J J <|Zc <|Za <|Zq <|Zr (.inl J) hsc _ _ (fun a w hs => Yr hs Tryz.results97 J) J trivial J (Xw 2 J J J Zj)
theorem r_made (s : Bool) (v : Value) (n : Nat) (z : Int) (hn : n = z.natAbs) (hs : sg s z) (hb : bl n ≤ 4294967296) : Cal Tryz.prog 91 #[.bool s, v] [d9p v n] false (G := Unit) (fun _ => True) (fun _ => .agg #[.bool (decide (z < 0)), v]) (fun _ => []) := by
 refine Ya Tryz.func91 J Tryz.ntmps91 J K1 ?_
 intro w0 sc hw hsc
 simp only [Zp, Zo]
 have hl9 := len9_bl n
 refine Zb <|Zd <|tt (Zx (i := 2) J J J Tryz.zeroValue39 J J hw) J fun b _ => Zc <|Za <|Zb <|Zd <|mv J J <|mv J J <|Qp (d := 6) J (fun s143 => ?_) (fun s143 => ?_)
 ·exact Yj (Zv J J) J J J J <|Yj (Zy J J (i := 1) J Zi uT37) J J J J <|Yj (Xd J J J) J J J J <|dt (Ym J J J) J <|mv J J <|dt (Xx (ivs := [(0, _), (1, _)]) J K4 (fun a w hs => b39_01 ((Zh J) a w hs) ((Yb (i := 1) J Zi) a w hs))) J <|tt (Zu (i := 2) J J J J J (by decide) J zT39 J J ⟨(Zh J), (Yb (i := 1) J Zi), trivial⟩ J hw trivial) J fun _ _ => Zc <|Za <|Zq <|Zr (.inl J) hsc () _ (fun a w hs => Yr hs Tryz.results91 (Yl (i := 2) J J iA39 zT39 J)) (by rw [← made_b hn hs, ← len_pos9]; simp_all) trivial J Zj
 ·exact Yy J J J J J <|Yy J J J J J <|Yy J J J J J <|dt (Zs J J J) J <|mv J J <|dt (Xx (ivs := [(0, _), (1, _)]) J K4 (fun a w hs => b39_01 ((Zh J) a w hs) ((Yb (i := 1) J Zi) a w hs))) J <|tt (Zu (i := 2) J J J J J (by decide) J zT39 J J ⟨(Zh J), (Yb (i := 1) J Zi), trivial⟩ J hw trivial) J fun _ _ => Zc <|Za <|Zq <|Zr (.inl J) hsc () _ (fun a w hs => Yr hs Tryz.results91 (Yl (i := 2) J J iA39 zT39 J)) (by rw [← made_b hn hs, ← len_pos9]; simp_all) trivial J Zj
theorem r_neg (v : Value) (x : Int) (hx : bl x.natAbs ≤ 3000000000) : Cal Tryz.prog 41 #[.agg #[.bool (decide (x < 0)), v]] [d9p v x.natAbs] true (G := Value) (fun r => True) (fun r => .agg #[.bool (decide (-x < 0)), r]) (fun r => [d9p r (-x).natAbs]) := by
 refine Ya Tryz.func41 J Tryz.ntmps41 J K1 ?_
 intro w0 sc hw hsc
 simp only [Zp, Zo]
 exact Zb <|Zd <|tt (Yq (i := 2) J J J J J J hw) J fun b _ => tt (Zx (i := 3) J J J Tryz.zeroValue39 J J hw) J fun b_2 _ => Zc <|Za <|Zb <|Zd <|dt (Yk J J uT39 J zT4 J J) J <|dt (Xb (i := 2) J J J iA4 J) J <|dt (Xf J J) J <|dt (Yk J J uT39 J zT37 J J) J <|dt (Xb (i := 2) J J J iA37 J) J <|tt (Zg (n := 3) (r_made _ _ _ (-x) (Int.natAbs_neg x).symm (sg_neg (sg_dec x)) (by omega)) J J J K2 cF91 (Zf 1 J J J Ze) J hw) J fun _ _ => tt (Zu (i := 3) J J J J J (by decide) J zT39 J J ⟨(Zh J), (Yb (i := 1) J Zi), trivial⟩ J hw trivial) J fun _ _ => Zc <|Za <|Zq <|Zr (.inl J) hsc _ _ (fun a w hs => Yr hs Tryz.results41 (Yl (i := 3) J J iA39 zT39 J)) J trivial J (Yi 1 J J J (by rw [Int.natAbs_neg] <;> rfl) Zj)
theorem r_add (v w : Value) (x y : Int) (hx : bl x.natAbs ≤ 3000000000) (hy : bl y.natAbs ≤ 3000000000) : Cal Tryz.prog 42 #[.agg #[.bool (decide (x < 0)), v], .agg #[.bool (decide (y < 0)), w]] [d9p v x.natAbs, d9p w y.natAbs] true (G := Value) (fun r => True) (fun r => .agg #[.bool (decide (x + y < 0)), r]) (fun r => [d9p r (x + y).natAbs]) := by
 refine Ya Tryz.func42 J Tryz.ntmps42 J K2 ?_
 intro w0 sc hw hsc
 simp only [Zp, Zo]
 have hb := bl_iadd x y
 refine Zb <|Zd <|tt (Yq (i := 3) J J J J J J hw) J fun b _ => tt (Yq (i := 4) J J J J J J hw) J fun b_2 _ => tt (Zx (i := 5) J J J Tryz.zeroValue39 J J hw) J fun b_3 _ => Zc <|Za <|Zb <|Zb <|Zd <|dt (Yk J J uT39 J zT4 J J) J <|dt (Xb (i := 3) J J J iA4 J) J <|dt (Yk J J uT39 J zT4 J J) J <|dt (Xb (i := 4) J J J iA4 J) J <|dt (d_eqb J J J uT4) J <|Zc <|Za <|Qn J (fun h189 => ?_) (fun h189 => ?_)
 ·replace h189 := beq_dec h189
  refine Zb <|Xa (fun _ => False) [(0, 0), (1, 0), (2, 0), (3, 0), (4, 0), (5, 0), (6, 1), (7, 1), (8, 3)] (by kernel_rfl) ?_ ?_
  ·kernel_rfl
  exact r0' J J J J (st0 (Yk J J uT39 J zT4 J J)) <|r0' J J J J (st0 (Xb (i := 3) J J J iA4 J)) <|r0' J J J J (st0 (Yk J J uT39 J zT37 J J)) <|r0' J J J J (st0 (Xb (i := 3) J J J iA37 J)) <|r0' J J J J (st0 (Yk J J uT39 J zT37 J J)) <|r0' J J J J (st0 (Xb (i := 4) J J J iA37 J)) <|r1' J J (Zg (n := 6) (r_plus _ _ _ _ (by omega) (by omega)) J J J K2 cF92 (Zf 1 J J J (Zf 2 J J J Ze)) J hw) fun v _ => r1' J J (Zg (n := 6) (r_made _ _ _ (x + y) (abs_add1 (sg_dec x) (h189 ▸ sg_dec y)).symm (sg_add1 (sg_dec x) (h189 ▸ sg_dec y)) (by rw [← abs_add1 (sg_dec x) (h189 ▸ sg_dec y)]; omega)) J J J K2 cF91 (Zf 6 J J J Ze) J hw) fun _ _ => r3' J J (Zu (i := 5) J J J J J (by decide) J zT39 J J ⟨(Zh J), (Yb (i := 6) J Zi), trivial⟩ J hw trivial) fun _ _ => Xn <|Za <|Zq <|Yp <|Zr (.inl J) hsc _ _ (fun a w hs => Yr hs Tryz.results42 (Yl (i := 5) J J iA39 zT39 J)) J trivial J (Yi 6 J J J (by rw [abs_add1 (sg_dec x) (h189 ▸ sg_dec y)] <;> rfl) Zj)
 ·have hne : decide (x < 0) ≠ decide (y < 0) := by simpa using h189
  refine Zk <|Za <|Zb <|Zb <|Zd <|dt (Yk J J uT39 J zT37 J J) J <|dt (Xb (i := 3) J J J iA37 J) J <|dt (Yk J J uT39 J zT37 J J) J <|dt (Xb (i := 4) J J J iA37 J) J <|tt (Zg (n := 6) (r_order _ _ _ _ (by omega) (by omega)) J J J K2 cF93 (Zf 1 J J J (Zf 2 J J J Ze)) J hw) J fun _ _ => dt (Qb J J J) J <|Zc <|Za <|Zn J (fun h192 => ?_) (fun h192 => ?_)
  ·have hge : y.natAbs ≤ x.natAbs := cmpI_ge.1 h192
   refine Zb <|Xa (fun _ => False) [(0, 0), (1, 0), (2, 0), (3, 0), (4, 0), (5, 0), (6, 1), (7, 1), (8, 3)] (by kernel_rfl) ?_ ?_
   ·kernel_rfl
   exact r0' J J J J (st0 (Yk J J uT39 J zT4 J J)) <|r0' J J J J (st0 (Xb (i := 3) J J J iA4 J)) <|r0' J J J J (st0 (Yk J J uT39 J zT37 J J)) <|r0' J J J J (st0 (Xb (i := 3) J J J iA37 J)) <|r0' J J J J (st0 (Yk J J uT39 J zT37 J J)) <|r0' J J J J (st0 (Xb (i := 4) J J J iA37 J)) <|r1' J J (Zg (n := 7) (r_minus _ _ _ _ (by omega) hge) J J J K2 cF94 (Zf 1 J J J (Zf 2 J J J Ze)) J hw) fun v_2 _ => r1' J J (Zg (n := 7) (r_made _ _ _ (x + y) (abs_add2 (sg_dec x) (sg_dec y) hne hge).symm (sg_add2 (sg_dec x) (sg_dec y) hne hge) (by have := bl_mono (Nat.sub_le x.natAbs y.natAbs); omega)) J J J K2 cF91 (Zf 7 J J J Ze) J hw) fun _ _ => r3' J J (Zu (i := 5) J J J J J (by decide) J zT39 J J ⟨(Zh J), (Yb (i := 7) J Zi), trivial⟩ J hw trivial) fun _ _ => Xn <|Za <|Zq <|Yp <|Zr (.inl J) hsc _ _ (fun a w hs => Yr hs Tryz.results42 (Yl (i := 5) J J iA39 zT39 J)) J trivial J (Yi 7 J J J (by rw [abs_add2 (sg_dec x) (sg_dec y) hne hge] <;> rfl) Zj)
  ·have hge : x.natAbs ≤ y.natAbs := by have := mt cmpI_ge.2 h192; omega
   refine Zk <|Za <|Zb <|Xa (fun _ => False) [(0, 0), (1, 0), (2, 0), (3, 0), (4, 0), (5, 0), (6, 1), (7, 1), (8, 3)] (by kernel_rfl) ?_ ?_
   ·kernel_rfl
   exact r0' J J J J (st0 (Yk J J uT39 J zT4 J J)) <|r0' J J J J (st0 (Xb (i := 4) J J J iA4 J)) <|r0' J J J J (st0 (Yk J J uT39 J zT37 J J)) <|r0' J J J J (st0 (Xb (i := 4) J J J iA37 J)) <|r0' J J J J (st0 (Yk J J uT39 J zT37 J J)) <|r0' J J J J (st0 (Xb (i := 3) J J J iA37 J)) <|r1' J J (Zg (n := 8) (r_minus _ _ _ _ (by omega) hge) J J J K2 cF94 (Zf 2 J J J (Zf 1 J J J Ze)) J hw) fun v_3 _ => r1' J J (Zg (n := 8) (r_made _ _ _ (x + y) (by rw [Int.add_comm x]; exact (abs_add2 (sg_dec y) (sg_dec x) (Ne.symm hne) hge).symm) (by rw [Int.add_comm x]; exact sg_add2 (sg_dec y) (sg_dec x) (Ne.symm hne) hge) (by have := bl_mono (Nat.sub_le y.natAbs x.natAbs); omega)) J J J K2 cF91 (Zf 8 J J J Ze) J hw) fun _ _ => r3' J J (Zu (i := 5) J J J J J (by decide) J zT39 J J ⟨(Zh J), (Yb (i := 8) J Zi), trivial⟩ J hw trivial) fun _ _ => Xn <|Za <|Zq <|Zr (.inl J) hsc _ _ (fun a w hs => Yr hs Tryz.results42 (Yl (i := 5) J J iA39 zT39 J)) J trivial J (Yi 8 J J J (by rw [Int.add_comm x, abs_add2 (sg_dec y) (sg_dec x) (Ne.symm hne) hge] <;> rfl) Zj)
theorem r_sub (v w : Value) (x y : Int) (hx : bl x.natAbs ≤ 3000000000) (hy : bl y.natAbs ≤ 3000000000) : Cal Tryz.prog 95 #[.agg #[.bool (decide (x < 0)), v], .agg #[.bool (decide (y < 0)), w]] [d9p v x.natAbs, d9p w y.natAbs] true (G := Value) (fun r => True) (fun r => .agg #[.bool (decide (x - y < 0)), r]) (fun r => [d9p r (x - y).natAbs]) := by
 refine Ya Tryz.func95 J Tryz.ntmps95 J K2 ?_
 intro w0 sc hw hsc
 simp only [Zp, Zo]
 have hb := bl_isub x y
 have hn := bl_neg y
 refine Zb <|Zd <|tt (Yq (i := 3) J J J J J J hw) J fun b _ => tt (Yq (i := 4) J J J J J J hw) J fun b_2 _ => tt (Zx (i := 5) J J J Tryz.zeroValue39 J J hw) J fun b_3 _ => Zc <|Za <|Zb <|Xa (fun _ => False) [(0, 0), (1, 0), (2, 1), (3, 1), (4, 3)] (by kernel_rfl) ?_ ?_
 ·kernel_rfl
 exact r0' J J J J (st0 (Yc (i := 3) J J J iA39 zT39 J J)) <|r0' J J J J (st0 (Yc (i := 4) J J J iA39 zT39 J J)) <|r1' J J (Zg (n := 6) (r_neg _ _ (by omega)) J J J K1 cF41 (Zf 2 J J J Ze) J hw) fun v _ => r1' J J (Zg (n := 7) (r_add _ _ _ _ (by omega) (by omega)) J J J K2 cF42 (Zf 1 J J J (Zf 6 J J J Ze)) J hw) fun v_2 _ => r3' J J (Zu (i := 5) J J J J J (by decide) J zT39 J J ⟨(Zh J), (Yb (i := 7) J Zi), trivial⟩ J hw trivial) fun _ _ => Xn <|Za <|Zq <|Zr (.inl J) hsc _ _ (fun a w hs => Yr hs Tryz.results95 (Yl (i := 5) J J iA39 zT39 J)) (by rw [Int.sub_eq_add_neg] <;> rfl) trivial J (Yi 7 J J J (by rw [Int.sub_eq_add_neg] <;> rfl) Zj)
theorem r_mul (v w : Value) (x y : Int) (hx : bl x.natAbs ≤ 1000000000) (hy : bl y.natAbs ≤ 1000000000) : Cal Tryz.prog 44 #[.agg #[.bool (decide (x < 0)), v], .agg #[.bool (decide (y < 0)), w]] [d9p v x.natAbs, d9p w y.natAbs] true (G := Value) (fun r => True) (fun r => .agg #[.bool (decide (x * y < 0)), r]) (fun r => [d9p r (x * y).natAbs]) := by
 refine Ya Tryz.func44 J Tryz.ntmps44 J K2 ?_
 intro w0 sc hw hsc
 simp only [Zp, Zo]
 have hb := bl_imul x y
 refine Zb <|Zd <|tt (Yq (i := 3) J J J J J J hw) J fun b _ => tt (Yq (i := 4) J J J J J J hw) J fun b_2 _ => tt (Zx (i := 5) J J J Tryz.zeroValue39 J J hw) J fun b_3 _ => Zc <|Za <|Zb <|Xa (fun _ => False) [(0, 0), (1, 0), (2, 0), (3, 0), (4, 0), (5, 0), (6, 0), (7, 0), (8, 0), (9, 1), (10, 1), (11, 3)] (by kernel_rfl) ?_ ?_
 ·kernel_rfl
 exact r0' J J J J (st0 (Yk J J uT39 J zT4 J J)) <|r0' J J J J (st0 (Xb (i := 3) J J J iA4 J)) <|r0' J J J J (st0 (Yk J J uT39 J zT4 J J)) <|r0' J J J J (st0 (Xb (i := 4) J J J iA4 J)) <|r0' J J J J (st0 (d_neb J J J uT4)) <|r0' J J J J (st0 (Yk J J uT39 J zT37 J J)) <|r0' J J J J (st0 (Xb (i := 3) J J J iA37 J)) <|r0' J J J J (st0 (Yk J J uT39 J zT37 J J)) <|r0' J J J J (st0 (Xb (i := 4) J J J iA37 J)) <|r1' J J (Zg (n := 6) (r_times _ _ _ _ (by omega) (by omega)) J J J K2 cF96 (Zf 1 J J J (Zf 2 J J J Ze)) J hw) fun v _ => r1' J J (Zg (n := 6) (r_made _ _ _ (x * y) (Int.natAbs_mul x y).symm (sg_mul (sg_dec x) (sg_dec y)) (by rw [← Int.natAbs_mul]; omega)) J J J K2 cF91 (Zf 6 J J J Ze) J hw) fun _ _ => r3' J J (Zu (i := 5) J J J J J (by decide) J zT39 J J ⟨(Zh J), (Yb (i := 6) J Zi), trivial⟩ J hw trivial) fun _ _ => Xn <|Za <|Zq <|Zr (.inl J) hsc _ _ (fun a w hs => Yr hs Tryz.results44 (Yl (i := 5) J J iA39 zT39 J)) J trivial J (Yi 6 J J J (by rw [Int.natAbs_mul] <;> rfl) Zj)
theorem r_sign (v : Value) (x : Int) (hx : bl x.natAbs ≤ 3000000000) : Cal Tryz.prog 61 #[.agg #[.bool (decide (x < 0)), v]] [d9p v x.natAbs] false (G := Unit) (fun _ => True) (fun _ => .int .i64 x.sign) (fun _ => []) := by
 refine Ya Tryz.func61 J Tryz.ntmps61 J K1 ?_
 intro w0 sc hw hsc
 simp only [Zp, Zo]
 have hl9 := len9_bl x.natAbs
 refine Zb <|Zd <|tt (Yq (i := 2) J J J J J J hw) J fun b _ => Zl J J <|Zc <|Za <|Zb <|Zb <|Zd <|dt (Yk J J uT39 J zT37 J J) J <|dt (Xb (i := 2) J J J iA37 J) J <|dt (Zy J J (i := 1) J Zi uT37) J <|dt (Xu J J J) J <|Zc <|Za <|Zn J (fun h206 => ?_) (fun h206 => ?_)
 ·exact Zb <|Zd <|Zl J J <|Zc <|Za <|Zq <|Yp <|Zr (.inl J) hsc () _ (fun a w hs => Yr hs Tryz.results61 J) (sign9 h206) trivial J Zj
 ·refine Zk <|Za <|Zb <|Zb <|Zd <|dt (Yk J J uT39 J zT4 J J) J <|dt (Xb (i := 2) J J J iA4 J) J <|Zc <|Za <|Qn J (fun h209 => ?_) (fun h209 => ?_)
  ·exact Zb <|Zd <|Zl J J <|Zc <|Za <|Zq <|Yp <|Zr (.inl J) hsc () _ (fun a w hs => Yr hs Tryz.results61 J) (by rw [Int.sign_eq_neg_one_of_neg (by simpa using h209)]) trivial J Zj
  ·exact Zk <|Za <|Zb <|Zd <|Zl J J <|Zc <|Za <|Zq <|Zr (.inl J) hsc () _ (fun a w hs => Yr hs Tryz.results61 J) (by have h3 := len9_pos h206; have h4 : ¬ x < 0 := (by simpa using h209); rw [Int.sign_eq_one_of_pos (by omega)]) trivial J Zj
theorem r_compare (v w : Value) (x y : Int) (hx : bl x.natAbs ≤ 2000000000) (hy : bl y.natAbs ≤ 2000000000) : Cal Tryz.prog 62 #[.agg #[.bool (decide (x < 0)), v], .agg #[.bool (decide (y < 0)), w]] [d9p v x.natAbs, d9p w y.natAbs] false (G := Unit) (fun _ => True) (fun _ => .int .i64 (x - y).sign) (fun _ => []) := by
 refine Ya Tryz.func62 J Tryz.ntmps62 J K2 ?_
 intro w0 sc hw hsc
 simp only [Zp, Zo]
 have hb := bl_isub x y
 exact Zb <|Zd <|tt (Yq (i := 3) J J J J J J hw) J fun b _ => tt (Yq (i := 4) J J J J J J hw) J fun b_2 _ => Zl J J <|Zc <|Za <|Zb <|Zd <|dt (Yc (i := 3) J J J iA39 zT39 J J) J <|dt (Yc (i := 4) J J J iA39 zT39 J J) J <|tt (Zg (n := 5) (r_sub _ _ _ _ (by omega) (by omega)) J J J K2 cF95 (Zf 1 J J J (Zf 2 J J J Ze)) J hw) J fun v _ => tt (Zg (n := 5) (r_sign _ _ (by omega)) J J J K1 cF61 (Zf 5 J J J Ze) J hw) J fun _ _ => Zl J J <|Zc <|Za <|Zq <|Zr (.inl J) hsc () _ (fun a w hs => Yr hs Tryz.results62 J) J trivial J Zj
theorem r_num (x : Int) (hx : inI x) : Cal Tryz.prog 43 #[.int .i64 x] [] true (G := Value) (fun r => True) (fun r => .agg #[.bool (decide (x < 0)), r]) (fun r => [d9p r (x).natAbs]) := by
 refine Ya Tryz.func43 J Tryz.ntmps43 J trivial ?_
 intro w0 sc hw hsc
 simp only [Zp, Zo]
 have hxa := hx.1
 have hxb := hx.2
 refine Yh (Xy 60 1 3 encN) <|Yh (Xk 60 J J pN) <|Zb <|Zd <|tt (Zx (i := 1) J J J Tryz.zeroValue39 J J hw) J fun b _ => Zc <|Za <|Zb <|Zb <|Zd <|mv J J <|dt (Qb J J J) J <|Zc <|Za <|Zn J (fun h147 => ?_) (fun h147 => ?_)
 ·obtain ⟨m, rfl⟩ : ∃ m : Nat, x = (m : Int) := ⟨x.natAbs, by omega⟩
  have hbm : bl m ≤ 64 := (bl_le 64 m).2 (by omega)
  exact Zb <|Zd <|mv J J <|dt (n_rem (n := 1000000000) J J J (by omega)) J <|mv J J <|dt (n_quo (n := 1000000000) J J J (by omega) (by omega)) J <|dt (n_rem (n := 1000000000) J J J (by omega)) J <|mv J J <|dt (n_quo (n := 1000000000) J J J (by omega) (by omega)) J <|dt (n_quo (n := 1000000000) J J J (by omega) (by omega)) J <|tt (Xm (i := 70) (ivs := [(0, _), (1, _), (2, _)]) (enc := encN) [m % 1000000000, m / 1000000000 % 1000000000, m / 1000000000 / 1000000000] J J J K6 uT37 Tryz.ti3 J J J J J J pN.cells J J hw) J fun v _ => tt (Zg (n := 1) (Qr _ _) J J J K1 cF60 (Xe 70 J J pN Ze) J hw) J fun _ _ => Xj (s_tz 70 J J pN) <|Xj (s_oeq 70 (tz_three (by omega)) J J) <|tt (Zg (n := 1) (r_made _ _ _ ((m : Int)) (by omega) (by simp [sg]) (by omega)) J J J K2 cF91 (Xe 70 J J pN Ze) J hw) J fun _ _ => tt (Zu (i := 1) J J J J J (by decide) J zT39 J J ⟨(Zh J), (Yb (i := 70) J (Ye pN)), trivial⟩ J hw trivial) J fun _ _ => Zc <|Za <|Zq <|Yp <|Zr (.inl J) hsc _ _ (fun a w hs => Yr hs Tryz.results43 (Yl (i := 1) J J iA39 zT39 J)) J trivial J (Xs 70 J J pN (by rw [Int.natAbs_natCast] <;> rfl) Zj)
 ·obtain ⟨m, rfl⟩ : ∃ m : Nat, x = -(m : Int) := ⟨x.natAbs, by omega⟩
  have hbm : bl m ≤ 64 := (bl_le 64 m).2 (by omega)
  refine Zk <|Za <|Zb <|Zd <|mv J J <|dt (nn_rem (n := 1000000000) J J J (by omega)) J <|dt (n_neg J J (by omega)) J <|mv J J <|dt (nn_quo (n := 1000000000) J J J (by omega) (by omega)) J <|dt (nn_rem (n := 1000000000) J J J (by omega)) J <|dt (n_neg J J (by omega)) J <|mv J J <|dt (nn_quo (n := 1000000000) J J J (by omega) (by omega)) J <|dt (nn_quo (n := 1000000000) J J J (by omega) (by omega)) J <|dt (n_neg J J (by omega)) J <|tt (Xm (i := 70) (ivs := [(0, _), (1, _), (2, _)]) (enc := encN) [m % 1000000000, m / 1000000000 % 1000000000, m / 1000000000 / 1000000000] J J J K6 uT37 Tryz.ti3 J J J J J J pN.cells J J hw) J fun v_2 _ => tt (Zg (n := 1) (Qr _ _) J J J K1 cF60 (Xe 70 J J pN Ze) J hw) J fun _ _ => Xj (s_tz 70 J J pN) <|Xj (s_oeq 70 (tz_three (by omega)) J J) <|Xj (s_oeq 70 (ys := dg 1000000000 (-(m : Int)).natAbs) (by rw [Int.natAbs_neg, Int.natAbs_natCast]) J J) <|Xj (Xk 70 J J pN) <|tt (Zg (n := 1) (r_made _ _ _ ((-(m : Int))) J (by simp [sg]) (by rw [Int.natAbs_neg, Int.natAbs_natCast]; omega)) J J J K2 cF91 (Zf 70 J J J Ze) J hw) J fun _ _ => dt (Xx (ivs := []) J trivial (fun a w hs => b39_)) J ?_
  exact tt (Zg (n := 2) (r_sub _ _ (-(m : Int)) 0 (by rw [Int.natAbs_neg, Int.natAbs_natCast]; omega) (by decide)) J J J K2 cF95 (Zf 70 J J J (Zf 60 J J J Ze)) J hw) J fun v_3 _ => tt (Zu (i := 1) J J J J J (by decide) J zT39 J J ⟨(Zh J), (Yb (i := 2) J Zi), trivial⟩ J hw trivial) J fun _ _ => Zc <|Za <|Zq <|Zr (.inl J) hsc _ _ (fun a w hs => Yr hs Tryz.results43 (Yl (i := 1) J J iA39 zT39 J)) (by rw [Int.sub_zero] <;> rfl) trivial J (Yi 2 J J J (by rw [Int.sub_zero] <;> rfl) Zj)
theorem r_from (x : Int) (hx : bl x.natAbs ≤ 2000000000) : Cal Tryz.prog 49 #[wv x] [] true (G := Value) (fun r => True) (fun r => .agg #[.bool (decide (x < 0)), r]) (fun r => [d9p r (x).natAbs]) := by
 refine Ya Tryz.func49 J Tryz.ntmps49 J trivial ?_
 intro w0 sc hw hsc
 simp only [Zp, Zo]
 obtain ⟨n, hn⟩ : ∃ n, n = x.natAbs := ⟨_, rfl⟩
 have hl8 := len256 n
 have hxn : bl n ≤ 2000000000 := by rw [hn]; exact hx
 have hsz : (bstr x.natAbs).size = (dg 256 n).length := by rw [← hn]; exact bstr_size n
 refine Zb <|Zd <|tt (Yq (i := 1) J J J J J J hw) J fun b _ => tt (Zx (i := 2) J J J Tryz.zeroValue39 J J hw) J fun b_2 _ => Zc <|Za <|Zb <|Zd <|Zl J J <|Zc <|Za <|Zb <|Zb <|Zd <|Zl J J <|Zc <|Za <|Zm <|Yh (Xy 70 1 3 encN) <|Yh (Xk 70 J J pN) <|Xv [(1, _), (2, _)] [(0, _), (1, _), (2, _)] (fun (q : Nat × Value) => [(4, .int .i64 (q.1 : Int)), (3, q.2)]) (fun (q : Nat × Value) => [(70, d9p q.2 (n / 256 ^ ((dg 256 n).length - q.1)))]) (fun (q : Nat × Value) => (q.1 ≤ (dg 256 n).length)) (fun (q : Nat × Value) => (dg 256 n).length - q.1) (0, .slice none 0 0) (by first | omega | (dsimp only <;> omega)) K4 ⟨by rw [from_zero]; rfl, rfl, rfl, rfl, trivial⟩ ?_
 rintro ⟨i, vd⟩ hi
 dsimp only at hi
 simp only [List.cons_append, List.nil_append]
 have hnb : bl (n / 256 ^ ((dg 256 n).length - i)) ≤ bl n := bl_mono (Nat.div_le_self _ _)
 refine Zb <|Zb <|Zd <|mv J J <|dt (Yk J J uT28 J zT9 J J) J <|dt (Xb (i := 1) J J J iA9 J) J <|dt (Qc J J uT9) J <|dt (Yw J J J) J <|Zc <|Za <|Zn J (fun h157 => ?_) (fun h157 => ?_)
 ·have hby : ((bstr x.natAbs).data.toList.getD i 0).toNat = n / 256 ^ ((dg 256 n).length - 1 - i) % 256 := by rw [← hn]; exact bstr_get n i (by omega)
  refine Zk <|Za <|Zb <|Zm <|e_drega (fun _ => False) [10] (by kernel_rfl) <|Yu (n := 5) [(0, 0), (2, 0), (3, 0), (4, 0), (5, 0), (6, 0)] (by kernel_rfl) <|r0' J J J J (st0 (Zv J J)) <|r0' J J J J (st0 (Yk J J uT28 J zT9 J J)) <|r0' J J J J (st0 (Xb (i := 1) J J J iA9 J)) <|r0' J J J J (st0 (Zv J J)) <|r0' J J J J (st0 (d_ixs (i := i) J J J uT9 J (by omega))) <|r0' J J J J (st0 (cv_i64 J J uT5 uT3 ⟨by omega, by rw [hby]; omega⟩)) <|Xh <|Ql (n := 4) 1 7 (by kernel_rfl) ?_ ?_
  ·exact Xi J J (Zg (n := 73) (r_small _ _ 256 (by omega) (by omega)) J J J K2 cF97 (Zf 70 J J J Ze) J hw) fun v _ => Yu (n := 2) [(7, 1), (8, 1)] (by kernel_rfl) <|r1' J J (Xm (i := 72) (ivs := [(0, _)]) (enc := encN) [((bstr x.natAbs).data.toList.getD i 0).toNat] J J J K2 uT37 Tryz.ti3 J J J J J J pN.cells J J hw) fun v_2 _ => r1' J J (Zg (n := 2) (Qr _ _) J J J K1 cF60 (Xe 72 J J pN Ze) J hw) fun _ _ => Xh <|a_imp (s_tz 72 J J pN) <|a_imp (s_oeq 72 (tz_one two_D (by rw [hby]; omega)) J J) <|Yu (n := 0) [(9, 1), (10, 3)] (by kernel_rfl) <|r1' J J (Zg (n := 74) (r_plus _ _ _ _ (by have := bl_small (y := (n / 256 ^ ((dg 256 n).length - i))) (n := 256) (by omega); omega) (by rw [hby]; exact Nat.le_trans (bl_mod8 _) (by omega))) J J J K2 cF92 (Zf 73 J J J (Xe 72 J J pN Ze)) J hw) fun v_3 _ => r3' J J (Qa (Qf J J) J J) fun _ _ => Xh <|Xg (by kernel_rfl) <|Xl <|Za <|Zd <|mv J J <|dt (Yg J J J ⟨by omega, by omega⟩) J <|Zl J J <|Zc <|Xz (s_dup 74 70 J J J) <|Yv (i + 1, _) (by first | omega | (dsimp only <;> omega)) (by first | omega | (dsimp only <;> omega)) K4 ⟨by rw [hby, from_step (by omega)]; rfl, rfl, rfl, rfl, trivial⟩
  ·exact Xi J J (Xm (i := 72) (ivs := [(0, _)]) (enc := encN) [((bstr x.natAbs).data.toList.getD i 0).toNat] J J J K2 uT37 Tryz.ti3 J J J J J J pN.cells J J hw) fun v_4 _ => Yu (n := 2) [(1, 1), (8, 1)] (by kernel_rfl) <|r1' J J (Zg (n := 73) (r_small _ _ 256 (by omega) (by omega)) J J J K2 cF97 (Zf 70 J J J Ze) J hw) fun v_5 _ => r1' J J (Zg (n := 2) (Qr _ _) J J J K1 cF60 (Xe 72 J J pN Ze) J hw) fun _ _ => Xh <|a_imp (s_tz 72 J J pN) <|a_imp (s_oeq 72 (tz_one two_D (by rw [hby]; omega)) J J) <|Yu (n := 0) [(9, 1), (10, 3)] (by kernel_rfl) <|r1' J J (Zg (n := 74) (r_plus _ _ _ _ (by have := bl_small (y := (n / 256 ^ ((dg 256 n).length - i))) (n := 256) (by omega); omega) (by rw [hby]; exact Nat.le_trans (bl_mod8 _) (by omega))) J J J K2 cF92 (Zf 73 J J J (Xe 72 J J pN Ze)) J hw) fun v_6 _ => r3' J J (Qa (Qf J J) J J) fun _ _ => Xh <|Xg (by kernel_rfl) <|Xl <|Za <|Zd <|mv J J <|dt (Yg J J J ⟨by omega, by omega⟩) J <|Zl J J <|Zc <|Xz (s_dup 74 70 J J J) <|Yv (i + 1, _) (by first | omega | (dsimp only <;> omega)) (by first | omega | (dsimp only <;> omega)) K4 ⟨by rw [hby, from_step (by omega)]; rfl, rfl, rfl, rfl, trivial⟩
 ·refine Yo <|Zt <|Zt <|Xr <|Za <|Zb ?_
  obtain rfl : i = (dg 256 n).length := by omega
  rw [Nat.sub_self, Nat.pow_zero, Nat.div_one]
  exact Zd <|dt (Yk J J uT28 J zT4 J J) J <|dt (Xb (i := 1) J J J iA4 J) J <|mv J J <|tt (Zg (n := 2) (r_made _ _ _ (x) hn (sg_dec x) (by rw [hn]; omega)) J J J K2 cF91 (Zf 70 J J J Ze) J hw) J fun _ _ => tt (Zu (i := 2) J J J J J (by decide) J zT39 J J ⟨(Zh J), (Yb (i := 70) J Zi), trivial⟩ J hw trivial) J fun _ _ => Zc <|Za <|Zq <|Zr (.inl J) hsc _ _ (fun a w hs => Yr hs Tryz.results49 (Yl (i := 2) J J iA39 zT39 J)) J trivial J (Yi 70 J J J (by rw [hn] <;> rfl) Zj)
set_option maxHeartbeats 4000000 in
theorem r_to (v : Value) (x : Int) (hx : bl x.natAbs ≤ 4000000000) : Cal Tryz.prog 17 #[.agg #[.bool (decide (x < 0)), v]] [d9p v x.natAbs] false (G := Unit) (fun _ => True) (fun _ => wv x) (fun _ => []) := by
 refine Ya Tryz.func17 J Tryz.ntmps17 J K1 ?_
 intro w0 sc hw hsc
 simp only [Zp, Zo]
 obtain ⟨n, hn⟩ : ∃ n, n = x.natAbs := ⟨_, rfl⟩
 have hxn : bl n ≤ 4000000000 := by rw [hn]; exact hx
 have hlx := len9_bl x.natAbs
 refine Zb <|Zd <|tt (Yq (i := 2) J J J J J J hw) J fun b _ => tt (Zx (i := 3) J J J Tryz.zeroValue28 J J hw) J fun b_2 _ => Zc <|Za <|Zb <|Zd <|Zl J J <|Zc <|Za <|Zb <|Zd <|dt (Yk J J uT39 J zT37 J J) J <|dt (Xb (i := 2) J J J iA37 J) J <|Xj (Xy 81 1 3 encN) <|tt (t_appa (i := 81) (j := 1) (by_ := 8) J J J J J J (by decide) J Zi uT37 Tryz.ti3 J pN J J J (by simp; omega) (by decide) J hw) J fun v _ => Zl J J <|Zc <|Za <|Zb <|Zm <|Yh (Xy 80 1 5 encB) <|Xv [(1, _), (2, _)] [(0, _), (1, _), (2, _), (3, _)] (fun (q : Nat × List Nat × Value × Value) => [(3, q.2.2.1), (4, q.2.2.2)]) (fun (q : Nat × List Nat × Value × Value) => [(80, osl 1 5 encB q.2.2.1 q.2.1), (81, osl 1 3 encN q.2.2.2 (dg 1000000000 q.1))]) (fun (q : Nat × List Nat × Value × Value) => (val 256 q.2.1 + 256 ^ q.2.1.length * q.1 = n) ∧ (∀ d ∈ q.2.1, d < 256) ∧ (q.2.1.length = 0 ∨ 256 ^ (q.2.1.length - 1) ≤ n) ∧ (bl q.1 ≤ bl n)) (fun (q : Nat × List Nat × Value × Value) => q.1) (n, [], .slice none 0 0, _) ⟨by simp [val], by simp, .inl rfl, Nat.le_refl _⟩ K4 ⟨J, by rw [hn]; rfl, rfl, rfl, rfl, rfl, trivial⟩ ?_
 rintro ⟨m, bs, vb, vd⟩ ⟨hv, hba, hge, hmn⟩
 dsimp only at hv hba hge hmn
 simp only [List.cons_append, List.nil_append]
 have hlm := len9_bl m
 refine Zb <|Zb <|Zd <|mv J J <|dt (Zy J J (i := 81) J (Ye pN) uT37) J <|dt (Xd J J J) J <|Zc <|Za <|Zn J (fun h167 => ?_) (fun h167 => ?_)
 ·have hm0 : 0 < m := len9_pos (by omega)
  have hgn := to_ge hv hm0
  have hbl := to_len hgn
  refine Zk <|Za <|Zm <|Zb <|Zd <|Zl J J <|Zc <|Za <|Zb <|Zb <|Zd <|mv J J <|dt (Zy J J (i := 81) J (Ye pN) uT37) J <|dt (Xc J J J ⟨by omega, by omega⟩) J <|Zl J J <|Zc <|Za <|Zm <|Xv [(1, _), (2, _), (3, _), (4, _)] [(0, _), (80, _), (1, _), (2, _), (3, _)] (fun (q : Nat × List Nat × Nat) => [(6, .int .i64 ((q.1 : Int) - 1)), (5, .int .i64 (q.2.2 : Int))]) (fun (q : Nat × List Nat × Nat) => [(81, osl 1 3 encN vd q.2.1)]) (fun (q : Nat × List Nat × Nat) => (q.1 ≤ (dg 1000000000 m).length) ∧ (q.2.1.length = (dg 1000000000 m).length) ∧ (∀ d ∈ q.2.1, d < 1000000000) ∧ (∀ j, j < q.1 → q.2.1.getD j 0 = (dg 1000000000 m).getD j 0) ∧ (q.2.2 < 256) ∧ (val 1000000000 (q.2.1.drop q.1) * 256 + q.2.2 = val 1000000000 ((dg 1000000000 m).drop q.1))) (fun (q : Nat × List Nat × Nat) => q.1) ((dg 1000000000 m).length, dg 1000000000 m, 0) ⟨Nat.le_refl _, J, dg_lt two_D m, fun j _ => J, by first | omega | (dsimp only <;> omega), by simp [List.drop_length, val]⟩ K6 K6 ?_
  rintro ⟨k, p, r⟩ ⟨hk, hpl, hpa, hpk, hr, hpv⟩
  dsimp only at hk hpl hpa hpk hr hpv
  simp only [List.cons_append, List.nil_append]
  have hda := getD_lt D_pos (dg_lt two_D m) (k - 1)
  refine Zb <|Zb <|Zd <|mv J J <|dt (Qb J J J) J <|Zc <|Za <|Zn J (fun h169 => ?_) (fun h169 => ?_)
  ·refine Zk <|Za <|Zb <|Zm <|Zb <|Zd <|mv J J <|dt (n_mul (n := 1000000000) J J J (by omega)) J <|mv J J <|mv J J <|dt (Yf (ii := 81) (i := (k - 1)) J J J J (Ye pN) uT37 zT3 (by omega) (by omega)) J <|dt (Yn (ii := 81) 0 J J J (Ye pN) pN (by omega)) J <|dt (n_add J J J (by have := getD_lt D_pos hpa (k - 1); omega)) J <|Zl J J <|Zc <|Za <|Zb <|Zd <|mv J J <|mv J J <|mv J J <|dt (n_quo (n := 256) J J J (by have := getD_lt D_pos hpa (k - 1); omega) (by omega)) J <|dt (Yf (ii := 81) (i := (k - 1)) J J J J (Ye pN) uT37 zT3 (by omega) (by omega)) J <|tt (Qo (i := 81) (enc := encN) _ J J J J J J (by decide) pN (by omega) J hw) J fun _ _ => Zc <|Za <|Zd <|mv J J <|dt (n_rem (n := 256) J J J (by omega)) J <|Zl J J <|Zc <|Xl <|Za <|Zd <|mv J J <|dt (Xc J J J ⟨by omega, by omega⟩) J <|Zl J J <|Zc ?_
   exact Yv (k - 1, _, _) ⟨by first | omega | (dsimp only <;> omega), by simp [hpl], all_set hpa _ _ (to_digit hr (getD_lt D_pos hpa _)), fun j hj => by dsimp only at hj ⊢; rw [getD_set _ _ _ _ _ (by omega), if_neg (by omega)]; exact hpk j (by omega), Nat.mod_lt _ (by omega), by dsimp only; rw [hpk (k - 1) (by omega)]; exact to_step (by omega) (by omega) (by omega) hpv⟩ (by first | omega | (dsimp only <;> omega)) ⟨by rw [show (((k - 1 : Nat) : Int) - 1) = (k : Int) - 1 - 1 by omega]; rfl, rfl, rfl, rfl, rfl, rfl, trivial⟩ K6
  ·refine Yo <|Zt <|Zt <|Xr <|Za <|Zb ?_
   obtain rfl : k = 0 := by omega
   rw [List.drop_zero, List.drop_zero, val_dg two_D] at hpv
   have hmr : m % 256 = r % 256 := by omega
   have hdm : dg 1000000000 (m / 256) = tz p := by rw [← dg_val two_D p hpa]; congr 1; omega
   exact Zd <|mv J J <|mv J J <|dt (cv_u8 J J uT3 uT5) J <|tt (Xm (i := 4) (ivs := [(0, _)]) (enc := encB) [r % 256] J J J K2 uT26 Tryz.ti5 J J J J J J pB.cells J J hw) J fun v_2 _ => tt (t_appa (i := 80) (j := 4) (by_ := 1) J J J J J J (by decide) J (Ye pB) uT26 Tryz.ti5 J pB J J J (by simp; omega) (by decide) J hw) J fun v_3 _ => Zl J J <|Zc <|Za <|Zd <|mv J J <|tt (Zg (n := 4) (Qr _ _) J J J K1 cF60 (Xe 81 J J pN Ze) J hw) J fun _ _ => Xj (s_tz 81 J J pN) <|Zl J J <|Zc <|Xl <|Yv (m / 256, bs ++ [m % 256], _, _) ⟨to_push hv, all_snoc hba (Nat.mod_lt _ (by omega)), .inr (by simpa using hgn), Nat.le_trans (bl_mono (Nat.div_le_self _ _)) hmn⟩ (Nat.div_lt_self hm0 (by omega)) K4 ⟨by rw [hmr] ; rfl, by rw [hdm]; rfl, rfl, rfl, rfl, rfl, trivial⟩
 ·have hm0 : m = 0 := (dg_nil_iff two_D m).1 (by omega)
  have hbs : bs = dg 256 n := tz_full (by omega) hba (by rw [hm0, Nat.mul_zero, Nat.add_zero] at hv; exact hv) hge
  have hlb : bs.length ≤ 4000000000 := by rw [hbs, len256]; omega
  refine Yo <|Zt <|Zt <|Xr <|Za <|Zb <|Zd <|Zl J J <|Zc <|Za <|Zb <|Zb <|Zd <|mv J J <|dt (Zy J J (i := 80) J (Ye pB) uT26) J <|dt (Xc J J J ⟨by omega, by omega⟩) J <|Zl J J <|Zc <|Za <|Zm <|Yh (Xy 82 1 5 encB) <|Xv [(1, _), (2, _), (3, _)] [(0, _), (80, _), (81, _), (1, _), (2, _), (3, _)] (fun (q : Nat × Value) => [(8, .int .i64 ((q.1 : Int) - 1)), (7, q.2)]) (fun (q : Nat × Value) => [(82, osl 1 5 encB q.2 (bs.drop q.1).reverse)]) (fun (q : Nat × Value) => (q.1 ≤ bs.length)) (fun (q : Nat × Value) => q.1) (bs.length, .slice none 0 0) (Nat.le_refl _) K5 ⟨by rw [List.drop_length]; rfl, rfl, rfl, rfl, rfl, rfl, rfl, trivial⟩ ?_
  rintro ⟨k, vo⟩ hk
  dsimp only at hk
  simp only [List.cons_append, List.nil_append]
  have hdl : (bs.drop k).length = bs.length - k := List.length_drop
  refine Zb <|Zb <|Zd <|mv J J <|dt (Qb J J J) J <|Zc <|Za <|Zn J (fun h178 => ?_) (fun h178 => ?_)
  ·exact Zk <|Za <|Zb <|Zm <|Zd <|mv J J <|mv J J <|mv J J <|dt (Yf (ii := 80) (i := (k - 1)) J J J J (Ye pB) uT26 zT5 (by omega) (by omega)) J <|dt (Yn (ii := 80) 0 J J J (Ye pB) pB (by omega)) J <|tt (Xm (i := 5) (ivs := [(0, _)]) (enc := encB) [bs.getD (k - 1) 0] J J J K2 uT26 Tryz.ti5 J J J J J J pB.cells J J hw) J fun v_4 _ => tt (t_appa (i := 82) (j := 5) (by_ := 1) J J J J J J (by decide) J (Ye pB) uT26 Tryz.ti5 J pB J J J (by simp; omega) (by decide) J hw) J fun v_5 _ => Zl J J <|Zc <|Xl <|Za <|Zd <|mv J J <|dt (Xc J J J ⟨by omega, by omega⟩) J <|Zl J J <|Zc <|Yv (k - 1, _) (by first | omega | (dsimp only <;> omega)) (by first | omega | (dsimp only <;> omega)) ⟨by rw [show (((k - 1 : Nat) : Int) - 1) = (k : Int) - 1 - 1 by omega]; rfl, rfl, rfl, rfl, rfl, trivial⟩ ⟨by rw [← drop_rev (by omega) hk]; rfl, rfl, rfl, rfl, rfl, rfl, rfl, trivial⟩
  ·refine Yo <|Zt <|Zt <|Xr <|Za <|Zb <|Zd <|dt (Yk J J uT39 J zT4 J J) J <|dt (Xb (i := 2) J J J iA4 J) J <|mv J J <|dt (d_b2s J J (i := 82) J (Ye pB) uT26 uT9 uT5) J <|dt (Xx (ivs := [(0, _), (1, _)]) J K4 (fun a w hs => b28_01 ((Zh J) a w hs) ((Zh J) a w hs))) J <|tt (Zu (i := 3) J J J J J (by decide) J zT28 J J ⟨(Zh J), (Zh J), trivial⟩ J hw trivial) J fun _ _ => Zc <|Za <|Zq ?_
   obtain rfl : k = 0 := by omega
   exact Zr (.inl J) hsc () _ (fun a w hs => Yr hs Tryz.results17 (Yl (i := 3) J J iA28 zT28 J)) (by rw [bstr_bs hbs, hn] <;> rfl) trivial J Zj
theorem Qm (b : Bool) (s : ByteArray) (c : Bool) (t : ByteArray) : Cal Tryz.prog 45 #[.agg #[.bool b, .string s, .bool c, .string t]] [] false (G := Unit) (fun _ => True) (fun _ => .bool (okR b s c t)) (fun _ => []) := by
 refine Ya Tryz.func45 J Tryz.ntmps45 J trivial ?_
 intro w0 sc hw hsc
 simp only [Zp, Zo]
 refine Zb <|Zd <|tt (Yq (i := 1) J J J J J J hw) J fun b _ => Zl J J <|Zc <|Za <|Zb <|Zd <|dt (Yk J J uT49 J zT28 J J) J <|dt (Yc (i := 1) J J J iA28 zT28 J J) J <|tt (Zg (n := 1) (r_valid _ _) J J J K1 cF48 Ze J hw) J fun _ _ => mv J J <|Qp (d := 6) J (fun s332 => ?_) (fun s332 => ?_)
 ·refine Yj (Yk J J uT49 J zT28 J J) J J J J <|Yj (Yc (i := 1) J J J iA28 zT28 J J) J J J J <|gtt (Zg (n := 1) (r_valid _ _) J J J K1 cF48 Ze J hw) J J J J fun _ _ => dt (Ym J J J) J <|mv J J <|Qp (d := 11) J (fun s332_2 => ?_) (fun s332_2 => ?_)
  ·refine Yj (Yk J J uT49 J zT28 J J) J J J J <|Yj (Yk J J uT28 J zT4 J J) J J J J <|Yj (Xb (i := 1) J J J iA4 J) J J J J <|Yj (Xf J J) J J J J <|dt (Ym J J J) J <|mv J J <|Qp (d := 17) J (fun s332_3 => ?_) (fun s332_3 => ?_)
   ·exact Yj (Yk J J uT49 J zT28 J J) J J J J <|Yj (Yk J J uT28 J zT9 J J) J J J J <|Yj (Xb (i := 1) J J J iA9 J) J J J J <|Yj (Qc J J uT9) J J J J <|Yj (Xd J J J) J J J J <|dt (Ym J J J) J <|Zl J J <|Zc <|Za <|Zq <|Zr (.inl J) hsc () _ (fun a w hs => Yr hs Tryz.results45 J) (by unfold okR; simp_all) trivial J Zj
   ·exact Yy J J J J J <|Yy J J J J J <|Yy J J J J J <|Yy J J J J J <|Yy J J J J J <|dt (Zs J J J) J <|Zl J J <|Zc <|Za <|Zq <|Zr (.inl J) hsc () _ (fun a w hs => Yr hs Tryz.results45 J) (by unfold okR; simp_all) trivial J Zj
  ·exact Yy J J J J J <|Yy J J J J J <|Yy J J J J J <|Yy J J J J J <|dt (Zs J J J) J <|mv J J <|Yy J J J J J <|Yy J J J J J <|Yy J J J J J <|Yy J J J J J <|Yy J J J J J <|dt (Zs J J J) J <|Zl J J <|Zc <|Za <|Zq <|Zr (.inl J) hsc () _ (fun a w hs => Yr hs Tryz.results45 J) (by unfold okR; simp_all) trivial J Zj
 ·exact Yy J J J J J <|Yy J J J J J <|Yy J J J J J <|dt (Zs J J J) J <|mv J J <|Yy J J J J J <|Yy J J J J J <|Yy J J J J J <|Yy J J J J J <|dt (Zs J J J) J <|mv J J <|Yy J J J J J <|Yy J J J J J <|Yy J J J J J <|Yy J J J J J <|Yy J J J J J <|dt (Zs J J J) J <|Zl J J <|Zc <|Za <|Zq <|Zr (.inl J) hsc () _ (fun a w hs => Yr hs Tryz.results45 J) (by unfold okR; simp_all) trivial J Zj
theorem Xt (x y : Int) (hx : bl x.natAbs ≤ 2000000000) (hy : bl y.natAbs ≤ 2000000000) : Cal Tryz.prog 32 #[.agg #[.bool (decide (x < 0)), .string (bstr x.natAbs), .bool (decide (y < 0)), .string (bstr y.natAbs)]] [] true (G := Value × Value) (fun r => True) (fun r => .agg #[.bool (decide (x < 0)), r.1, .bool (decide (y < 0)), r.2]) (fun r => [d9p r.1 (x).natAbs, d9p r.2 (y).natAbs]) := by
 refine Ya Tryz.func32 J Tryz.ntmps32 J trivial ?_
 intro w0 sc hw hsc
 simp only [Zp, Zo]
 refine Zb <|Zd <|tt (Yq (i := 1) J J J J J J hw) J fun b _ => tt (Zx (i := 2) J J J Tryz.zeroValue63 J J hw) J fun b_2 _ => Zc <|Za <|Zb <|Xa (fun _ => False) [(0, 0), (1, 0), (3, 0), (4, 0), (2, 1), (5, 1), (6, 0), (7, 3)] (by kernel_rfl) ?_ ?_
 ·kernel_rfl
 exact r0' J J J J (st0 (Yk J J uT49 J zT28 J J)) <|r0' J J J J (st0 (Yc (i := 1) J J J iA28 zT28 J J)) <|r0' J J J J (st0 (Yk J J uT49 J zT28 J J)) <|r0' J J J J (st0 (Yc (i := 1) J J J iA28 zT28 J J)) <|r1' J J (Zg (n := 3) (r_from _ (by omega)) J J J K1 cF49 Ze J hw) fun v _ => r1' J J (Zg (n := 4) (r_from _ (by omega)) J J J K1 cF49 Ze J hw) fun v_2 _ => r0' J J J J (st0 (Xx (ivs := [(0, _), (1, _)]) J K4 (fun a w hs => b63_01))) <|r3' J J (Zu (i := 2) J J J J J (by decide) J zT63 J J ⟨(Zh J), (Yb (i := 3) J Zi), (Zh J), (Yb (i := 4) J Zi), trivial⟩ J hw trivial) fun _ _ => Xn <|Za <|Zq <|Zr (.inl J) hsc (_, _) _ (fun a w hs => Yr hs Tryz.results32 (Yl (i := 2) J J iA63 zT63 J)) J trivial J (Xw 3 J J J (Xw 4 J J J Zj))
theorem Qk (v w v2 w2 : Value) (x y x2 y2 : Int) (h0 : bl x.natAbs ≤ 100000000) (h1 : bl y.natAbs ≤ 100000000) (h2 : bl x2.natAbs ≤ 100000000) (h3 : bl y2.natAbs ≤ 100000000) : Cal Tryz.prog 46 #[.agg #[.bool (decide (x < 0)), v, .bool (decide (y < 0)), w], .agg #[.bool (decide (x2 < 0)), v2, .bool (decide (y2 < 0)), w2]] [d9p v x.natAbs, d9p w y.natAbs, d9p v2 x2.natAbs, d9p w2 y2.natAbs] false (G := Unit) (fun _ => True) (fun _ => .int .i64 (x * y2 - x2 * y).sign) (fun _ => []) := by
 refine Ya Tryz.func46 J Tryz.ntmps46 J K4 ?_
 intro w0 sc hw hsc
 simp only [Zp, Zo]
 have b1 := bl_imul x y2
 have b2 := bl_imul x2 y
 have b3 := bl_imul y y2
 have b4 := bl_imul x x2
 have b5 := bl_iadd (x * y2) (x2 * y)
 refine Zb <|Zd <|tt (Yq (i := 5) J J J J J J hw) J fun b _ => tt (Yq (i := 6) J J J J J J hw) J fun b_2 _ => Zl J J <|Zc <|Za <|Zb <|Xa (fun _ => False) [(0, 0), (1, 0), (2, 0), (3, 0), (5, 0), (6, 0), (7, 0), (8, 0), (4, 1), (9, 1), (10, 1), (11, 3)] (by kernel_rfl) ?_ ?_
 ·kernel_rfl
 exact r0' J J J J (st0 (Yk J J uT63 J zT39 J J)) <|r0' J J J J (st0 (Yc (i := 5) J J J iA39 zT39 J J)) <|r0' J J J J (st0 (Yk J J uT63 J zT39 J J)) <|r0' J J J J (st0 (Yc (i := 6) J J J iA39 zT39 J J)) <|r0' J J J J (st0 (Yk J J uT63 J zT39 J J)) <|r0' J J J J (st0 (Yc (i := 6) J J J iA39 zT39 J J)) <|r0' J J J J (st0 (Yk J J uT63 J zT39 J J)) <|r0' J J J J (st0 (Yc (i := 5) J J J iA39 zT39 J J)) <|r1' J J (Zg (n := 7) (r_mul _ _ _ _ (by omega) (by omega)) J J J K2 cF44 (Zf 1 J J J (Zf 4 J J J Ze)) J hw) fun v _ => r1' J J (Zg (n := 8) (r_mul _ _ _ _ (by omega) (by omega)) J J J K2 cF44 (Zf 3 J J J (Zf 2 J J J Ze)) J hw) fun v_2 _ => r1' J J (Zg (n := 8) (r_compare _ _ _ _ (by omega) (by omega)) J J J K2 cF62 (Zf 7 J J J (Zf 8 J J J Ze)) J hw) fun _ _ => r3' J J (Qa (Qf J J) J J) fun _ _ => Xn <|Za <|Zq <|Zr (.inl J) hsc () _ (fun a w hs => Yr hs Tryz.results46 J) J trivial J Zj
end Go.Sky

