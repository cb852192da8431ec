/- rules, arithmetic and contracts: part 9
   Proved without conditions of its own: each theorem bears its own. -/
import Derived.Test.YtcegclhbeflgbaaGreatSi02
import Derived.Test.YtcegclhbeflgbaaGreatSi01
import Derived.Test.YtcegclhbeflgbaaGreatSi03
import Derived.Test.YtcegclhbeflgbaaGreatSi07
set_option linter.all false
namespace Go.Sky
open Go.Proofs
set_option maxRecDepth 20000
set_option maxHeartbeats 4000000
set_option linter.unusedVariables false
set_option linter.unusedSimpArgs false
theorem r_valid (b : Bool) (s : ByteArray) : Cal Tryz.prog 48 #[.agg #[.bool b, .string s]] [] false (G := Unit) (fun _ => True) (fun _ => .bool (okW b s)) (fun _ => []) := by
 refine Yb Tryz.func48 J Tryz.ntmps48 J trivial ?_
 intro w0 sc hw hsc
 simp only [Zn, Zm]
 refine Zb <|Zd <|tt (Ym (i := 1) J J J J J J hw) J fun b _ => Zl J J <|Zc <|Za <|Zb <|Zb <|Zd <|dt (Yi J J uT28 J zT9 J J) J <|dt (Xe (i := 1) J J J iA9 J) J <|dt (Xx J J uT9) J <|dt (Xy J J J) J <|Zc <|Za <|Zp J (fun h25 => ?_) (fun h25 => ?_)
 ·exact Zb <|Zd <|dt (Yi J J uT28 J zT4 J J) J <|dt (Xe (i := 1) J J J iA4 J) J <|dt (Xn J J) J <|Zl J J <|Zc <|Za <|Zr <|Yt <|Zs (.inl J) hsc () _ (fun a w hs => Yr hs Tryz.results48 J) (by unfold okW; rw [if_pos (by omega)]) trivial J Zj
 ·refine Zk <|Za <|Zb <|Zd <|dt (Yi J J uT28 J zT9 J J) J <|dt (Xe (i := 1) J J J iA9 J) J <|dt (Xx J J uT9) J <|dt (d_leq J J J) J <|mv J J <|Xo (d := 14) J (fun s28 => ?_) (fun s28 => ?_)
  ·exact Yl (Yi J J uT28 J zT9 J J) J J J J <|Yl (Xe (i := 1) J J J iA9 J) J J J J <|Yl (d_ixs (i := 0) J J J uT9 J (by omega)) J J J J <|Yl (Xf J J J) J J J J <|dt (Yk J J J) J <|Zl J J <|Zc <|Za <|Zr <|Zs (.inl J) hsc () _ (fun a w hs => Yr hs Tryz.results48 J) (by unfold okW; rw [if_neg (by omega)]; simp_all <;> omega) trivial J Zj
  ·exact Yx J J J J J <|Yx J J J J J <|Yx J J J J J <|Yx J J J J J <|dt (Ya J J J) J <|Zl J J <|Zc <|Za <|Zr <|Zs (.inl J) hsc () _ (fun a w hs => Yr hs Tryz.results48 J) (by unfold okW; rw [if_neg (by omega)]; simp_all <;> omega) trivial J Zj
theorem r_trim (v : Value) (xs : List Nat) : Cal Tryz.prog 60 #[v] [slp 1 encN v xs] true (G := Unit) (fun _ => True) (fun _ => preV v (tz xs).length) (fun _ => [slp 1 encN (preV v (tz xs).length) (tz xs)]) := by
 refine Yb Tryz.func60 J Tryz.ntmps60 J K1 ?_
 intro w0 sc hw hsc
 simp only [Zn, Zm]
 refine Qj (f_self (i := 1) J Zi) fun hself => Qj (Pd (i := 1) J Zi) fun hlen => Zb <|Zd <|Zl J J <|Zc <|Za <|Zb <|Zo <|Xw [] [(0, _)] (fun (k : Nat) => [(0, preV v k)]) (fun (k : Nat) => [(1, slp 1 encN (preV v k) (xs.take k))]) (fun (k : Nat) => (k ≤ xs.length) ∧ (tz (xs.take k) = tz xs)) (fun (k : Nat) => k) xs.length ⟨Nat.le_refl _, by rw [List.take_length]⟩ ⟨by rw [hself]; rfl, trivial⟩ ⟨by rw [hself, List.take_length]; rfl, rfl, trivial⟩ ?_
 rintro k ⟨hk, ht⟩
 simp only [List.cons_append, List.nil_append]
 have hl : (xs.take k).length = k := by rw [List.length_take]; omega
 refine Zb <|Zb <|Zd <|mv J J <|dt (Zv J J (i := 1) J Zi uT37) J <|dt (Xc J J J) J <|mv J J <|Xo (d := 6) J (fun s33 => ?_) (fun s33 => ?_)
 ·refine Yl (Zx J J) J J J J <|Yl (Zx J J) J J J J <|Yl (Zv J J (i := 1) J Zi uT37) J J J J <|Yl (Xd J J J ⟨by omega, by omega⟩) J J J J <|Yl (Yh (ii := 1) (i := k - 1) J J J J Zi uT37 zT3 (by omega) (by omega)) J J J J <|Yl (Yu (ii := 1) 0 J J J Zi pN (by omega)) J J J J <|Yl (Xy J J J) J J J J <|dt (Yk J J J) J <|Zc <|Za <|Zp J (fun h33 => ?_) (fun h33 => ?_)
  ·have hstep := tz_step hk (by omega) (by omega : (xs.take k).getD (k - 1) 0 = 0)
   exact Zk <|Za <|Zo <|Zd <|mv J J <|mv J J <|dt (Zv J J (i := 1) J Zi uT37) J <|dt (Xd J J J ⟨by omega, by omega⟩) J <|dt (d_pre (ii := 1) (i := k - 1) J J J J Zi uT37 zT3 (by omega) (by omega)) J <|Zl J J <|Zc <|Xm <|Xh (s_pre 1 1 (k - 1) J J (by omega)) <|Yy (k - 1) ⟨by first | omega | (dsimp only <;> omega), by rw [← ht, ← hstep]⟩ (by first | omega | (dsimp only <;> omega)) ⟨by rw [← preV_preV v k (k - 1)]; rfl, trivial⟩ ⟨by rw [preV_preV, List.take_take, Nat.min_eq_left (by omega)]; rfl, rfl, trivial⟩
  ·refine Ys <|Zu <|Zu <|Xs <|Za <|Zb <|Zd <|mv J J <|Zl J J <|Zc <|Za <|Zr ?_
   have hx : tz xs = xs.take k := by rw [← ht]; exact tz_stop hk (by omega)
   exact Zs (.inl J) hsc () _ (fun a w hs => Yr hs Tryz.results60 J) (by rw [hx, hl]) trivial J (Yo 1 J J J (by rw [hx, hl]) Zj)
 ·refine Yx J J J J J <|Yx J J J J J <|Yx J J J J J <|Yx J J J J J <|Yx J J J J J <|Yx J J J J J <|Yx J J J J J <|dt (Ya J J J) J <|Zc <|Za <|Yn J <|Ys <|Zu <|Zu <|Xs <|Za <|Zb <|Zd <|mv J J <|Zl J J <|Zc <|Za <|Zr ?_
  have hx : tz xs = xs.take k := by rw [← ht]; exact tz_stop hk (by omega)
  exact Zs (.inl J) hsc () _ (fun a w hs => Yr hs Tryz.results60 J) (by rw [hx, hl]) trivial J (Yo 1 J J J (by rw [hx, hl]) Zj)
theorem Qq (v : Value) (xs : List Nat) : Cal Tryz.prog 60 #[v] [slp 1 encN v xs] false (G := Unit) (fun _ => True) (fun _ => preV v (tz xs).length) (fun _ => []) := (r_trim v xs).bare
theorem r_order (v w : Value) (x y : Nat) (hx : bl x ≤ 4294967296) (hy : bl y ≤ 4294967296) : Cal Tryz.prog 93 #[v, w] [d9p v x, d9p w y] false (G := Unit) (fun _ => True) (fun _ => .int .i64 (cmpI x y)) (fun _ => []) := by
 refine Yb Tryz.func93 J Tryz.ntmps93 J K2 ?_
 intro w0 sc hw hsc
 simp only [Zn, Zm]
 have hX := len9_bl x
 have hY := len9_bl y
 refine Zb <|Zd <|Zl J J <|Zc <|Za <|Zb <|Zb <|Zd <|mv J J <|dt (Zv J J (i := 1) J Zi uT37) J <|mv J J <|dt (Zv J J (i := 2) J Zi uT37) J <|dt (Xf J J J) J <|Zc <|Za <|Zp J (fun h41 => ?_) (fun h41 => ?_)
 ·refine Zb <|Zb <|Zd <|mv J J <|dt (Zv J J (i := 1) J Zi uT37) J <|mv J J <|dt (Zv J J (i := 2) J Zi uT37) J <|dt (Xb J J J) J <|Zc <|Za <|Zp J (fun h42 => ?_) (fun h42 => ?_)
  ·have hlt : x < y := dg_len_lt two_D (by omega)
   exact Zb <|Zd <|Zl J J <|Zc <|Za <|Zr <|Yt <|Yt <|Zs (.inl J) hsc () _ (fun a w hs => Yr hs Tryz.results93 J) (by unfold cmpI; rw [if_pos hlt]) trivial J Zj
  ·have hlt : y < x := dg_len_lt two_D (by omega)
   exact Zk <|Za <|Zb <|Zd <|Zl J J <|Zc <|Za <|Zr <|Yt <|Zs (.inl J) hsc () _ (fun a w hs => Yr hs Tryz.results93 J) (by unfold cmpI; rw [if_neg (by omega), if_pos hlt]) trivial J Zj
 ·have hlen : (dg 1000000000 x).length = (dg 1000000000 y).length := by omega
  refine Zk <|Za <|Zb <|Zb <|Zd <|mv J J <|dt (Zv J J (i := 1) J Zi uT37) J <|dt (Xd J J J ⟨by omega, by omega⟩) J <|Zl J J <|Zc <|Za <|Zo <|Xw [(0, _), (1, _)] [(0, _), (1, _), (2, _)] (fun (k : Nat) => [(5, .int .i64 ((k : Int) - 1))]) (fun (k : Nat) => []) (fun (k : Nat) => (k ≤ (dg 1000000000 x).length) ∧ ((dg 1000000000 x).drop k = (dg 1000000000 y).drop k)) (fun (k : Nat) => k) (dg 1000000000 x).length ⟨by first | omega | (dsimp only <;> omega), by rw [List.drop_length, hlen, List.drop_length]⟩ K3 K3 ?_
  rintro k ⟨hk, hd⟩
  simp only [List.cons_append, List.nil_append]
  refine Zb <|Zb <|Zd <|mv J J <|dt (Qi J J J) J <|Zc <|Za <|Zp J (fun h47 => ?_) (fun h47 => ?_)
  ·refine Zk <|Za <|Zb <|Zo <|Zb <|Zb <|Xg (fun _ => False) [(0, 0), (1, 0), (2, 0), (3, 0), (4, 0), (5, 0), (6, 0), (7, 0), (8, 0)] (by kernel_rfl) ?_ ?_
   ·kernel_rfl
   refine r0' J J J J (st0 (Zx J J)) <|r0' J J J J (st0 (Zx J J)) <|r0' J J J J (st0 (Yh (ii := 1) (i := k - 1) J J J J Zi uT37 zT3 (by omega) (by omega))) <|r0' J J J J (st0 (Yu (ii := 1) 0 J J J Zi pN (by first | omega | (simp only [List.length_set]; omega)))) <|r0' J J J J (st0 (Zx J J)) <|r0' J J J J (st0 (Zx J J)) <|r0' J J J J (st0 (Yh (ii := 2) (i := k - 1) J J J J Zi uT37 zT3 (by omega) (by omega))) <|r0' J J J J (st0 (Yu (ii := 2) 0 J J J Zi pN (by first | omega | (simp only [List.length_set]; omega)))) <|r0' J J J J (st0 (Xb J J J)) <|Xq <|Za <|Zp J (fun h48 => ?_) (fun h48 => ?_)
   ·have hlt := cmp_lt D_pos (xs := (dg 1000000000 x)) (ys := (dg 1000000000 y)) (dg_lt two_D x) (k := k - 1) (by omega) (by omega) (by rw [show k - 1 + 1 = k by omega]; exact hd) (by omega)
    rw [val_dg two_D, val_dg two_D] at hlt
    exact Zb <|Zd <|Zl J J <|Zc <|Za <|Zr <|Yt <|Qs <|Yt <|Yt <|Qs <|Yt <|Zs (.inl J) hsc () _ (fun a w hs => Yr hs Tryz.results93 J) (by unfold cmpI; rw [if_pos hlt]) trivial J Zj
   ·refine Zk <|Za <|Zb <|Xg (fun _ => False) [(0, 0), (1, 0), (2, 0), (3, 0), (4, 0), (5, 0), (6, 0), (7, 0), (8, 0)] (by kernel_rfl) ?_ ?_
    ·kernel_rfl
    refine r0' J J J J (st0 (Zx J J)) <|r0' J J J J (st0 (Zx J J)) <|r0' J J J J (st0 (Yh (ii := 1) (i := k - 1) J J J J Zi uT37 zT3 (by omega) (by omega))) <|r0' J J J J (st0 (Yu (ii := 1) 0 J J J Zi pN (by first | omega | (simp only [List.length_set]; omega)))) <|r0' J J J J (st0 (Zx J J)) <|r0' J J J J (st0 (Zx J J)) <|r0' J J J J (st0 (Yh (ii := 2) (i := k - 1) J J J J Zi uT37 zT3 (by omega) (by omega))) <|r0' J J J J (st0 (Yu (ii := 2) 0 J J J Zi pN (by first | omega | (simp only [List.length_set]; omega)))) <|r0' J J J J (st0 (Xc J J J)) <|Xq <|Za <|Zp J (fun h51 => ?_) (fun h51 => ?_)
    ·have hlt := cmp_lt D_pos (xs := (dg 1000000000 y)) (ys := (dg 1000000000 x)) (dg_lt two_D y) (k := k - 1) (by omega) (by omega) (by rw [show k - 1 + 1 = k by omega]; exact hd.symm) (by omega)
     rw [val_dg two_D, val_dg two_D] at hlt
     exact Zb <|Zd <|Zl J J <|Zc <|Za <|Zr <|Qs <|Yt <|Yt <|Qs <|Yt <|Zs (.inl J) hsc () _ (fun a w hs => Yr hs Tryz.results93 J) (by unfold cmpI; rw [if_neg (by omega), if_pos hlt]) trivial J Zj
    ·exact Zk <|Xm <|Za <|Zd <|mv J J <|dt (Xd J J J ⟨by omega, by omega⟩) J <|Zl J J <|Zc <|Yy (k - 1) ⟨by first | omega | (dsimp only <;> omega), by have := drop_eq_step (xs := (dg 1000000000 x)) (ys := (dg 1000000000 y)) (k := k - 1) (by omega) (by omega) (by rw [show k - 1 + 1 = k by omega]; exact hd) (by omega); exact this⟩ (by first | omega | (dsimp only <;> omega)) ⟨by rw [show (((k - 1 : Nat) : Int) - 1) = (k : Int) - 1 - 1 by omega]; rfl, rfl, rfl, trivial⟩ K3
  ·refine Ys <|Zu <|Zu <|Xs <|Za <|Zb <|Zd <|Zl J J <|Zc <|Za <|Zr ?_
   obtain rfl : k = 0 := by omega
   have heq : x = y := (dg_eq_iff two_D).1 (by simpa using hd)
   exact Zs (.inl J) hsc () _ (fun a w hs => Yr hs Tryz.results93 J) (by unfold cmpI; rw [if_neg (by omega), if_neg (by omega)]) trivial J Zj
theorem r_plus (v w : Value) (x y : Nat) (hx : bl x ≤ 4294967296) (hy : bl y ≤ 4294967296) : Cal Tryz.prog 92 #[v, w] [d9p v x, d9p w y] false (G := Value) (fun r => True) (fun r => r) (fun r => [d9p r (x + y)]) := by
 refine Yb Tryz.func92 J Tryz.ntmps92 J K2 ?_
 intro w0 sc hw hsc
 simp only [Zn, Zm]
 have hX := len9_bl x
 have hY := len9_bl y
 refine Zb <|Zd <|Zl J J <|Zc <|Za <|Zb <|Zd <|Zl J J <|Zc <|Za <|Zb <|Zd <|Zl J J <|Zc <|Za <|Zb <|Zb <|Zd <|Zl J J <|Zc <|Za <|Zo <|Ye (Qb 70 1 3 encN) <|Xw [(0, _), (1, _)] [(0, _), (1, _), (2, _)] (fun (q : Nat × List Nat × Nat × Value) => [(7, .int .i64 (q.1 : Int)), (6, .int .i64 (q.2.2.1 : Int)), (5, q.2.2.2)]) (fun (q : Nat × List Nat × Nat × Value) => [(70, osl 1 3 encN q.2.2.2 q.2.1)]) (fun (q : Nat × List Nat × Nat × Value) => (q.1 ≤ max (dg 1000000000 x).length (dg 1000000000 y).length + 1 ∧ (q.1 = max (dg 1000000000 x).length (dg 1000000000 y).length + 1 → q.2.2.1 = 0)) ∧ (q.2.1.length = q.1) ∧ (∀ d ∈ q.2.1, d < 1000000000) ∧ (q.2.2.1 ≤ 1) ∧ (val 1000000000 q.2.1 + q.2.2.1 * 1000000000 ^ q.1 = val 1000000000 ((dg 1000000000 x).take q.1) + val 1000000000 ((dg 1000000000 y).take q.1)) ∧ (q.1 = 0 ∨ 1000000000 ^ (q.1 - 1) ≤ x + y)) (fun (q : Nat × List Nat × Nat × Value) => max (dg 1000000000 x).length (dg 1000000000 y).length + 1 - q.1) (0, [], 0, .slice none 0 0) ⟨⟨by omega, by omega⟩, J, by simp, by first | omega | (dsimp only <;> omega), by simp [val], .inl rfl⟩ K5 K4 ?_
 rintro ⟨i, o, c, vo⟩ ⟨hi, hol, hoa, hc, hv, hge⟩
 dsimp only at hi hol hoa hc hv hge
 simp only [List.cons_append, List.nil_append]
 refine Zb <|Qw [(0, _), (1, _), (5, _), (6, _), (7, _)] [(0, _), (70, _), (1, _), (2, _)] (fun (_ : Unit) => [(21, .bool (decide (i < (dg 1000000000 x).length ∨ i < (dg 1000000000 y).length ∨ 0 < c)))]) (fun (_ : Unit) => []) (fun (_ : Unit) => True) K5 K4 ?_ ?_
 ·refine Zd <|mv J J <|mv J J <|dt (Zv J J (i := 1) J Zi uT37) J <|dt (Xb J J J) J <|mv J J <|Xo (d := 12) J (fun s62 => ?_) (fun s62 => ?_)
  ·exact Yx J J J J J <|Yx J J J J J <|Yx J J J J J <|Yx J J J J J <|dt (Yk J J J) J <|mv J J <|Yx J J J J J <|Yx J J J J J <|dt (Yk J J J) J <|Zc <|Xj () trivial ⟨by first | exact congrArg some (congrArg Value.bool (decide_eq_decide.2 (by omega))) | exact congrArg some (congrArg Value.bool (decide_eq_true (by omega)).symm), rfl, rfl, rfl, rfl, rfl, trivial⟩ K4
  ·refine Yl (Zx J J) J J J J <|Yl (Zx J J) J J J J <|Yl (Zv J J (i := 2) J Zi uT37) J J J J <|Yl (Xb J J J) J J J J <|dt (Ya J J J) J <|mv J J <|Xo (d := 18) J (fun s62_2 => ?_) (fun s62_2 => ?_)
   ·exact Yx J J J J J <|Yx J J J J J <|dt (Yk J J J) J <|Zc <|Xj () trivial ⟨by first | exact congrArg some (congrArg Value.bool (decide_eq_decide.2 (by omega))) | exact congrArg some (congrArg Value.bool (decide_eq_true (by omega)).symm), rfl, rfl, rfl, rfl, rfl, trivial⟩ K4
   ·exact Yl (Zx J J) J J J J <|Yl (Xc J J J) J J J J <|dt (Ya J J J) J <|Zc <|Xj () trivial ⟨by first | exact congrArg some (congrArg Value.bool (decide_eq_decide.2 (by omega))) | exact congrArg some (congrArg Value.bool (decide_eq_true (by omega)).symm), rfl, rfl, rfl, rfl, rfl, trivial⟩ K4
 ·rintro _ -
  simp only [List.cons_append, List.nil_append]
  refine Zp J (fun h62 => ?_) (fun h62 => ?_)
  ·have hgn : 1000000000 ^ i ≤ x + y := by
    rcases h62 with h1 | h1 | h1
    ·have := pow_le_dg two_D h1; omega
    ·have := pow_le_dg two_D h1; omega
    ·by_cases h2 : i < (dg 1000000000 x).length
     ·have := pow_le_dg two_D h2; omega
     ·by_cases h3 : i < (dg 1000000000 y).length
      ·have := pow_le_dg two_D h3; omega
      ·rw [take_dg_all two_D (by omega), take_dg_all two_D (by omega)] at hv
       have : 1000000000 ^ i ≤ c * 1000000000 ^ i := Nat.le_mul_of_pos_left _ h1
       omega
   refine Zk <|Za <|Zb <|Zo <|Qw [(0, _), (1, _), (5, _), (7, _)] [(0, _), (70, _), (1, _), (2, _)] (fun (_ : Unit) => [(6, .int .i64 ((c + (dg 1000000000 x).getD i 0 : Nat) : Int))]) (fun (_ : Unit) => []) (fun (_ : Unit) => True) K4 K4 ?_ ?_
   ·refine Zb <|Zd <|mv J J <|mv J J <|dt (Zv J J (i := 1) J Zi uT37) J <|dt (Xb J J J) J <|Zc <|Za <|Zp J (fun h63 => ?_) (fun h63 => ?_)
    ·refine Zd <|mv J J <|mv J J <|mv J J <|dt (Yh (ii := 1) J J J J Zi uT37 zT3 J (by first | omega | (simp only [List.length_set]; omega))) J <|dt (Yu (ii := 1) 0 J J J Zi pN (by first | omega | (simp only [List.length_set]; omega))) J <|dt (n_add J J J (by have h1 := (getD_lt D_pos (dg_lt two_D x) i); omega)) J <|Zl J J <|Zc ?_
     try (have hz : (dg 1000000000 x).getD i 0 = 0 := by simp [List.getD, List.getElem?_eq_none (by omega : (dg 1000000000 x).length ≤ i)])
     exact Xj () trivial ⟨by first | rfl | (rw [hz]; rfl), rfl, rfl, rfl, rfl, trivial⟩ K4
    ·refine Zk ?_
     try (have hz : (dg 1000000000 x).getD i 0 = 0 := by simp [List.getD, List.getElem?_eq_none (by omega : (dg 1000000000 x).length ≤ i)])
     exact Xj () trivial ⟨by first | rfl | (rw [hz]; rfl), rfl, rfl, rfl, rfl, trivial⟩ K4
   ·rintro _ -
    simp only [List.cons_append, List.nil_append]
    refine Qw [(0, _), (1, _), (5, _), (7, _)] [(0, _), (70, _), (1, _), (2, _)] (fun (_ : Unit) => [(6, .int .i64 ((c + (dg 1000000000 x).getD i 0 + (dg 1000000000 y).getD i 0 : Nat) : Int))]) (fun (_ : Unit) => []) (fun (_ : Unit) => True) K4 K4 ?_ ?_
    ·refine Zb <|Zd <|mv J J <|mv J J <|dt (Zv J J (i := 2) J Zi uT37) J <|dt (Xb J J J) J <|Zc <|Za <|Zp J (fun h66 => ?_) (fun h66 => ?_)
     ·refine Zd <|mv J J <|mv J J <|mv J J <|dt (Yh (ii := 2) J J J J Zi uT37 zT3 J (by first | omega | (simp only [List.length_set]; omega))) J <|dt (Yu (ii := 2) 0 J J J Zi pN (by first | omega | (simp only [List.length_set]; omega))) J <|dt (n_add J J J (by have h1 := (getD_lt D_pos (dg_lt two_D x) i); have h2 := (getD_lt D_pos (dg_lt two_D y) i); omega)) J <|Zl J J <|Zc ?_
      try (have hz : (dg 1000000000 y).getD i 0 = 0 := by simp [List.getD, List.getElem?_eq_none (by omega : (dg 1000000000 y).length ≤ i)])
      exact Xj () trivial ⟨by first | rfl | (rw [hz]; rfl), rfl, rfl, rfl, rfl, trivial⟩ K4
     ·refine Zk ?_
      try (have hz : (dg 1000000000 y).getD i 0 = 0 := by simp [List.getD, List.getElem?_eq_none (by omega : (dg 1000000000 y).length ≤ i)])
      exact Xj () trivial ⟨by first | rfl | (rw [hz]; rfl), rfl, rfl, rfl, rfl, trivial⟩ K4
    ·rintro _ -
     simp only [List.cons_append, List.nil_append]
     exact Zb <|Zd <|mv J J <|mv J J <|dt (n_rem (n := 1000000000) J J J (by omega)) J <|tt (Xp (i := 3) (ivs := [(0, _)]) (enc := encN) [(c + (dg 1000000000 x).getD i 0 + (dg 1000000000 y).getD i 0) % 1000000000] J J J K2 uT37 Tryz.ti3 J J J J J J pN.cells J J hw) J fun v _ => tt (Qv (i := 70) (j := 3) (by_ := 8) J J J J J J (by decide) J (Yp pN) uT37 Tryz.ti3 J pN J J J (by simp; omega) (by decide) J hw) J fun v_2 _ => Zl J J <|Zc <|Za <|Zd <|mv J J <|dt (n_quo (n := 1000000000) J J J (by have h1 := (getD_lt D_pos (dg_lt two_D x) i); have h2 := (getD_lt D_pos (dg_lt two_D y) i); omega) (by omega)) J <|Zl J J <|Zc <|Xm <|Za <|Zd <|mv J J <|dt (Yj J J J ⟨by omega, by omega⟩) J <|Zl J J <|Zc <|Yy (i + 1, o ++ [(c + (dg 1000000000 x).getD i 0 + (dg 1000000000 y).getD i 0) % 1000000000], (c + (dg 1000000000 x).getD i 0 + (dg 1000000000 y).getD i 0) / 1000000000, _) ⟨⟨by dsimp only; omega, fun h => by dsimp only at h ⊢; rw [dg_getD0 (by omega : (dg 1000000000 x).length ≤ i), dg_getD0 (by omega : (dg 1000000000 y).length ≤ i)]; omega⟩, by simp [hol], all_snoc hoa (Nat.mod_lt _ D_pos), by have h1 := (getD_lt D_pos (dg_lt two_D x) i); have h2 := (getD_lt D_pos (dg_lt two_D y) i); dsimp only; omega, plus_step hol hv, .inr hgn⟩ (by first | omega | (dsimp only <;> omega)) K5 K4
  ·refine Ys <|Zu <|Zu <|Xs <|Za <|Zb <|Zd <|mv J J <|Zl J J <|Zc <|Za <|Zr ?_
   have hc0 : c = 0 := by omega
   have hv2 : val 1000000000 o = x + y := by
    rw [take_dg_all two_D (by omega), take_dg_all two_D (by omega), hc0, Nat.zero_mul, Nat.add_zero] at hv
    exact hv
   have hx : o = dg 1000000000 (x + y) := tz_full two_D hoa hv2 (by rw [hol]; exact hge)
   exact Zs (.inl J) hsc _ _ (fun a w hs => Yr hs Tryz.results92 J) J trivial J (Xz 70 J J pN (by rw [← hx] <;> rfl) Zj)
theorem r_minus (v w : Value) (x y : Nat) (hx : bl x ≤ 4294967296) (hxy : y ≤ x) : Cal Tryz.prog 94 #[v, w] [d9p v x, d9p w y] false (G := Value) (fun r => True) (fun r => r) (fun r => [d9p r (x - y)]) := by
 refine Yb Tryz.func94 J Tryz.ntmps94 J K2 ?_
 intro w0 sc hw hsc
 simp only [Zn, Zm]
 have hX := len9_bl x
 have hm := bl_mono hxy
 have hY := len9_bl y
 have hly : (dg 1000000000 y).length ≤ (dg 1000000000 x).length := dg_len_mono two_D hxy
 refine Zb <|Zd <|Zl J J <|Zc <|Za <|Zb <|Zd <|Zl J J <|Zc <|Za <|Zb <|Zd <|Zl J J <|Zc <|Za <|Zb <|Zb <|Zd <|Zl J J <|Zc <|Za <|Zo <|Ye (Qb 70 1 3 encN) <|Xw [(0, _), (1, _)] [(0, _), (1, _), (2, _)] (fun (q : Nat × List Nat × Nat × Value) => [(7, .int .i64 (q.1 : Int)), (6, .int .i64 (q.2.2.1 : Int)), (5, q.2.2.2)]) (fun (q : Nat × List Nat × Nat × Value) => [(70, osl 1 3 encN q.2.2.2 q.2.1)]) (fun (q : Nat × List Nat × Nat × Value) => (q.1 ≤ (dg 1000000000 x).length) ∧ (q.2.1.length = q.1) ∧ (∀ d ∈ q.2.1, d < 1000000000) ∧ (q.2.2.1 ≤ 1) ∧ (val 1000000000 q.2.1 + val 1000000000 ((dg 1000000000 y).take q.1) = val 1000000000 ((dg 1000000000 x).take q.1) + q.2.2.1 * 1000000000 ^ q.1)) (fun (q : Nat × List Nat × Nat × Value) => (dg 1000000000 x).length - q.1) (0, [], 0, .slice none 0 0) ⟨by first | omega | (dsimp only <;> omega), rfl, by simp, by first | omega | (dsimp only <;> omega), by simp [val]⟩ K5 K4 ?_
 rintro ⟨i, o, c, vo⟩ ⟨hi, hol, hoa, hc, hv⟩
 dsimp only at hi hol hoa hc hv
 simp only [List.cons_append, List.nil_append]
 have hda := (getD_lt D_pos (dg_lt two_D x) i)
 have hdb := (getD_lt D_pos (dg_lt two_D y) i)
 refine Zb <|Zb <|Zd <|mv J J <|mv J J <|dt (Zv J J (i := 1) J Zi uT37) J <|dt (Xb J J J) J <|Zc <|Za <|Zp J (fun h79 => ?_) (fun h79 => ?_)
 ·refine Zk <|Za <|Zb <|Zo <|Zb <|Zd <|mv J J <|mv J J <|dt (Yh (ii := 1) J J J J Zi uT37 zT3 J (by first | omega | (simp only [List.length_set]; omega))) J <|dt (Yu (ii := 1) 0 J J J Zi pN (by first | omega | (simp only [List.length_set]; omega))) J <|mv J J <|dt (Xd J J J ⟨by omega, by omega⟩) J <|Zl J J <|Zc <|Za <|Qw [(0, _), (1, _), (5, _), (7, _)] [(0, _), (70, _), (1, _), (2, _)] (fun (_ : Unit) => [(8, .int .i64 (((dg 1000000000 x).getD i 0 : Int) - (c : Int) - ((dg 1000000000 y).getD i 0 : Int)))]) (fun (_ : Unit) => []) (fun (_ : Unit) => True) K4 K4 ?_ ?_
  ·refine Zb <|Zd <|mv J J <|mv J J <|dt (Zv J J (i := 2) J Zi uT37) J <|dt (Xb J J J) J <|Zc <|Za <|Zp J (fun h81 => ?_) (fun h81 => ?_)
   ·refine Zd <|mv J J <|mv J J <|mv J J <|dt (Yh (ii := 2) J J J J Zi uT37 zT3 J (by first | omega | (simp only [List.length_set]; omega))) J <|dt (Yu (ii := 2) 0 J J J Zi pN (by first | omega | (simp only [List.length_set]; omega))) J <|dt (Xd J J J ⟨by omega, by omega⟩) J <|Zl J J <|Zc ?_
    try (have hz : (dg 1000000000 y).getD i 0 = 0 := by simp [List.getD, List.getElem?_eq_none (by omega : (dg 1000000000 y).length ≤ i)])
    exact Xj () trivial ⟨by first | rfl | (rw [hz]; exact congrArg some (i64_eq (by omega))), rfl, rfl, rfl, rfl, trivial⟩ K4
   ·refine Zk ?_
    try (have hz : (dg 1000000000 y).getD i 0 = 0 := by simp [List.getD, List.getElem?_eq_none (by omega : (dg 1000000000 y).length ≤ i)])
    exact Xj () trivial ⟨by first | rfl | (rw [hz]; exact congrArg some (i64_eq (by omega))), rfl, rfl, rfl, rfl, trivial⟩ K4
  ·rintro _ -
   simp only [List.cons_append, List.nil_append]
   refine Zb <|Zd <|Zl J J <|Zc <|Za <|Qw [(0, _), (1, _), (5, _), (7, _)] [(0, _), (70, _), (1, _), (2, _)] (fun (_ : Unit) => [(8, .int .i64 ((d9s ((dg 1000000000 x).getD i 0) ((dg 1000000000 y).getD i 0) c : Nat) : Int)), (6, .int .i64 ((brw ((dg 1000000000 x).getD i 0) ((dg 1000000000 y).getD i 0) c : Nat) : Int))]) (fun (_ : Unit) => []) (fun (_ : Unit) => True) K4 K4 ?_ ?_
   ·refine Zb <|Zd <|mv J J <|dt (Xb J J J) J <|Zc <|Za <|Zp J (fun h85 => ?_) (fun h85 => ?_)
    ·exact Zd <|mv J J <|dt (Yj J J J ⟨by omega, by omega⟩) J <|Zl J J <|Zl J J <|Zc <|Xj () trivial ⟨by exact congrArg some (i64_eq (by unfold d9s; split <;> omega)), by exact congrArg some (i64_eq (by unfold brw; split <;> omega)), rfl, rfl, rfl, rfl, trivial⟩ K4
    ·exact Zk <|Xj () trivial ⟨by exact congrArg some (i64_eq (by unfold d9s; split <;> omega)), by exact congrArg some (i64_eq (by unfold brw; split <;> omega)), rfl, rfl, rfl, rfl, trivial⟩ K4
   ·rintro _ -
    simp only [List.cons_append, List.nil_append]
    exact Zd <|mv J J <|mv J J <|tt (Xp (i := 3) (ivs := [(0, _)]) (enc := encN) [d9s ((dg 1000000000 x).getD i 0) ((dg 1000000000 y).getD i 0) c] J J J K2 uT37 Tryz.ti3 J J J J J J pN.cells J J hw) J fun v _ => tt (Qv (i := 70) (j := 3) (by_ := 8) J J J J J J (by decide) J (Yp pN) uT37 Tryz.ti3 J pN J J J (by simp; omega) (by decide) J hw) J fun v_2 _ => Zl J J <|Zc <|Xm <|Za <|Zd <|mv J J <|dt (Yj J J J ⟨by omega, by omega⟩) J <|Zl J J <|Zc <|Yy (i + 1, o ++ [d9s ((dg 1000000000 x).getD i 0) ((dg 1000000000 y).getD i 0) c], brw ((dg 1000000000 x).getD i 0) ((dg 1000000000 y).getD i 0) c, _) ⟨by first | omega | (dsimp only <;> omega), by simp [hol], all_snoc hoa (d9s_int hda hdb hc).1, brw_le _ _ _, minus_step hc hda hdb hol hv⟩ (by first | omega | (dsimp only <;> omega)) K5 K4
 ·refine Ys <|Zu <|Zu <|Xs <|Za <|Zb <|Zd <|mv J J <|tt (Zg (n := 3) (Qq _ _) J J J K1 cF60 (Xk 70 J J pN Zf) J hw) J fun _ _ => Xt (s_tz 70 J J pN) <|Zl J J <|Zc <|Za <|Zr ?_
  obtain rfl : i = (dg 1000000000 x).length := by omega
  have hx : tz o = dg 1000000000 (x - y) := by
   rw [← dg_val two_D _ hoa]
   congr 1
   rw [val_take_all _ (dg 1000000000 y) _ hly, val_take_all _ (dg 1000000000 x) _ (Nat.le_refl _), val_dg two_D, val_dg two_D] at hv
   have h1 := val_lt D_pos o hoa
   rw [hol] at h1
   have h0 : c = 0 ∨ c = 1 := by omega
   rcases h0 with rfl | rfl <;> omega
  exact Zs (.inl J) hsc _ _ (fun a w hs => Yr hs Tryz.results94 J) J trivial J (Xz 70 J J pN (by rw [hx] <;> rfl) Zj)
set_option maxHeartbeats 4000000 in
theorem r_times (v w : Value) (x y : Nat) (hx : bl x ≤ 4294967296) (hy : bl y ≤ 4294967296) : Cal Tryz.prog 96 #[v, w] [d9p v x, d9p w y] false (G := Value) (fun r => True) (fun r => r) (fun r => [d9p r (x * y)]) := by
 refine Yb Tryz.func96 J Tryz.ntmps96 J K2 ?_
 intro w0 sc hw hsc
 simp only [Zn, Zm]
 have hX := len9_bl x
 have hY := len9_bl y
 refine Zb <|Zd <|Zl J J <|Zc <|Za <|Zb <|Zd <|mv J J <|dt (Zv J J (i := 1) J Zi uT37) J <|mv J J <|dt (Zv J J (i := 2) J Zi uT37) J <|dt (Yj J J J ⟨by omega, by omega⟩) J <|tt (Qx (i := 3) (n := ((dg 1000000000 x).length + (dg 1000000000 y).length)) (by_ := 8) (enc := encN) 0 J J J J J (by omega) uT37 Tryz.ti3 J pN.cells pN.pos J J (by omega) (by decide) J hw) J fun v _ => Zl J J <|Zc <|Za <|Zb <|Zb <|Zd <|Zl J J <|Zc <|Za <|Zo <|Xw [(0, _), (1, _), (5, _)] [(0, _), (1, _), (2, _)] (fun (q : Nat × List Nat) => [(6, .int .i64 (q.1 : Int))]) (fun (q : Nat × List Nat) => [(3, osl 1 3 encN v q.2)]) (fun (q : Nat × List Nat) => (q.1 ≤ (dg 1000000000 x).length) ∧ (q.2.length = ((dg 1000000000 x).length + (dg 1000000000 y).length)) ∧ (∀ d ∈ q.2, d < 1000000000) ∧ (∀ j, q.1 + (dg 1000000000 y).length ≤ j → q.2.getD j 0 = 0) ∧ (val 1000000000 q.2 = val 1000000000 ((dg 1000000000 x).take q.1) * y)) (fun (q : Nat × List Nat) => (dg 1000000000 x).length - q.1) (0, List.replicate ((dg 1000000000 x).length + (dg 1000000000 y).length) 0) ⟨by first | omega | (dsimp only <;> omega), by simp, all_replicate _ D_pos, fun j _ => getD_replicate _ j, by simp [val, val_replicate]⟩ K4 K4 ?_
 rintro ⟨i, o⟩ ⟨hi, hol, hoa, hz0, hv⟩
 dsimp only at hi hol hoa hz0 hv
 simp only [List.cons_append, List.nil_append]
 refine Zb <|Zb <|Zd <|mv J J <|mv J J <|dt (Zv J J (i := 1) J Zi uT37) J <|dt (Xb J J J) J <|Zc <|Za <|Zp J (fun h96 => ?_) (fun h96 => ?_)
 ·refine Zk <|Za <|Zb <|Zo <|Zb <|Zd <|Zl J J <|Zc <|Za <|Zb <|Zd <|Zl J J <|Zc <|Za <|Zo <|Xw [(0, _), (1, _), (5, _), (6, _)] [(0, _), (1, _), (2, _)] (fun (q : Nat × List Nat × Nat) => [(8, .int .i64 (q.1 : Int)), (7, .int .i64 (q.2.2 : Int))]) (fun (q : Nat × List Nat × Nat) => [(3, osl 1 3 encN v q.2.1)]) (fun (q : Nat × List Nat × Nat) => (q.1 ≤ (dg 1000000000 y).length + 1 ∧ (q.1 = (dg 1000000000 y).length + 1 → q.2.2 = 0)) ∧ (q.2.1.length = ((dg 1000000000 x).length + (dg 1000000000 y).length)) ∧ (∀ d ∈ q.2.1, d < 1000000000) ∧ (∀ j, i + q.1 ≤ j → i + (dg 1000000000 y).length ≤ j → q.2.1.getD j 0 = 0) ∧ (q.2.2 < 1000000000) ∧ (val 1000000000 q.2.1 + q.2.2 * 1000000000 ^ (i + q.1) = val 1000000000 ((dg 1000000000 x).take i) * y + (dg 1000000000 x).getD i 0 * 1000000000 ^ i * val 1000000000 ((dg 1000000000 y).take q.1))) (fun (q : Nat × List Nat × Nat) => (dg 1000000000 y).length + 1 - q.1) (0, o, 0) ⟨⟨by omega, by omega⟩, hol, hoa, fun j _ h => hz0 j h, by first | omega | (dsimp only <;> omega), by rw [hv]; simp [val]⟩ K6 K4 ?_
  rintro ⟨k, p, c⟩ ⟨hk, hpl, hpa, hpz, hcU, hpv⟩
  dsimp only at hk hpl hpa hpz hcU hpv
  simp only [List.cons_append, List.nil_append]
  have hdig := times_digit (getD_lt D_pos (dg_lt two_D x) i) (getD_lt D_pos (dg_lt two_D y) k) (getD_lt D_pos hpa (i + k)) hcU
  refine Zb <|Qw [(0, _), (1, _), (5, _), (6, _), (7, _), (8, _)] [(0, _), (3, _), (1, _), (2, _)] (fun (_ : Unit) => [(29, .bool (decide (k < (dg 1000000000 y).length ∨ 0 < c)))]) (fun (_ : Unit) => []) (fun (_ : Unit) => True) K6 K4 ?_ ?_
  ·refine Zd <|mv J J <|mv J J <|dt (Zv J J (i := 2) J Zi uT37) J <|dt (Xb J J J) J <|mv J J <|Xo (d := 26) J (fun s98 => ?_) (fun s98 => ?_)
   ·exact Yx J J J J J <|Yx J J J J J <|dt (Yk J J J) J <|Zc <|Xj () trivial ⟨by first | exact congrArg some (congrArg Value.bool (decide_eq_decide.2 (by omega))) | exact congrArg some (congrArg Value.bool (decide_eq_true (by omega)).symm), rfl, rfl, rfl, rfl, rfl, rfl, trivial⟩ K4
   ·exact Yl (Zx J J) J J J J <|Yl (Xc J J J) J J J J <|dt (Ya J J J) J <|Zc <|Xj () trivial ⟨by first | exact congrArg some (congrArg Value.bool (decide_eq_decide.2 (by omega))) | exact congrArg some (congrArg Value.bool (decide_eq_true (by omega)).symm), rfl, rfl, rfl, rfl, rfl, rfl, trivial⟩ K4
  ·rintro _ -
   simp only [List.cons_append, List.nil_append]
   refine Zp J (fun h98 => ?_) (fun h98 => ?_)
   ·refine Zk <|Za <|Zb <|Zo <|Zb <|Zd <|mv J J <|mv J J <|mv J J <|dt (n_add J J J (by omega)) J <|dt (Yh (ii := 3) (i := (i + k)) J J J J (Yp pN) uT37 zT3 (by omega) (by omega)) J <|dt (Yu (ii := 3) 0 J J J (Yp pN) pN (by omega)) J <|mv J J <|dt (n_add J J J (by have h1 := getD_lt D_pos hpa (i + k); omega)) J <|Zl J J <|Zc <|Za <|Qw [(0, _), (1, _), (5, _), (6, _), (8, _)] [(0, _), (3, _), (1, _), (2, _)] (fun (_ : Unit) => [(9, .int .i64 ((p.getD (i + k) 0 + c + (dg 1000000000 x).getD i 0 * (dg 1000000000 y).getD k 0 : Nat) : Int))]) (fun (_ : Unit) => []) (fun (_ : Unit) => True) K5 K4 ?_ ?_
    ·refine Zb <|Zd <|mv J J <|mv J J <|dt (Zv J J (i := 2) J Zi uT37) J <|dt (Xb J J J) J <|Zc <|Za <|Zp J (fun h100 => ?_) (fun h100 => ?_)
     ·refine Xg (fun _ => False) [(0, 0), (1, 0), (2, 0), (3, 0), (4, 0), (5, 0), (6, 0), (7, 0), (8, 0), (9, 0), (10, 0), (11, 3)] (by kernel_rfl) ?_ ?_
      ·kernel_rfl
      refine r0' J J J J (st0 (Zx J J)) <|r0' J J J J (st0 (Zx J J)) <|r0' J J J J (st0 (Zx J J)) <|r0' J J J J (st0 (Yh (ii := 1) J J J J Zi uT37 zT3 J (by first | omega | (simp only [List.length_set]; omega)))) <|r0' J J J J (st0 (Yu (ii := 1) 0 J J J Zi pN (by first | omega | (simp only [List.length_set]; omega)))) <|r0' J J J J (st0 (Zx J J)) <|r0' J J J J (st0 (Zx J J)) <|r0' J J J J (st0 (Yh (ii := 2) J J J J Zi uT37 zT3 J (by first | omega | (simp only [List.length_set]; omega)))) <|r0' J J J J (st0 (Yu (ii := 2) 0 J J J Zi pN (by first | omega | (simp only [List.length_set]; omega)))) <|r0' J J J J (st0 (n_mul J J J (by have h1 := hdig.2; omega))) <|r0' J J J J (st0 (n_add J J J hdig.2)) <|r3' J J (Qd (Qg J J) J J) fun _ _ => Xq ?_
      try (have hz : (dg 1000000000 y).getD k 0 = 0 := dg_getD0 (by omega))
      exact Xj () trivial ⟨by first | rfl | (rw [hz, Nat.mul_zero]; rfl), rfl, rfl, rfl, rfl, rfl, trivial⟩ K4
     ·refine Zk ?_
      try (have hz : (dg 1000000000 y).getD k 0 = 0 := dg_getD0 (by omega))
      exact Xj () trivial ⟨by first | rfl | (rw [hz, Nat.mul_zero]; rfl), rfl, rfl, rfl, rfl, rfl, trivial⟩ K4
    ·rintro _ -
     simp only [List.cons_append, List.nil_append]
     exact Zb <|Zd <|mv J J <|mv J J <|mv J J <|dt (n_add J J J (by omega)) J <|mv J J <|dt (n_rem (n := 1000000000) J J J (by omega)) J <|dt (Yh (ii := 3) (i := (i + k)) J J J J (Yp pN) uT37 zT3 (by omega) (by omega)) J <|tt (Qt (i := 3) (enc := encN) _ J J J J J J (by decide) pN (by omega) J hw) J fun _ _ => Zc <|Za <|Zd <|mv J J <|dt (n_quo (n := 1000000000) J J J hdig.2 (by omega)) J <|Zl J J <|Zc <|Xm <|Za <|Zd <|mv J J <|dt (Yj J J J ⟨by omega, by omega⟩) J <|Zl J J <|Zc <|Yy (k + 1, _, _) ⟨⟨by dsimp only; omega, fun h => by dsimp only at h ⊢; rw [dg_getD0 (by omega : (dg 1000000000 y).length ≤ k), hpz (i + k) (by omega) (by omega), Nat.mul_zero]; omega⟩, by simp; omega, all_set hpa _ _ (Nat.mod_lt _ D_pos), fun j hj hj2 => by dsimp only at hj ⊢; rw [getD_set _ _ _ _ _ (by omega), if_neg (by omega)]; exact hpz j (by omega) hj2, hdig.1, times_step hpv (by omega)⟩ (by first | omega | (dsimp only <;> omega)) K6 K4
   ·refine Ys <|Zu <|Zu <|Xs <|Xm <|Za <|Zd <|mv J J <|dt (Yj J J J ⟨by omega, by omega⟩) J <|Zl J J <|Zc ?_
    have hc0 : c = 0 := by omega
    have hvf := hpv
    rw [hc0, Nat.zero_mul, Nat.add_zero, take_dg_all (x := y) (k := k) two_D (by omega)] at hvf
    exact Yy (i + 1, _) ⟨by first | omega | (dsimp only <;> omega), hpl, hpa, fun j hj => hpz j (by dsimp only at hj; omega) (by dsimp only at hj; omega), by dsimp only; rw [hvf, val_take_succ, Nat.add_mul]⟩ (by first | omega | (dsimp only <;> omega)) K4 K4
 ·refine Ys <|Zu <|Zu <|Xs <|Za <|Zb <|Zd <|mv J J <|tt (Zg (n := 3) (Qq _ _) J J J K1 cF60 (Xk 3 J J pN Zf) J hw) J fun _ _ => Xt (s_tz 3 J J pN) <|Zl J J <|Zc <|Za <|Zr ?_
  obtain rfl : i = (dg 1000000000 x).length := by omega
  have hx : tz o = dg 1000000000 (x * y) := by
   rw [← dg_val two_D _ hoa, hv, take_dg_all two_D (Nat.le_refl _)]
  exact Zs (.inl J) hsc _ _ (fun a w hs => Yr hs Tryz.results96 J) J trivial J (Xz 3 J J pN (by rw [hx] <;> rfl) Zj)
theorem r_small (v : Value) (x n : Nat) (hx : bl x ≤ 4294967296) (hn : n < 1000000000) : Cal Tryz.prog 97 #[v, .int .i64 (n : Int)] [d9p v x] true (G := Value) (fun r => True) (fun r => r) (fun r => [d9p r (x * n)]) := by
 refine Yb Tryz.func97 J Tryz.ntmps97 J K1 ?_
 intro w0 sc hw hsc
 simp only [Zn, Zm]
 refine Zb <|Zd <|Zl J J <|Zc <|Za <|Zb <|Zb <|Zd <|mv J J <|dt (Xy J J J) J <|Zc <|Za <|Zp J (fun h112 => ?_) (fun h112 => ?_)
 ·exact Zb <|Zd <|Zl J J <|Zc <|Za <|Zr <|Yt <|Xh (Qb 9 1 3 encN) <|Zs (.inl J) hsc (.slice none 0 0) _ (fun a w hs => Yr hs Tryz.results97 J) J trivial J (Xz 9 J J pN (by rw [show n = 0 by omega, Nat.mul_zero] <;> rfl) Zj)
 ·have hn0 : n ≠ 0 := by omega
  exact Zk <|Za <|Zb <|Zd <|mv J J <|mv J J <|tt (Xp (i := 70) (ivs := [(0, _)]) (enc := encN) [n] J J J K2 uT37 Tryz.ti3 J J J J J J pN.cells J J hw) J fun v _ => Xt (s_oeq 70 (dg_digit two_D hn hn0).symm J J) <|tt (Zg (n := 2) (r_times _ _ _ n hx (by have := (bl_le 30 n).2 (by omega); omega)) J J J K2 cF96 (Ze 1 J J J (Xk 70 J J pN Zf)) J hw) J fun v_2 _ => Zl J J <|Zc <|Za <|Zr <|Zs (.inl J) hsc _ _ (fun a w hs => Yr hs Tryz.results97 J) J trivial J (Xa 2 J J J Zj)
set_option maxHeartbeats 4000000 in
theorem r_over (v w : Value) (x y : Nat) (hx : bl x ≤ 4000000000) (hy : bl y ≤ 4000000000) (hy0 : 0 < y) : Cal Tryz.prog 112 #[v, w] [d9p v x, d9p w y] true (G := Value × Value) (fun r => True) (fun r => .tuple #[r.1, r.2]) (fun r => [d9p r.1 (x / y), d9p r.2 (x % y)]) := by
 refine Yb Tryz.func112 J Tryz.ntmps112 J K2 ?_
 intro w0 sc hw hsc
 simp only [Zn, Zm]
 have hX := len9_bl x
 have hY := len9_bl y
 refine Zb <|Zd <|Zl J J <|Zl J J <|Zc <|Za <|Zb <|Zd <|mv J J <|dt (Zv J J (i := 1) J Zi uT37) J <|tt (Qx (i := 3) (n := (dg 1000000000 x).length) (by_ := 8) (enc := encN) 0 J J J J J (by omega) uT37 Tryz.ti3 J pN.cells pN.pos J J (by omega) (by decide) J hw) J fun v _ => Zl J J <|Zc <|Za <|Zb <|Zd <|Zl J J <|Zc <|Za <|Zb <|Zb <|Zd <|mv J J <|dt (Zv J J (i := 1) J Zi uT37) J <|dt (Xd J J J ⟨by omega, by omega⟩) J <|Zl J J <|Zc <|Za <|Zo <|Ye (Qb 71 1 3 encN) <|Ye (Xl 71 J J pN) ?_
 refine Xw [(0, _), (1, _), (6, _)] [(0, _), (1, _), (2, _)] (fun (q : Nat × List Nat × Nat × Value) => [(8, .int .i64 ((q.1 : Int) - 1)), (7, q.2.2.2)]) (fun (q : Nat × List Nat × Nat × Value) => [(3, osl 1 3 encN v q.2.1), (71, d9p q.2.2.2 q.2.2.1)]) (fun (q : Nat × List Nat × Nat × Value) => (q.1 ≤ (dg 1000000000 x).length) ∧ (q.2.1.length = (dg 1000000000 x).length) ∧ (∀ d ∈ q.2.1, d < 1000000000) ∧ (∀ j, j < q.1 → q.2.1.getD j 0 = 0) ∧ (val 1000000000 (q.2.1.drop q.1) * y + q.2.2.1 = x / 1000000000 ^ q.1) ∧ (q.2.2.1 < y)) (fun (q : Nat × List Nat × Nat × Value) => q.1) ((dg 1000000000 x).length, List.replicate (dg 1000000000 x).length 0, 0, .slice none 0 0) ⟨Nat.le_refl _, by simp, all_replicate _ D_pos, fun j _ => getD_replicate _ j, by dsimp only; rw [Nat.div_eq_of_lt ((dg_length_le two_D _ x).1 (Nat.le_refl _))]; simp [val], hy0⟩ K5 K5 ?_
 rintro ⟨k, q, r, vr⟩ ⟨hk, hql, hqa, hqz, hv, hr⟩
 dsimp only at hk hql hqa hqz hv hr
 simp only [List.cons_append, List.nil_append]
 refine Zb <|Zb <|Zd <|mv J J <|dt (Qi J J J) J <|Zc <|Za <|Zp J (fun h122 => ?_) (fun h122 => ?_)
 ·have hk0 : 0 < k := by omega
  have ha9 := getD_lt D_pos (dg_lt two_D x) (k - 1)
  have hdig : x / 1000000000 ^ (k - 1) = x / 1000000000 ^ k * 1000000000 + (dg 1000000000 x).getD (k - 1) 0 := by rw [dg_getD two_D]; exact (over_digit hk0).symm
  rw [← hv, Nat.add_mul] at hdig
  have hrb := bl_over hr ha9
  have hQ9 := over_Q hr ha9
  refine Zk <|Za <|Zb <|Zo <|Zb <|Zd <|mv J J <|mv J J <|dt (Yh (ii := 1) (i := (k - 1)) J J J J Zi uT37 zT3 (by omega) (by omega)) J <|dt (Yu (ii := 1) 0 J J J Zi pN (by omega)) J <|tt (Xp (i := 72) (ivs := [(0, _)]) (enc := encN) [(dg 1000000000 x).getD (k - 1) 0] J J J K2 uT37 Tryz.ti3 J J J J J J pN.cells J J hw) J fun v_2 _ => mv J J <|tt (Qv (i := 72) (j := 71) (by_ := 8) J J J J J J (by decide) J Zi uT37 Tryz.ti3 J pN J J J (by have h8 := len9_bl r; have h9 := bl_mono (Nat.le_of_lt hr); simp; omega) (by decide) J hw) J fun v_3 _ => tt (Zg (n := 3) (Qq _ _) J J J K1 cF60 (Xk 72 J J pN Zf) J hw) J fun _ _ => Xt (s_tz 72 J J pN) <|Xt (s_oeq 72 (tz_cons two_D ha9) J J) <|Xt (Xl 72 J J pN) <|Zl J J <|Zc <|Za <|Zb <|Zb <|Zd <|mv J J <|mv J J <|tt (Zg (n := 3) (r_order _ _ _ _ (by omega) (by omega)) J J J K2 cF93 (Ze 72 J J J (Ze 2 J J J Zf)) J hw) J fun _ _ => dt (Xb J J J) J <|Zc <|Za <|Zp J (fun h124 => ?_) (fun h124 => ?_)
  ·have hlt : (r * 1000000000 + (dg 1000000000 x).getD (k - 1) 0) < y := cmpI_neg.1 h124
   refine Ys <|Zu <|Xs <|Za <|Zd <|mv J J <|dt (Xd J J J ⟨by omega, by omega⟩) J <|Zl J J <|Zc <|Xh (Xv 72 71 J J J) ?_
   have h2 := drop_val0 hk0 (by omega : k ≤ q.length) (hqz (k - 1) (by omega))
   exact Yy (k - 1, q, (r * 1000000000 + (dg 1000000000 x).getD (k - 1) 0), _) ⟨by first | omega | (dsimp only <;> omega), by first | omega | (dsimp only <;> omega), by first | omega | (dsimp only <;> omega), fun j hj => hqz j (by dsimp only at hj; omega), by have h9 : 1000000000 * val 1000000000 (q.drop k) * y = val 1000000000 (q.drop k) * y * 1000000000 := (by rw [Nat.mul_assoc, Nat.mul_comm]); dsimp only; rw [h2, hdig, h9]; omega, hlt⟩ (by first | omega | (dsimp only <;> omega)) ⟨by rw [show (((k - 1 : Nat) : Int) - 1) = (k : Int) - 1 - 1 by omega]; rfl, rfl, rfl, rfl, rfl, trivial⟩ K5
  ·have hge : y ≤ (r * 1000000000 + (dg 1000000000 x).getD (k - 1) 0) := by have := mt cmpI_neg.2 h124; omega
   refine Zk <|Za <|Zb <|Zd <|Zl J J <|Zl J J <|Zc <|Za <|Zb <|Zo <|Xw [(0, _), (1, _), (6, _), (7, _), (8, _)] [(0, _), (3, _), (71, _), (1, _), (2, _), (72, _)] (fun (q : Nat × Nat) => [(9, .int .i64 (q.1 : Int)), (10, .int .i64 (q.2 : Int))]) (fun (q : Nat × Nat) => []) (fun (q : Nat × Nat) => (q.1 ≤ (r * 1000000000 + (dg 1000000000 x).getD (k - 1) 0) / y) ∧ ((r * 1000000000 + (dg 1000000000 x).getD (k - 1) 0) / y ≤ q.2) ∧ (q.2 < 1000000000)) (fun (q : Nat × Nat) => q.2 - q.1) (0, 999999999) ⟨Nat.zero_le _, by omega, by first | omega | (dsimp only <;> omega)⟩ K7 K6 ?_
   rintro ⟨lo, hi⟩ ⟨hlo, hhi, hh9⟩
   dsimp only at hlo hhi hh9
   simp only [List.cons_append, List.nil_append]
   have hmid : (lo + hi + 1) / 2 < 1000000000 := by omega
   refine Zb <|Zb <|Zd <|mv J J <|mv J J <|dt (Xb J J J) J <|Zc <|Za <|Zp J (fun h128 => ?_) (fun h128 => ?_)
   ·refine Zk <|Za <|Zo <|Zb <|Zd <|mv J J <|mv J J <|dt (n_add J J J (by omega)) J <|dt (n_add (n := 1) J J J (by omega)) J <|dt (n_quo (n := 2) J J J (by omega) (by omega)) J <|Zl J J <|Zc <|Za <|Zb <|Zd <|mv J J <|mv J J <|tt (Zg (n := 4) (r_small _ _ _ (by omega) (by omega)) J J J K2 cF97 (Ze 2 J J J Zf) J hw) J fun v_4 _ => mv J J <|tt (Zg (n := 4) (r_order _ _ _ _ (by have := bl_small (y := y) hmid; omega) (by omega)) J J J K2 cF93 (Ze 4 J J J (Ze 72 J J J Zf)) J hw) J fun _ _ => dt (d_leq J J J) J <|Zc <|Za <|Zp J (fun h130 => ?_) (fun h130 => ?_)
    ·have hcm : y * ((lo + hi + 1) / 2) ≤ (r * 1000000000 + (dg 1000000000 x).getD (k - 1) 0) := cmpI_le.1 h130
     exact Zd <|mv J J <|Zl J J <|Zc <|Xm <|Yy ((lo + hi + 1) / 2, hi) ⟨(Nat.le_div_iff_mul_le hy0).2 (by rw [Nat.mul_comm]; exact hcm), by first | omega | (dsimp only <;> omega), by first | omega | (dsimp only <;> omega)⟩ (by first | omega | (dsimp only <;> omega)) K7 K6
    ·have hcm : (r * 1000000000 + (dg 1000000000 x).getD (k - 1) 0) < y * ((lo + hi + 1) / 2) := by have := mt cmpI_le.2 h130; omega
     exact Zd <|mv J J <|dt (Xd J J J ⟨by omega, by omega⟩) J <|Zl J J <|Zc <|Xm <|Yy (lo, (lo + hi + 1) / 2 - 1) ⟨by first | omega | (dsimp only <;> omega), by have h7 := (Nat.div_lt_iff_lt_mul hy0).2 (show (r * 1000000000 + (dg 1000000000 x).getD (k - 1) 0) < (lo + hi + 1) / 2 * y by have h6 := Nat.mul_comm ((lo + hi + 1) / 2) y; omega); dsimp only; omega, by first | omega | (dsimp only <;> omega)⟩ (by first | omega | (dsimp only <;> omega)) ⟨J, by rw [show (((lo + hi + 1) / 2 - 1 : Nat) : Int) = (((lo + hi + 1) / 2 : Nat) : Int) - 1 by omega]; rfl, rfl, rfl, rfl, rfl, rfl, trivial⟩ K6
   ·have hloQ : lo = (r * 1000000000 + (dg 1000000000 x).getD (k - 1) 0) / y := by omega
    refine Ys <|Zu <|Zu <|Xs <|Za <|Zb <|Zd <|mv J J <|mv J J <|mv J J <|dt (Yh (ii := 3) (i := (k - 1)) J J J J (Yp pN) uT37 zT3 (by omega) (by omega)) J <|tt (Qt (i := 3) (enc := encN) _ J J J J J J (by decide) pN (by omega) J hw) J fun _ _ => Zc <|Za <|Zd <|mv J J <|mv J J <|mv J J <|tt (Zg (n := 5) (r_small _ _ _ (by omega) (by omega)) J J J K2 cF97 (Ze 2 J J J Zf) J hw) J fun v_5 _ => tt (Zg (n := 6) (r_minus _ _ _ _ (by omega) (by rw [hloQ]; exact Nat.mul_div_le _ _)) J J J K2 cF94 (Ze 72 J J J (Ze 5 J J J Zf)) J hw) J fun v_6 _ => Zl J J <|Zc <|Xm <|Za <|Zd <|mv J J <|dt (Xd J J J ⟨by omega, by omega⟩) J <|Zl J J <|Zc <|Xh (Xv 6 71 J J J) ?_
    have h2 := drop_set_val (d := lo) hk0 (by omega : k ≤ q.length)
    have h16 : y * lo ≤ (r * 1000000000 + (dg 1000000000 x).getD (k - 1) 0) := by rw [hloQ]; exact Nat.mul_div_le _ _
    exact Yy (k - 1, _, (r * 1000000000 + (dg 1000000000 x).getD (k - 1) 0) - y * lo, _) ⟨by first | omega | (dsimp only <;> omega), by simp [hql], all_set hqa _ _ (by omega), fun j hj => by dsimp only at hj ⊢; rw [getD_set _ _ _ _ _ (by omega), if_neg (by omega)]; exact hqz j (by omega), by have h9 : 1000000000 * val 1000000000 (q.drop k) * y = val 1000000000 (q.drop k) * y * 1000000000 := (by rw [Nat.mul_assoc, Nat.mul_comm]); dsimp only; rw [h2, hdig, Nat.add_mul, h9]; have h5 : lo * y = y * lo := Nat.mul_comm _ _; omega, by dsimp only; rw [hloQ]; have h5 := Nat.div_add_mod (r * 1000000000 + (dg 1000000000 x).getD (k - 1) 0) y; have h6 := Nat.mod_lt (r * 1000000000 + (dg 1000000000 x).getD (k - 1) 0) hy0; omega⟩ (by first | omega | (dsimp only <;> omega)) ⟨by rw [show (((k - 1 : Nat) : Int) - 1) = (k : Int) - 1 - 1 by omega]; rfl, rfl, rfl, rfl, rfl, trivial⟩ K5
 ·refine Ys <|Zu <|Zu <|Xs <|Za <|Zb <|Zd <|mv J J <|tt (Zg (n := 6) (Qq _ _) J J J K1 cF60 (Xk 3 J J pN Zf) J hw) J fun _ _ => Xt (s_tz 3 J J pN) <|mv J J <|Zl J J <|Zl J J <|Zc <|Za <|Zr ?_
  obtain rfl : k = 0 := by omega
  rw [List.drop_zero, Nat.pow_zero, Nat.div_one] at hv
  have hq : val 1000000000 q = x / y := by rw [← hv, Nat.mul_comm, Nat.mul_add_div hy0, Nat.div_eq_of_lt hr, Nat.add_zero]
  have hr2 : r = x % y := by rw [← hv, Nat.mul_comm, Nat.mul_add_mod, Nat.mod_eq_of_lt hr]
  have hx : tz q = dg 1000000000 (x / y) := by rw [← dg_val two_D _ hqa, hq]
  exact Zs (.inl J) hsc (_, _) _ (fun a w hs => Xu hs Tryz.results112 J J) J trivial J (Xz 3 J J pN (by rw [hx] <;> rfl) (Yo 71 J J J (by rw [hr2] <;> rfl) Zj))
theorem r_made (s : Bool) (v : Value) (n : Nat) (z : Int) (hn : n = z.natAbs) (hs : sg s z) (hb : bl n ≤ 4294967296) : Cal Tryz.prog 91 #[.bool s, v] [d9p v n] false (G := Unit) (fun _ => True) (fun _ => .agg #[.bool (decide (z < 0)), v]) (fun _ => []) := by
 refine Yb Tryz.func91 J Tryz.ntmps91 J K1 ?_
 intro w0 sc hw hsc
 simp only [Zn, Zm]
 have hl9 := len9_bl n
 refine Zb <|Zd <|tt (Zw (i := 2) J J J Tryz.zeroValue39 J J hw) J fun b _ => Zc <|Za <|Zb <|Zd <|mv J J <|mv J J <|Pb (d := 6) J (fun s143 => ?_) (fun s143 => ?_)
 ·exact Yl (Zx J J) J J J J <|Yl (Zv J J (i := 1) J Zi uT37) J J J J <|Yl (Xc J J J) J J J J <|dt (Yk J J J) J <|mv J J <|dt (Qc (ivs := [(0, _), (1, _)]) J K4 (fun a w hs => b39_01 ((Zh J) a w hs) ((Zt (i := 1) J Zi) a w hs))) J <|tt (Zq (i := 2) J J J J J (by decide) J zT39 J J ⟨(Zh J), (Zt (i := 1) J Zi), trivial⟩ J hw trivial) J fun _ _ => Zc <|Za <|Zr <|Zs (.inl J) hsc () _ (fun a w hs => Yr hs Tryz.results91 (Yq (i := 2) J J iA39 zT39 J)) (by rw [← made_b hn hs, ← len_pos9]; simp_all) trivial J Zj
 ·exact Yx J J J J J <|Yx J J J J J <|Yx J J J J J <|dt (Ya J J J) J <|mv J J <|dt (Qc (ivs := [(0, _), (1, _)]) J K4 (fun a w hs => b39_01 ((Zh J) a w hs) ((Zt (i := 1) J Zi) a w hs))) J <|tt (Zq (i := 2) J J J J J (by decide) J zT39 J J ⟨(Zh J), (Zt (i := 1) J Zi), trivial⟩ J hw trivial) J fun _ _ => Zc <|Za <|Zr <|Zs (.inl J) hsc () _ (fun a w hs => Yr hs Tryz.results91 (Yq (i := 2) J J iA39 zT39 J)) (by rw [← made_b hn hs, ← len_pos9]; simp_all) trivial J Zj
theorem r_neg (v : Value) (x : Int) (hx : bl x.natAbs ≤ 3000000000) : Cal Tryz.prog 41 #[.agg #[.bool (decide (x < 0)), v]] [d9p v x.natAbs] true (G := Value) (fun r => True) (fun r => .agg #[.bool (decide (-x < 0)), r]) (fun r => [d9p r (-x).natAbs]) := by
 refine Yb Tryz.func41 J Tryz.ntmps41 J K1 ?_
 intro w0 sc hw hsc
 simp only [Zn, Zm]
 exact Zb <|Zd <|tt (Ym (i := 2) J J J J J J hw) J fun b _ => tt (Zw (i := 3) J J J Tryz.zeroValue39 J J hw) J fun b_2 _ => Zc <|Za <|Zb <|Zd <|dt (Yi J J uT39 J zT4 J J) J <|dt (Xe (i := 2) J J J iA4 J) J <|dt (Xn J J) J <|dt (Yi J J uT39 J zT37 J J) J <|dt (Xe (i := 2) J J J iA37 J) J <|tt (Zg (n := 3) (r_made _ _ _ (-x) (Int.natAbs_neg x).symm (sg_neg (sg_dec x)) (by omega)) J J J K2 cF91 (Ze 1 J J J Zf) J hw) J fun _ _ => tt (Zq (i := 3) J J J J J (by decide) J zT39 J J ⟨(Zh J), (Zt (i := 1) J Zi), trivial⟩ J hw trivial) J fun _ _ => Zc <|Za <|Zr <|Zs (.inl J) hsc _ _ (fun a w hs => Yr hs Tryz.results41 (Yq (i := 3) J J iA39 zT39 J)) J trivial J (Yo 1 J J J (by rw [Int.natAbs_neg] <;> rfl) Zj)
theorem r_add (v w : Value) (x y : Int) (hx : bl x.natAbs ≤ 3000000000) (hy : bl y.natAbs ≤ 3000000000) : Cal Tryz.prog 42 #[.agg #[.bool (decide (x < 0)), v], .agg #[.bool (decide (y < 0)), w]] [d9p v x.natAbs, d9p w y.natAbs] true (G := Value) (fun r => True) (fun r => .agg #[.bool (decide (x + y < 0)), r]) (fun r => [d9p r (x + y).natAbs]) := by
 refine Yb Tryz.func42 J Tryz.ntmps42 J K2 ?_
 intro w0 sc hw hsc
 simp only [Zn, Zm]
 have hb := bl_iadd x y
 refine Zb <|Zd <|tt (Ym (i := 3) J J J J J J hw) J fun b _ => tt (Ym (i := 4) J J J J J J hw) J fun b_2 _ => tt (Zw (i := 5) J J J Tryz.zeroValue39 J J hw) J fun b_3 _ => Zc <|Za <|Zb <|Zb <|Zd <|dt (Yi J J uT39 J zT4 J J) J <|dt (Xe (i := 3) J J J iA4 J) J <|dt (Yi J J uT39 J zT4 J J) J <|dt (Xe (i := 4) J J J iA4 J) J <|dt (d_eqb J J J uT4) J <|Zc <|Za <|Qr J (fun h189 => ?_) (fun h189 => ?_)
 ·replace h189 := beq_dec h189
  refine Zb <|Xg (fun _ => False) [(0, 0), (1, 0), (2, 0), (3, 0), (4, 0), (5, 0), (6, 1), (7, 1), (8, 3)] (by kernel_rfl) ?_ ?_
  ·kernel_rfl
  exact r0' J J J J (st0 (Yi J J uT39 J zT4 J J)) <|r0' J J J J (st0 (Xe (i := 3) J J J iA4 J)) <|r0' J J J J (st0 (Yi J J uT39 J zT37 J J)) <|r0' J J J J (st0 (Xe (i := 3) J J J iA37 J)) <|r0' J J J J (st0 (Yi J J uT39 J zT37 J J)) <|r0' J J J J (st0 (Xe (i := 4) J J J iA37 J)) <|r1' J J (Zg (n := 6) (r_plus _ _ _ _ (by omega) (by omega)) J J J K2 cF92 (Ze 1 J J J (Ze 2 J J J Zf)) J hw) fun v _ => r1' J J (Zg (n := 6) (r_made _ _ _ (x + y) (abs_add1 (sg_dec x) (h189 ▸ sg_dec y)).symm (sg_add1 (sg_dec x) (h189 ▸ sg_dec y)) (by rw [← abs_add1 (sg_dec x) (h189 ▸ sg_dec y)]; omega)) J J J K2 cF91 (Ze 6 J J J Zf) J hw) fun _ _ => r3' J J (Zq (i := 5) J J J J J (by decide) J zT39 J J ⟨(Zh J), (Zt (i := 6) J Zi), trivial⟩ J hw trivial) fun _ _ => Xq <|Za <|Zr <|Yt <|Zs (.inl J) hsc _ _ (fun a w hs => Yr hs Tryz.results42 (Yq (i := 5) J J iA39 zT39 J)) J trivial J (Yo 6 J J J (by rw [abs_add1 (sg_dec x) (h189 ▸ sg_dec y)] <;> rfl) Zj)
 ·have hne : decide (x < 0) ≠ decide (y < 0) := by simpa using h189
  refine Zk <|Za <|Zb <|Zb <|Zd <|dt (Yi J J uT39 J zT37 J J) J <|dt (Xe (i := 3) J J J iA37 J) J <|dt (Yi J J uT39 J zT37 J J) J <|dt (Xe (i := 4) J J J iA37 J) J <|tt (Zg (n := 6) (r_order _ _ _ _ (by omega) (by omega)) J J J K2 cF93 (Ze 1 J J J (Ze 2 J J J Zf)) J hw) J fun _ _ => dt (Qi J J J) J <|Zc <|Za <|Zp J (fun h192 => ?_) (fun h192 => ?_)
  ·have hge : y.natAbs ≤ x.natAbs := cmpI_ge.1 h192
   refine Zb <|Xg (fun _ => False) [(0, 0), (1, 0), (2, 0), (3, 0), (4, 0), (5, 0), (6, 1), (7, 1), (8, 3)] (by kernel_rfl) ?_ ?_
   ·kernel_rfl
   exact r0' J J J J (st0 (Yi J J uT39 J zT4 J J)) <|r0' J J J J (st0 (Xe (i := 3) J J J iA4 J)) <|r0' J J J J (st0 (Yi J J uT39 J zT37 J J)) <|r0' J J J J (st0 (Xe (i := 3) J J J iA37 J)) <|r0' J J J J (st0 (Yi J J uT39 J zT37 J J)) <|r0' J J J J (st0 (Xe (i := 4) J J J iA37 J)) <|r1' J J (Zg (n := 7) (r_minus _ _ _ _ (by omega) hge) J J J K2 cF94 (Ze 1 J J J (Ze 2 J J J Zf)) J hw) fun v_2 _ => r1' J J (Zg (n := 7) (r_made _ _ _ (x + y) (abs_add2 (sg_dec x) (sg_dec y) hne hge).symm (sg_add2 (sg_dec x) (sg_dec y) hne hge) (by have := bl_mono (Nat.sub_le x.natAbs y.natAbs); omega)) J J J K2 cF91 (Ze 7 J J J Zf) J hw) fun _ _ => r3' J J (Zq (i := 5) J J J J J (by decide) J zT39 J J ⟨(Zh J), (Zt (i := 7) J Zi), trivial⟩ J hw trivial) fun _ _ => Xq <|Za <|Zr <|Yt <|Zs (.inl J) hsc _ _ (fun a w hs => Yr hs Tryz.results42 (Yq (i := 5) J J iA39 zT39 J)) J trivial J (Yo 7 J J J (by rw [abs_add2 (sg_dec x) (sg_dec y) hne hge] <;> rfl) Zj)
  ·have hge : x.natAbs ≤ y.natAbs := by have := mt cmpI_ge.2 h192; omega
   refine Zk <|Za <|Zb <|Xg (fun _ => False) [(0, 0), (1, 0), (2, 0), (3, 0), (4, 0), (5, 0), (6, 1), (7, 1), (8, 3)] (by kernel_rfl) ?_ ?_
   ·kernel_rfl
   exact r0' J J J J (st0 (Yi J J uT39 J zT4 J J)) <|r0' J J J J (st0 (Xe (i := 4) J J J iA4 J)) <|r0' J J J J (st0 (Yi J J uT39 J zT37 J J)) <|r0' J J J J (st0 (Xe (i := 4) J J J iA37 J)) <|r0' J J J J (st0 (Yi J J uT39 J zT37 J J)) <|r0' J J J J (st0 (Xe (i := 3) J J J iA37 J)) <|r1' J J (Zg (n := 8) (r_minus _ _ _ _ (by omega) hge) J J J K2 cF94 (Ze 2 J J J (Ze 1 J J J Zf)) J hw) fun v_3 _ => r1' J J (Zg (n := 8) (r_made _ _ _ (x + y) (by rw [Int.add_comm x]; exact (abs_add2 (sg_dec y) (sg_dec x) (Ne.symm hne) hge).symm) (by rw [Int.add_comm x]; exact sg_add2 (sg_dec y) (sg_dec x) (Ne.symm hne) hge) (by have := bl_mono (Nat.sub_le y.natAbs x.natAbs); omega)) J J J K2 cF91 (Ze 8 J J J Zf) J hw) fun _ _ => r3' J J (Zq (i := 5) J J J J J (by decide) J zT39 J J ⟨(Zh J), (Zt (i := 8) J Zi), trivial⟩ J hw trivial) fun _ _ => Xq <|Za <|Zr <|Zs (.inl J) hsc _ _ (fun a w hs => Yr hs Tryz.results42 (Yq (i := 5) J J iA39 zT39 J)) J trivial J (Yo 8 J J J (by rw [Int.add_comm x, abs_add2 (sg_dec y) (sg_dec x) (Ne.symm hne) hge] <;> rfl) Zj)
theorem r_sub (v w : Value) (x y : Int) (hx : bl x.natAbs ≤ 3000000000) (hy : bl y.natAbs ≤ 3000000000) : Cal Tryz.prog 95 #[.agg #[.bool (decide (x < 0)), v], .agg #[.bool (decide (y < 0)), w]] [d9p v x.natAbs, d9p w y.natAbs] true (G := Value) (fun r => True) (fun r => .agg #[.bool (decide (x - y < 0)), r]) (fun r => [d9p r (x - y).natAbs]) := by
 refine Yb Tryz.func95 J Tryz.ntmps95 J K2 ?_
 intro w0 sc hw hsc
 simp only [Zn, Zm]
 have hb := bl_isub x y
 have hn := bl_neg y
 refine Zb <|Zd <|tt (Ym (i := 3) J J J J J J hw) J fun b _ => tt (Ym (i := 4) J J J J J J hw) J fun b_2 _ => tt (Zw (i := 5) J J J Tryz.zeroValue39 J J hw) J fun b_3 _ => Zc <|Za <|Zb <|Xg (fun _ => False) [(0, 0), (1, 0), (2, 1), (3, 1), (4, 3)] (by kernel_rfl) ?_ ?_
 ·kernel_rfl
 exact r0' J J J J (st0 (Yc (i := 3) J J J iA39 zT39 J J)) <|r0' J J J J (st0 (Yc (i := 4) J J J iA39 zT39 J J)) <|r1' J J (Zg (n := 6) (r_neg _ _ (by omega)) J J J K1 cF41 (Ze 2 J J J Zf) J hw) fun v _ => r1' J J (Zg (n := 7) (r_add _ _ _ _ (by omega) (by omega)) J J J K2 cF42 (Ze 1 J J J (Ze 6 J J J Zf)) J hw) fun v_2 _ => r3' J J (Zq (i := 5) J J J J J (by decide) J zT39 J J ⟨(Zh J), (Zt (i := 7) J Zi), trivial⟩ J hw trivial) fun _ _ => Xq <|Za <|Zr <|Zs (.inl J) hsc _ _ (fun a w hs => Yr hs Tryz.results95 (Yq (i := 5) J J iA39 zT39 J)) (by rw [Int.sub_eq_add_neg] <;> rfl) trivial J (Yo 7 J J J (by rw [Int.sub_eq_add_neg] <;> rfl) Zj)
theorem Qy (v w : Value) (x y : Int) (hx : bl x.natAbs ≤ 1000000000) (hy : bl y.natAbs ≤ 1000000000) : Cal Tryz.prog 44 #[.agg #[.bool (decide (x < 0)), v], .agg #[.bool (decide (y < 0)), w]] [d9p v x.natAbs, d9p w y.natAbs] true (G := Value) (fun r => True) (fun r => .agg #[.bool (decide (x * y < 0)), r]) (fun r => [d9p r (x * y).natAbs]) := by
 refine Yb Tryz.func44 J Tryz.ntmps44 J K2 ?_
 intro w0 sc hw hsc
 simp only [Zn, Zm]
 have hb := bl_imul x y
 refine Zb <|Zd <|tt (Ym (i := 3) J J J J J J hw) J fun b _ => tt (Ym (i := 4) J J J J J J hw) J fun b_2 _ => tt (Zw (i := 5) J J J Tryz.zeroValue39 J J hw) J fun b_3 _ => Zc <|Za <|Zb <|Xg (fun _ => False) [(0, 0), (1, 0), (2, 0), (3, 0), (4, 0), (5, 0), (6, 0), (7, 0), (8, 0), (9, 1), (10, 1), (11, 3)] (by kernel_rfl) ?_ ?_
 ·kernel_rfl
 exact r0' J J J J (st0 (Yi J J uT39 J zT4 J J)) <|r0' J J J J (st0 (Xe (i := 3) J J J iA4 J)) <|r0' J J J J (st0 (Yi J J uT39 J zT4 J J)) <|r0' J J J J (st0 (Xe (i := 4) J J J iA4 J)) <|r0' J J J J (st0 (d_neb J J J uT4)) <|r0' J J J J (st0 (Yi J J uT39 J zT37 J J)) <|r0' J J J J (st0 (Xe (i := 3) J J J iA37 J)) <|r0' J J J J (st0 (Yi J J uT39 J zT37 J J)) <|r0' J J J J (st0 (Xe (i := 4) J J J iA37 J)) <|r1' J J (Zg (n := 6) (r_times _ _ _ _ (by omega) (by omega)) J J J K2 cF96 (Ze 1 J J J (Ze 2 J J J Zf)) J hw) fun v _ => r1' J J (Zg (n := 6) (r_made _ _ _ (x * y) (Int.natAbs_mul x y).symm (sg_mul (sg_dec x) (sg_dec y)) (by rw [← Int.natAbs_mul]; omega)) J J J K2 cF91 (Ze 6 J J J Zf) J hw) fun _ _ => r3' J J (Zq (i := 5) J J J J J (by decide) J zT39 J J ⟨(Zh J), (Zt (i := 6) J Zi), trivial⟩ J hw trivial) fun _ _ => Xq <|Za <|Zr <|Zs (.inl J) hsc _ _ (fun a w hs => Yr hs Tryz.results44 (Yq (i := 5) J J iA39 zT39 J)) J trivial J (Yo 6 J J J (by rw [Int.natAbs_mul] <;> rfl) Zj)
theorem r_sign (v : Value) (x : Int) (hx : bl x.natAbs ≤ 3000000000) : Cal Tryz.prog 61 #[.agg #[.bool (decide (x < 0)), v]] [d9p v x.natAbs] false (G := Unit) (fun _ => True) (fun _ => .int .i64 x.sign) (fun _ => []) := by
 refine Yb Tryz.func61 J Tryz.ntmps61 J K1 ?_
 intro w0 sc hw hsc
 simp only [Zn, Zm]
 have hl9 := len9_bl x.natAbs
 refine Zb <|Zd <|tt (Ym (i := 2) J J J J J J hw) J fun b _ => Zl J J <|Zc <|Za <|Zb <|Zb <|Zd <|dt (Yi J J uT39 J zT37 J J) J <|dt (Xe (i := 2) J J J iA37 J) J <|dt (Zv J J (i := 1) J Zi uT37) J <|dt (Xy J J J) J <|Zc <|Za <|Zp J (fun h206 => ?_) (fun h206 => ?_)
 ·exact Zb <|Zd <|Zl J J <|Zc <|Za <|Zr <|Yt <|Zs (.inl J) hsc () _ (fun a w hs => Yr hs Tryz.results61 J) (sign9 h206) trivial J Zj
 ·refine Zk <|Za <|Zb <|Zb <|Zd <|dt (Yi J J uT39 J zT4 J J) J <|dt (Xe (i := 2) J J J iA4 J) J <|Zc <|Za <|Qr J (fun h209 => ?_) (fun h209 => ?_)
  ·exact Zb <|Zd <|Zl J J <|Zc <|Za <|Zr <|Yt <|Zs (.inl J) hsc () _ (fun a w hs => Yr hs Tryz.results61 J) (by rw [Int.sign_eq_neg_one_of_neg (by simpa using h209)]) trivial J Zj
  ·exact Zk <|Za <|Zb <|Zd <|Zl J J <|Zc <|Za <|Zr <|Zs (.inl J) hsc () _ (fun a w hs => Yr hs Tryz.results61 J) (by have h3 := len9_pos h206; have h4 : ¬ x < 0 := (by simpa using h209); rw [Int.sign_eq_one_of_pos (by omega)]) trivial J Zj
theorem r_compare (v w : Value) (x y : Int) (hx : bl x.natAbs ≤ 2000000000) (hy : bl y.natAbs ≤ 2000000000) : Cal Tryz.prog 62 #[.agg #[.bool (decide (x < 0)), v], .agg #[.bool (decide (y < 0)), w]] [d9p v x.natAbs, d9p w y.natAbs] false (G := Unit) (fun _ => True) (fun _ => .int .i64 (x - y).sign) (fun _ => []) := by
 refine Yb Tryz.func62 J Tryz.ntmps62 J K2 ?_
 intro w0 sc hw hsc
 simp only [Zn, Zm]
 have hb := bl_isub x y
 exact Zb <|Zd <|tt (Ym (i := 3) J J J J J J hw) J fun b _ => tt (Ym (i := 4) J J J J J J hw) J fun b_2 _ => Zl J J <|Zc <|Za <|Zb <|Zd <|dt (Yc (i := 3) J J J iA39 zT39 J J) J <|dt (Yc (i := 4) J J J iA39 zT39 J J) J <|tt (Zg (n := 5) (r_sub _ _ _ _ (by omega) (by omega)) J J J K2 cF95 (Ze 1 J J J (Ze 2 J J J Zf)) J hw) J fun v _ => tt (Zg (n := 5) (r_sign _ _ (by omega)) J J J K1 cF61 (Ze 5 J J J Zf) J hw) J fun _ _ => Zl J J <|Zc <|Za <|Zr <|Zs (.inl J) hsc () _ (fun a w hs => Yr hs Tryz.results62 J) J trivial J Zj
theorem r_num (x : Int) (hx : inI x) : Cal Tryz.prog 43 #[.int .i64 x] [] true (G := Value) (fun r => True) (fun r => .agg #[.bool (decide (x < 0)), r]) (fun r => [d9p r (x).natAbs]) := by
 refine Yb Tryz.func43 J Tryz.ntmps43 J trivial ?_
 intro w0 sc hw hsc
 simp only [Zn, Zm]
 have hxa := hx.1
 have hxb := hx.2
 refine Ye (Qb 60 1 3 encN) <|Ye (Xl 60 J J pN) <|Zb <|Zd <|tt (Zw (i := 1) J J J Tryz.zeroValue39 J J hw) J fun b _ => Zc <|Za <|Zb <|Zb <|Zd <|mv J J <|dt (Qi J J J) J <|Zc <|Za <|Zp J (fun h147 => ?_) (fun h147 => ?_)
 ·obtain ⟨m, rfl⟩ : ∃ m : Nat, x = (m : Int) := ⟨x.natAbs, by omega⟩
  have hbm : bl m ≤ 64 := (bl_le 64 m).2 (by omega)
  exact Zb <|Zd <|mv J J <|dt (n_rem (n := 1000000000) J J J (by omega)) J <|mv J J <|dt (n_quo (n := 1000000000) J J J (by omega) (by omega)) J <|dt (n_rem (n := 1000000000) J J J (by omega)) J <|mv J J <|dt (n_quo (n := 1000000000) J J J (by omega) (by omega)) J <|dt (n_quo (n := 1000000000) J J J (by omega) (by omega)) J <|tt (Xp (i := 70) (ivs := [(0, _), (1, _), (2, _)]) (enc := encN) [m % 1000000000, m / 1000000000 % 1000000000, m / 1000000000 / 1000000000] J J J K6 uT37 Tryz.ti3 J J J J J J pN.cells J J hw) J fun v _ => tt (Zg (n := 1) (Qq _ _) J J J K1 cF60 (Xk 70 J J pN Zf) J hw) J fun _ _ => Xt (s_tz 70 J J pN) <|Xt (s_oeq 70 (tz_three (by omega)) J J) <|tt (Zg (n := 1) (r_made _ _ _ ((m : Int)) (by omega) (by simp [sg]) (by omega)) J J J K2 cF91 (Xk 70 J J pN Zf) J hw) J fun _ _ => tt (Zq (i := 1) J J J J J (by decide) J zT39 J J ⟨(Zh J), (Zt (i := 70) J (Yp pN)), trivial⟩ J hw trivial) J fun _ _ => Zc <|Za <|Zr <|Yt <|Zs (.inl J) hsc _ _ (fun a w hs => Yr hs Tryz.results43 (Yq (i := 1) J J iA39 zT39 J)) J trivial J (Xz 70 J J pN (by rw [Int.natAbs_natCast] <;> rfl) Zj)
 ·obtain ⟨m, rfl⟩ : ∃ m : Nat, x = -(m : Int) := ⟨x.natAbs, by omega⟩
  have hbm : bl m ≤ 64 := (bl_le 64 m).2 (by omega)
  refine Zk <|Za <|Zb <|Zd <|mv J J <|dt (nn_rem (n := 1000000000) J J J (by omega)) J <|dt (n_neg J J (by omega)) J <|mv J J <|dt (nn_quo (n := 1000000000) J J J (by omega) (by omega)) J <|dt (nn_rem (n := 1000000000) J J J (by omega)) J <|dt (n_neg J J (by omega)) J <|mv J J <|dt (nn_quo (n := 1000000000) J J J (by omega) (by omega)) J <|dt (nn_quo (n := 1000000000) J J J (by omega) (by omega)) J <|dt (n_neg J J (by omega)) J <|tt (Xp (i := 70) (ivs := [(0, _), (1, _), (2, _)]) (enc := encN) [m % 1000000000, m / 1000000000 % 1000000000, m / 1000000000 / 1000000000] J J J K6 uT37 Tryz.ti3 J J J J J J pN.cells J J hw) J fun v_2 _ => tt (Zg (n := 1) (Qq _ _) J J J K1 cF60 (Xk 70 J J pN Zf) J hw) J fun _ _ => Xt (s_tz 70 J J pN) <|Xt (s_oeq 70 (tz_three (by omega)) J J) <|Xt (s_oeq 70 (ys := dg 1000000000 (-(m : Int)).natAbs) (by rw [Int.natAbs_neg, Int.natAbs_natCast]) J J) <|Xt (Xl 70 J J pN) <|tt (Zg (n := 1) (r_made _ _ _ ((-(m : Int))) J (by simp [sg]) (by rw [Int.natAbs_neg, Int.natAbs_natCast]; omega)) J J J K2 cF91 (Ze 70 J J J Zf) J hw) J fun _ _ => dt (Qc (ivs := []) J trivial (fun a w hs => b39_)) J ?_
  exact tt (Zg (n := 2) (r_sub _ _ (-(m : Int)) 0 (by rw [Int.natAbs_neg, Int.natAbs_natCast]; omega) (by decide)) J J J K2 cF95 (Ze 70 J J J (Ze 60 J J J Zf)) J hw) J fun v_3 _ => tt (Zq (i := 1) J J J J J (by decide) J zT39 J J ⟨(Zh J), (Zt (i := 2) J Zi), trivial⟩ J hw trivial) J fun _ _ => Zc <|Za <|Zr <|Zs (.inl J) hsc _ _ (fun a w hs => Yr hs Tryz.results43 (Yq (i := 1) J J iA39 zT39 J)) (by rw [Int.sub_zero] <;> rfl) trivial J (Yo 2 J J J (by rw [Int.sub_zero] <;> rfl) Zj)
theorem r_from (x : Int) (hx : bl x.natAbs ≤ 2000000000) : Cal Tryz.prog 49 #[wv x] [] true (G := Value) (fun r => True) (fun r => .agg #[.bool (decide (x < 0)), r]) (fun r => [d9p r (x).natAbs]) := by
 refine Yb Tryz.func49 J Tryz.ntmps49 J trivial ?_
 intro w0 sc hw hsc
 simp only [Zn, Zm]
 obtain ⟨n, hn⟩ : ∃ n, n = x.natAbs := ⟨_, rfl⟩
 have hl8 := len256 n
 have hxn : bl n ≤ 2000000000 := by rw [hn]; exact hx
 have hsz : (bstr x.natAbs).size = (dg 256 n).length := by rw [← hn]; exact bstr_size n
 refine Zb <|Zd <|tt (Ym (i := 1) J J J J J J hw) J fun b _ => tt (Zw (i := 2) J J J Tryz.zeroValue39 J J hw) J fun b_2 _ => Zc <|Za <|Zb <|Zd <|Zl J J <|Zc <|Za <|Zb <|Zb <|Zd <|Zl J J <|Zc <|Za <|Zo <|Ye (Qb 70 1 3 encN) <|Ye (Xl 70 J J pN) <|Xw [(1, _), (2, _)] [(0, _), (1, _), (2, _)] (fun (q : Nat × Value) => [(4, .int .i64 (q.1 : Int)), (3, q.2)]) (fun (q : Nat × Value) => [(70, d9p q.2 (n / 256 ^ ((dg 256 n).length - q.1)))]) (fun (q : Nat × Value) => (q.1 ≤ (dg 256 n).length)) (fun (q : Nat × Value) => (dg 256 n).length - q.1) (0, .slice none 0 0) (by first | omega | (dsimp only <;> omega)) K4 ⟨by rw [from_zero]; rfl, rfl, rfl, rfl, trivial⟩ ?_
 rintro ⟨i, vd⟩ hi
 dsimp only at hi
 simp only [List.cons_append, List.nil_append]
 have hnb : bl (n / 256 ^ ((dg 256 n).length - i)) ≤ bl n := bl_mono (Nat.div_le_self _ _)
 refine Zb <|Zb <|Zd <|mv J J <|dt (Yi J J uT28 J zT9 J J) J <|dt (Xe (i := 1) J J J iA9 J) J <|dt (Xx J J uT9) J <|dt (Xb J J J) J <|Zc <|Za <|Zp J (fun h157 => ?_) (fun h157 => ?_)
 ·have hby : ((bstr x.natAbs).data.toList.getD i 0).toNat = n / 256 ^ ((dg 256 n).length - 1 - i) % 256 := by rw [← hn]; exact bstr_get n i (by omega)
  refine Zk <|Za <|Zb <|Zo <|Pe (fun _ => False) [10] (by kernel_rfl) <|Yg (n := 5) [(0, 0), (2, 0), (3, 0), (4, 0), (5, 0), (6, 0)] (by kernel_rfl) <|r0' J J J J (st0 (Zx J J)) <|r0' J J J J (st0 (Yi J J uT28 J zT9 J J)) <|r0' J J J J (st0 (Xe (i := 1) J J J iA9 J)) <|r0' J J J J (st0 (Zx J J)) <|r0' J J J J (st0 (d_ixs (i := i) J J J uT9 J (by omega))) <|r0' J J J J (st0 (cv_i64 J J uT5 uT3 ⟨by omega, by rw [hby]; omega⟩)) <|Yv <|Qf (n := 4) 1 7 (by kernel_rfl) ?_ ?_
  ·exact Yz J J (Zg (n := 73) (r_small _ _ 256 (by omega) (by omega)) J J J K2 cF97 (Ze 70 J J J Zf) J hw) fun v _ => Yg (n := 2) [(7, 1), (8, 1)] (by kernel_rfl) <|r1' J J (Xp (i := 72) (ivs := [(0, _)]) (enc := encN) [((bstr x.natAbs).data.toList.getD i 0).toNat] J J J K2 uT37 Tryz.ti3 J J J J J J pN.cells J J hw) fun v_2 _ => r1' J J (Zg (n := 2) (Qq _ _) J J J K1 cF60 (Xk 72 J J pN Zf) J hw) fun _ _ => Yv <|a_imp (s_tz 72 J J pN) <|a_imp (s_oeq 72 (tz_one two_D (by rw [hby]; omega)) J J) <|Yg (n := 0) [(9, 1), (10, 3)] (by kernel_rfl) <|r1' J J (Zg (n := 74) (r_plus _ _ _ _ (by have := bl_small (y := (n / 256 ^ ((dg 256 n).length - i))) (n := 256) (by omega); omega) (by rw [hby]; exact Nat.le_trans (bl_mod8 _) (by omega))) J J J K2 cF92 (Ze 73 J J J (Xk 72 J J pN Zf)) J hw) fun v_3 _ => r3' J J (Qd (Qg J J) J J) fun _ _ => Yv <|Yw (by kernel_rfl) <|Xm <|Za <|Zd <|mv J J <|dt (Yj J J J ⟨by omega, by omega⟩) J <|Zl J J <|Zc <|Xh (Xv 74 70 J J J) <|Yy (i + 1, _) (by first | omega | (dsimp only <;> omega)) (by first | omega | (dsimp only <;> omega)) K4 ⟨by rw [hby, from_step (by omega)]; rfl, rfl, rfl, rfl, trivial⟩
  ·exact Yz J J (Xp (i := 72) (ivs := [(0, _)]) (enc := encN) [((bstr x.natAbs).data.toList.getD i 0).toNat] J J J K2 uT37 Tryz.ti3 J J J J J J pN.cells J J hw) fun v_4 _ => Yg (n := 2) [(1, 1), (8, 1)] (by kernel_rfl) <|r1' J J (Zg (n := 73) (r_small _ _ 256 (by omega) (by omega)) J J J K2 cF97 (Ze 70 J J J Zf) J hw) fun v_5 _ => r1' J J (Zg (n := 2) (Qq _ _) J J J K1 cF60 (Xk 72 J J pN Zf) J hw) fun _ _ => Yv <|a_imp (s_tz 72 J J pN) <|a_imp (s_oeq 72 (tz_one two_D (by rw [hby]; omega)) J J) <|Yg (n := 0) [(9, 1), (10, 3)] (by kernel_rfl) <|r1' J J (Zg (n := 74) (r_plus _ _ _ _ (by have := bl_small (y := (n / 256 ^ ((dg 256 n).length - i))) (n := 256) (by omega); omega) (by rw [hby]; exact Nat.le_trans (bl_mod8 _) (by omega))) J J J K2 cF92 (Ze 73 J J J (Xk 72 J J pN Zf)) J hw) fun v_6 _ => r3' J J (Qd (Qg J J) J J) fun _ _ => Yv <|Yw (by kernel_rfl) <|Xm <|Za <|Zd <|mv J J <|dt (Yj J J J ⟨by omega, by omega⟩) J <|Zl J J <|Zc <|Xh (Xv 74 70 J J J) <|Yy (i + 1, _) (by first | omega | (dsimp only <;> omega)) (by first | omega | (dsimp only <;> omega)) K4 ⟨by rw [hby, from_step (by omega)]; rfl, rfl, rfl, rfl, trivial⟩
 ·refine Ys <|Zu <|Zu <|Xs <|Za <|Zb ?_
  obtain rfl : i = (dg 256 n).length := by omega
  rw [Nat.sub_self, Nat.pow_zero, Nat.div_one]
  exact Zd <|dt (Yi J J uT28 J zT4 J J) J <|dt (Xe (i := 1) J J J iA4 J) J <|mv J J <|tt (Zg (n := 2) (r_made _ _ _ (x) hn (sg_dec x) (by rw [hn]; omega)) J J J K2 cF91 (Ze 70 J J J Zf) J hw) J fun _ _ => tt (Zq (i := 2) J J J J J (by decide) J zT39 J J ⟨(Zh J), (Zt (i := 70) J Zi), trivial⟩ J hw trivial) J fun _ _ => Zc <|Za <|Zr <|Zs (.inl J) hsc _ _ (fun a w hs => Yr hs Tryz.results49 (Yq (i := 2) J J iA39 zT39 J)) J trivial J (Yo 70 J J J (by rw [hn] <;> rfl) Zj)
set_option maxHeartbeats 4000000 in
theorem r_to (v : Value) (x : Int) (hx : bl x.natAbs ≤ 4000000000) : Cal Tryz.prog 17 #[.agg #[.bool (decide (x < 0)), v]] [d9p v x.natAbs] false (G := Unit) (fun _ => True) (fun _ => wv x) (fun _ => []) := by
 refine Yb Tryz.func17 J Tryz.ntmps17 J K1 ?_
 intro w0 sc hw hsc
 simp only [Zn, Zm]
 obtain ⟨n, hn⟩ : ∃ n, n = x.natAbs := ⟨_, rfl⟩
 have hxn : bl n ≤ 4000000000 := by rw [hn]; exact hx
 have hlx := len9_bl x.natAbs
 refine Zb <|Zd <|tt (Ym (i := 2) J J J J J J hw) J fun b _ => tt (Zw (i := 3) J J J Tryz.zeroValue28 J J hw) J fun b_2 _ => Zc <|Za <|Zb <|Zd <|Zl J J <|Zc <|Za <|Zb <|Zd <|dt (Yi J J uT39 J zT37 J J) J <|dt (Xe (i := 2) J J J iA37 J) J <|Xt (Qb 81 1 3 encN) <|tt (Qv (i := 81) (j := 1) (by_ := 8) J J J J J J (by decide) J Zi uT37 Tryz.ti3 J pN J J J (by simp; omega) (by decide) J hw) J fun v _ => Zl J J <|Zc <|Za <|Zb <|Zo <|Ye (Qb 80 1 5 encB) <|Xw [(1, _), (2, _)] [(0, _), (1, _), (2, _), (3, _)] (fun (q : Nat × List Nat × Value × Value) => [(3, q.2.2.1), (4, q.2.2.2)]) (fun (q : Nat × List Nat × Value × Value) => [(80, osl 1 5 encB q.2.2.1 q.2.1), (81, osl 1 3 encN q.2.2.2 (dg 1000000000 q.1))]) (fun (q : Nat × List Nat × Value × Value) => (val 256 q.2.1 + 256 ^ q.2.1.length * q.1 = n) ∧ (∀ d ∈ q.2.1, d < 256) ∧ (q.2.1.length = 0 ∨ 256 ^ (q.2.1.length - 1) ≤ n) ∧ (bl q.1 ≤ bl n)) (fun (q : Nat × List Nat × Value × Value) => q.1) (n, [], .slice none 0 0, _) ⟨by simp [val], by simp, .inl rfl, Nat.le_refl _⟩ K4 ⟨J, by rw [hn]; rfl, rfl, rfl, rfl, rfl, trivial⟩ ?_
 rintro ⟨m, bs, vb, vd⟩ ⟨hv, hba, hge, hmn⟩
 dsimp only at hv hba hge hmn
 simp only [List.cons_append, List.nil_append]
 have hlm := len9_bl m
 refine Zb <|Zb <|Zd <|mv J J <|dt (Zv J J (i := 81) J (Yp pN) uT37) J <|dt (Xc J J J) J <|Zc <|Za <|Zp J (fun h167 => ?_) (fun h167 => ?_)
 ·have hm0 : 0 < m := len9_pos (by omega)
  have hgn := to_ge hv hm0
  have hbl := to_len hgn
  refine Zk <|Za <|Zo <|Zb <|Zd <|Zl J J <|Zc <|Za <|Zb <|Zb <|Zd <|mv J J <|dt (Zv J J (i := 81) J (Yp pN) uT37) J <|dt (Xd J J J ⟨by omega, by omega⟩) J <|Zl J J <|Zc <|Za <|Zo <|Xw [(1, _), (2, _), (3, _), (4, _)] [(0, _), (80, _), (1, _), (2, _), (3, _)] (fun (q : Nat × List Nat × Nat) => [(6, .int .i64 ((q.1 : Int) - 1)), (5, .int .i64 (q.2.2 : Int))]) (fun (q : Nat × List Nat × Nat) => [(81, osl 1 3 encN vd q.2.1)]) (fun (q : Nat × List Nat × Nat) => (q.1 ≤ (dg 1000000000 m).length) ∧ (q.2.1.length = (dg 1000000000 m).length) ∧ (∀ d ∈ q.2.1, d < 1000000000) ∧ (∀ j, j < q.1 → q.2.1.getD j 0 = (dg 1000000000 m).getD j 0) ∧ (q.2.2 < 256) ∧ (val 1000000000 (q.2.1.drop q.1) * 256 + q.2.2 = val 1000000000 ((dg 1000000000 m).drop q.1))) (fun (q : Nat × List Nat × Nat) => q.1) ((dg 1000000000 m).length, dg 1000000000 m, 0) ⟨Nat.le_refl _, J, dg_lt two_D m, fun j _ => J, by first | omega | (dsimp only <;> omega), by simp [List.drop_length, val]⟩ K6 K6 ?_
  rintro ⟨k, p, r⟩ ⟨hk, hpl, hpa, hpk, hr, hpv⟩
  dsimp only at hk hpl hpa hpk hr hpv
  simp only [List.cons_append, List.nil_append]
  have hda := getD_lt D_pos (dg_lt two_D m) (k - 1)
  refine Zb <|Zb <|Zd <|mv J J <|dt (Qi J J J) J <|Zc <|Za <|Zp J (fun h169 => ?_) (fun h169 => ?_)
  ·refine Zk <|Za <|Zb <|Zo <|Zb <|Zd <|mv J J <|dt (n_mul (n := 1000000000) J J J (by omega)) J <|mv J J <|mv J J <|dt (Yh (ii := 81) (i := (k - 1)) J J J J (Yp pN) uT37 zT3 (by omega) (by omega)) J <|dt (Yu (ii := 81) 0 J J J (Yp pN) pN (by omega)) J <|dt (n_add J J J (by have := getD_lt D_pos hpa (k - 1); omega)) J <|Zl J J <|Zc <|Za <|Zb <|Zd <|mv J J <|mv J J <|mv J J <|dt (n_quo (n := 256) J J J (by have := getD_lt D_pos hpa (k - 1); omega) (by omega)) J <|dt (Yh (ii := 81) (i := (k - 1)) J J J J (Yp pN) uT37 zT3 (by omega) (by omega)) J <|tt (Qt (i := 81) (enc := encN) _ J J J J J J (by decide) pN (by omega) J hw) J fun _ _ => Zc <|Za <|Zd <|mv J J <|dt (n_rem (n := 256) J J J (by omega)) J <|Zl J J <|Zc <|Xm <|Za <|Zd <|mv J J <|dt (Xd J J J ⟨by omega, by omega⟩) J <|Zl J J <|Zc ?_
   exact Yy (k - 1, _, _) ⟨by first | omega | (dsimp only <;> omega), by simp [hpl], all_set hpa _ _ (to_digit hr (getD_lt D_pos hpa _)), fun j hj => by dsimp only at hj ⊢; rw [getD_set _ _ _ _ _ (by omega), if_neg (by omega)]; exact hpk j (by omega), Nat.mod_lt _ (by omega), by dsimp only; rw [hpk (k - 1) (by omega)]; exact to_step (by omega) (by omega) (by omega) hpv⟩ (by first | omega | (dsimp only <;> omega)) ⟨by rw [show (((k - 1 : Nat) : Int) - 1) = (k : Int) - 1 - 1 by omega]; rfl, rfl, rfl, rfl, rfl, rfl, trivial⟩ K6
  ·refine Ys <|Zu <|Zu <|Xs <|Za <|Zb ?_
   obtain rfl : k = 0 := by omega
   rw [List.drop_zero, List.drop_zero, val_dg two_D] at hpv
   have hmr : m % 256 = r % 256 := by omega
   have hdm : dg 1000000000 (m / 256) = tz p := by rw [← dg_val two_D p hpa]; congr 1; omega
   exact Zd <|mv J J <|mv J J <|dt (cv_u8 J J uT3 uT5) J <|tt (Xp (i := 4) (ivs := [(0, _)]) (enc := encB) [r % 256] J J J K2 uT26 Tryz.ti5 J J J J J J pB.cells J J hw) J fun v_2 _ => tt (Qv (i := 80) (j := 4) (by_ := 1) J J J J J J (by decide) J (Yp pB) uT26 Tryz.ti5 J pB J J J (by simp; omega) (by decide) J hw) J fun v_3 _ => Zl J J <|Zc <|Za <|Zd <|mv J J <|tt (Zg (n := 4) (Qq _ _) J J J K1 cF60 (Xk 81 J J pN Zf) J hw) J fun _ _ => Xt (s_tz 81 J J pN) <|Zl J J <|Zc <|Xm <|Yy (m / 256, bs ++ [m % 256], _, _) ⟨to_push hv, all_snoc hba (Nat.mod_lt _ (by omega)), .inr (by simpa using hgn), Nat.le_trans (bl_mono (Nat.div_le_self _ _)) hmn⟩ (Nat.div_lt_self hm0 (by omega)) K4 ⟨by rw [hmr] ; rfl, by rw [hdm]; rfl, rfl, rfl, rfl, rfl, trivial⟩
 ·have hm0 : m = 0 := (dg_nil_iff two_D m).1 (by omega)
  have hbs : bs = dg 256 n := tz_full (by omega) hba (by rw [hm0, Nat.mul_zero, Nat.add_zero] at hv; exact hv) hge
  have hlb : bs.length ≤ 4000000000 := by rw [hbs, len256]; omega
  refine Ys <|Zu <|Zu <|Xs <|Za <|Zb <|Zd <|Zl J J <|Zc <|Za <|Zb <|Zb <|Zd <|mv J J <|dt (Zv J J (i := 80) J (Yp pB) uT26) J <|dt (Xd J J J ⟨by omega, by omega⟩) J <|Zl J J <|Zc <|Za <|Zo <|Ye (Qb 82 1 5 encB) <|Xw [(1, _), (2, _), (3, _)] [(0, _), (80, _), (81, _), (1, _), (2, _), (3, _)] (fun (q : Nat × Value) => [(8, .int .i64 ((q.1 : Int) - 1)), (7, q.2)]) (fun (q : Nat × Value) => [(82, osl 1 5 encB q.2 (bs.drop q.1).reverse)]) (fun (q : Nat × Value) => (q.1 ≤ bs.length)) (fun (q : Nat × Value) => q.1) (bs.length, .slice none 0 0) (Nat.le_refl _) K5 ⟨by rw [List.drop_length]; rfl, rfl, rfl, rfl, rfl, rfl, rfl, trivial⟩ ?_
  rintro ⟨k, vo⟩ hk
  dsimp only at hk
  simp only [List.cons_append, List.nil_append]
  have hdl : (bs.drop k).length = bs.length - k := List.length_drop
  refine Zb <|Zb <|Zd <|mv J J <|dt (Qi J J J) J <|Zc <|Za <|Zp J (fun h178 => ?_) (fun h178 => ?_)
  ·exact Zk <|Za <|Zb <|Zo <|Zd <|mv J J <|mv J J <|mv J J <|dt (Yh (ii := 80) (i := (k - 1)) J J J J (Yp pB) uT26 zT5 (by omega) (by omega)) J <|dt (Yu (ii := 80) 0 J J J (Yp pB) pB (by omega)) J <|tt (Xp (i := 5) (ivs := [(0, _)]) (enc := encB) [bs.getD (k - 1) 0] J J J K2 uT26 Tryz.ti5 J J J J J J pB.cells J J hw) J fun v_4 _ => tt (Qv (i := 82) (j := 5) (by_ := 1) J J J J J J (by decide) J (Yp pB) uT26 Tryz.ti5 J pB J J J (by simp; omega) (by decide) J hw) J fun v_5 _ => Zl J J <|Zc <|Xm <|Za <|Zd <|mv J J <|dt (Xd J J J ⟨by omega, by omega⟩) J <|Zl J J <|Zc <|Yy (k - 1, _) (by first | omega | (dsimp only <;> omega)) (by first | omega | (dsimp only <;> omega)) ⟨by rw [show (((k - 1 : Nat) : Int) - 1) = (k : Int) - 1 - 1 by omega]; rfl, rfl, rfl, rfl, rfl, trivial⟩ ⟨by rw [← drop_rev (by omega) hk]; rfl, rfl, rfl, rfl, rfl, rfl, rfl, trivial⟩
  ·refine Ys <|Zu <|Zu <|Xs <|Za <|Zb <|Zd <|dt (Yi J J uT39 J zT4 J J) J <|dt (Xe (i := 2) J J J iA4 J) J <|mv J J <|dt (d_b2s J J (i := 82) J (Yp pB) uT26 uT9 uT5) J <|dt (Qc (ivs := [(0, _), (1, _)]) J K4 (fun a w hs => b28_01 ((Zh J) a w hs) ((Zh J) a w hs))) J <|tt (Zq (i := 3) J J J J J (by decide) J zT28 J J ⟨(Zh J), (Zh J), trivial⟩ J hw trivial) J fun _ _ => Zc <|Za <|Zr ?_
   obtain rfl : k = 0 := by omega
   exact Zs (.inl J) hsc () _ (fun a w hs => Yr hs Tryz.results17 (Yq (i := 3) J J iA28 zT28 J)) (by rw [bstr_bs hbs, hn] <;> rfl) trivial J Zj
theorem r_bits (v : Value) (x : Int) (hx : bl x.natAbs ≤ 4000000000) : Cal Tryz.prog 111 #[.agg #[.bool (decide (x < 0)), v]] [d9p v x.natAbs] false (G := Unit) (fun _ => True) (fun _ => .int .i64 (bl x.natAbs : Int)) (fun _ => []) := by
 refine Yb Tryz.func111 J Tryz.ntmps111 J K1 ?_
 intro w0 sc hw hsc
 simp only [Zn, Zm]
 have hl8 := len256 x.natAbs
 have hsz := bstr_size x.natAbs
 refine Zb <|Zd <|tt (Ym (i := 2) J J J J J J hw) J fun b _ => Zl J J <|Zc <|Za <|Zb <|Zd <|dt (Yc (i := 2) J J J iA39 zT39 J J) J <|tt (Zg (n := 2) (r_to _ _ hx) J J J K1 cF17 (Ze 1 J J J Zf) J hw) J fun _ _ => dt (d_fld J J uT28 J iA9 J) J <|Zl J J <|Zc <|Za <|Zb <|Zb <|Zd <|mv J J <|dt (Xx J J uT9) J <|dt (Xy J J J) J <|Zc <|Za <|Zp J (fun h260 => ?_) (fun h260 => ?_)
 ·exact Zb <|Zd <|Zl J J <|Zc <|Za <|Zr <|Yt <|Zs (.inl J) hsc () _ (fun a w hs => Yr hs Tryz.results111 J) (by have h1 : x.natAbs = 0 := (dg_nil_iff (by omega : 2 ≤ 256) x.natAbs).1 (by omega); rw [h1] <;> rfl) trivial J Zj
 ·have hn0 : 0 < x.natAbs := by rcases Nat.eq_zero_or_pos x.natAbs with h | h; (rw [h] at h260; simp [bstr_size, dg_zero] at h260); exact h
  obtain ⟨htop, hlp⟩ := bl_top hn0
  have hby : ((bstr x.natAbs).data.toList.getD 0 0).toNat = x.natAbs / 256 ^ ((dg 256 x.natAbs).length - 1) % 256 := bstr_get x.natAbs 0 hlp
  refine Zk <|Za <|Zb <|Zd <|mv J J <|dt (Xx J J uT9) J <|dt (Xd J J J ⟨by omega, by omega⟩) J <|dt (d_mul J J J ⟨by omega, by omega⟩) J <|Zl J J <|Zc <|Za <|Zb <|Zb <|Zd <|mv J J <|dt (d_ixs (i := 0) J J J uT9 J (by omega)) J <|dt (cv_i64 J J uT5 uT3 ⟨by omega, by rw [hby]; omega⟩) J <|Zl J J <|Zc <|Za <|Zo <|Xw [] [(0, _), (1, _), (2, _)] (fun (q : Nat × Nat) => [(4, .int .i64 (q.2 : Int)), (5, .int .i64 (q.1 : Int))]) (fun (q : Nat × Nat) => []) (fun (q : Nat × Nat) => (q.2 + bl q.1 = bl x.natAbs) ∧ (q.1 < 256)) (fun (q : Nat × Nat) => q.1) (x.natAbs / 256 ^ ((dg 256 x.natAbs).length - 1) % 256, 8 * ((dg 256 x.natAbs).length - 1)) ⟨htop, Nat.mod_lt _ (by omega)⟩ ⟨by rw [hsz, show (8 : Int) * (((dg 256 x.natAbs).length : Int) - 1) = ((8 * ((dg 256 x.natAbs).length - 1) : Nat) : Int) by omega]; rfl, by rw [hby]; rfl, trivial⟩ K3 ?_
  rintro ⟨k, c⟩ ⟨hkc, hk8⟩
  dsimp only at hkc hk8
  simp only [List.cons_append, List.nil_append]
  refine Zb <|Zb <|Zd <|mv J J <|dt (Xc J J J) J <|Zc <|Za <|Zp J (fun h264 => ?_) (fun h264 => ?_)
  ·have hbh := bl_half (k := k) (by omega)
   exact Zk <|Za <|Zb <|Zo <|Zd <|mv J J <|dt (Yj J J J ⟨by omega, by omega⟩) J <|Zl J J <|Zc <|Xm <|Za <|Zd <|mv J J <|dt (d_quo J J J (by omega) (by omega) (by omega)) J <|Zl J J <|Zc <|Yy (k / 2, c + 1) ⟨by dsimp only; omega, by first | omega | (dsimp only <;> omega)⟩ (by first | omega | (dsimp only <;> omega)) ⟨by rfl, by exact congrArg some (i64_eq (by omega)), trivial⟩ K3
  ·exact Ys <|Zu <|Zu <|Xs <|Za <|Zb <|Zd <|mv J J <|Zl J J <|Zc <|Za <|Zr <|Zs (.inl J) hsc () _ (fun a w hs => Yr hs Tryz.results111 J) (by have h1 : k = 0 := (by omega); rw [← hkc, h1] <;> rfl) trivial J Zj
theorem r_big (v : Value) (x : Int) (hx : bl x.natAbs ≤ 4000000000) : Cal Tryz.prog 90 #[.agg #[.bool (decide (x < 0)), v]] [d9p v x.natAbs] false (G := Unit) (fun _ => True) (fun _ => .bool (decide ((65536 : Int) < (bl x.natAbs : Int)))) (fun _ => []) := by
 refine Yb Tryz.func90 J Tryz.ntmps90 J K1 ?_
 intro w0 sc hw hsc
 simp only [Zn, Zm]
 exact Zb <|Zd <|tt (Ym (i := 2) J J J J J J hw) J fun b _ => Zl J J <|Zc <|Za <|Zb <|Zd <|dt (Yc (i := 2) J J J iA39 zT39 J J) J <|tt (Zg (n := 2) (r_bits _ _ hx) J J J K1 cF111 (Ze 1 J J J Zf) J hw) J fun _ _ => dt (Xc J J J) J <|Zl J J <|Zc <|Za <|Zr <|Zs (.inl J) hsc () _ (fun a w hs => Yr hs Tryz.results90 J) J trivial J Zj
theorem r_gcd (v w : Value) (x y : Int) (hx : bl x.natAbs ≤ 3000000000) (hy : bl y.natAbs ≤ 3000000000) : Cal Tryz.prog 134 #[.agg #[.bool (decide (x < 0)), v], .agg #[.bool (decide (y < 0)), w]] [d9p v x.natAbs, d9p w y.natAbs] true (G := Value) (fun r => True) (fun r => .agg #[.bool (decide ((Int.gcd x y : Int) < 0)), r]) (fun r => [d9p r ((Int.gcd x y : Int)).natAbs]) := by
 refine Yb Tryz.func134 J Tryz.ntmps134 J K2 ?_
 intro w0 sc hw hsc
 simp only [Zn, Zm]
 refine Zb <|Zd <|tt (Ym (i := 3) J J J J J J hw) J fun b _ => tt (Ym (i := 4) J J J J J J hw) J fun b_2 _ => tt (Zw (i := 5) J J J Tryz.zeroValue39 J J hw) J fun b_3 _ => Zc <|Za <|Zb <|Xg (fun _ => False) [(0, 0), (1, 0), (2, 0), (3, 0), (4, 0), (5, 3)] (by kernel_rfl) ?_ ?_
 ·kernel_rfl
 refine r0' J J J J (st0 (Yi J J uT39 J zT37 J J)) <|r0' J J J J (st0 (Xe (i := 3) J J J iA37 J)) <|r0' J J J J (st0 (Yi J J uT39 J zT37 J J)) <|r0' J J J J (st0 (Xe (i := 4) J J J iA37 J)) <|r0' J J J J (st0 (Qg J J)) <|r3' J J (Qd (Qg J J) J J) fun _ _ => Xq <|Za <|Zb <|Zo <|Ye (Xv 1 91 J J J) <|Ye (Xv 2 92 J J J) <|Xw [(4, _)] [(0, _), (1, _), (2, _), (3, _), (4, _), (5, _)] (fun (q : Value × Value × Nat × Nat) => [(5, q.1), (6, q.2.1)]) (fun (q : Value × Value × Nat × Nat) => [(91, d9p q.1 q.2.2.1), (92, d9p q.2.1 q.2.2.2)]) (fun (q : Value × Value × Nat × Nat) => (Nat.gcd q.2.2.1 q.2.2.2 = Nat.gcd x.natAbs y.natAbs) ∧ (bl q.2.2.1 ≤ 3000000000) ∧ (bl q.2.2.2 ≤ 3000000000)) (fun (q : Value × Value × Nat × Nat) => q.2.2.2) (v, w, x.natAbs, y.natAbs) ⟨J, hx, hy⟩ K3 K8 ?_
 rintro ⟨va, vb, a, b⟩ ⟨hg, ha, hb⟩
 dsimp only at hg ha hb
 simp only [List.cons_append, List.nil_append]
 refine Zb <|Zb <|Zd <|mv J J <|dt (Zv J J (i := 92) J Zi uT37) J <|dt (Xc J J J) J <|Zc <|Za <|Zp J (fun h238 => ?_) (fun h238 => ?_)
 ·have hb0 : 0 < b := len9_pos (by omega)
  refine Zk <|Za <|Zo <|Zb <|Zd <|mv J J <|mv J J <|tt (Zg (n := 6) (r_over _ _ _ _ (by omega) (by omega) hb0) J J J K2 cF112 (Ze 91 J J J (Ze 92 J J J Zf)) J hw) J fun g _ => mv J J <|dt (Zy J J J) J <|dt (Zy J J J) J <|Zl J J <|Zl J J <|Zc <|Za <|Zd <|mv J J <|mv J J <|Zl J J <|Zl J J <|Zc <|Xm ?_
  have hlt : a % b < b := Nat.mod_lt _ hb0
  exact Xh (Xv 92 91 J J J) <|Xh (Xv 7 92 J J J) <|Yy (_, _, b, a % b) ⟨by dsimp only; rw [← hg, Nat.gcd_comm b, ← Nat.gcd_rec, Nat.gcd_comm], hb, Nat.le_trans (bl_mono (Nat.le_of_lt hlt)) hb⟩ hlt K3 K8
 ·have hb0 : b = 0 := (dg_nil_iff two_D b).1 (by omega)
  have ha0 : a = Nat.gcd x.natAbs y.natAbs := by rw [← hg, hb0, Nat.gcd_zero_right]
  exact Ys <|Zu <|Zu <|Xs <|Za <|Zb <|Zd <|mv J J <|tt (Zg (n := 7) (r_made _ _ _ ((Int.gcd x y : Int)) (by rw [ha0] <;> rfl) (by simp [sg]) (by omega)) J J J K2 cF91 (Ze 91 J J J Zf) J hw) J fun _ _ => tt (Zq (i := 5) J J J J J (by decide) J zT39 J J ⟨(Zh J), (Zt (i := 91) J Zi), trivial⟩ J hw trivial) J fun _ _ => Zc <|Za <|Zr <|Zs (.inl J) hsc _ _ (fun a w hs => Yr hs Tryz.results134 (Yq (i := 5) J J iA39 zT39 J)) J trivial J (Yo 91 J J J (by rw [ha0] <;> rfl) Zj)
set_option maxHeartbeats 4000000 in
theorem Qu (v w : Value) (x y : Int) (hx : bl x.natAbs ≤ 500000000) (hy : bl y.natAbs ≤ 500000000) (hy0 : y ≠ 0) : Cal Tryz.prog 63 #[.agg #[.bool (decide (x < 0)), v], .agg #[.bool (decide (y < 0)), w]] [d9p v x.natAbs, d9p w y.natAbs] true (G := Value × Value) (fun r => True) (fun r => .tuple #[.agg #[.bool (decide (x / y < 0)), r.1], .agg #[.bool (decide (x % y < 0)), r.2]]) (fun r => [d9p r.1 (x / y).natAbs, d9p r.2 (x % y).natAbs]) := by
 refine Yb Tryz.func63 J Tryz.ntmps63 J K2 ?_
 intro w0 sc hw hsc
 simp only [Zn, Zm]
 have hyp : 0 < y.natAbs := by omega
 have hb1 := bl_tdiv x y
 have hb2 := bl_tdivmul x y
 have hb3 := bl_isub x (x.tdiv y * y)
 have hsf := sub_fix (x := x) hy0
 have hb4 := bl_isub (x.tdiv y) 1
 have hb5 := bl_iadd (x.tdiv y) 1
 have hb6 : bl (1 : Int).natAbs ≤ 1 := by decide
 have hb7 := bl_imul (x.tdiv y - 1) y
 have hb8 := bl_imul (x.tdiv y + 1) y
 refine Zb <|Zd <|tt (Ym (i := 3) J J J J J J hw) J fun b _ => tt (Ym (i := 4) J J J J J J hw) J fun b_2 _ => tt (Zw (i := 5) J J J Tryz.zeroValue39 J J hw) J fun b_3 _ => tt (Zw (i := 6) J J J Tryz.zeroValue39 J J hw) J fun b_4 _ => Zc <|Za <|Zb <|Zd <|dt (Yi J J uT39 J zT37 J J) J <|dt (Xe (i := 3) J J J iA37 J) J <|dt (Yi J J uT39 J zT37 J J) J <|dt (Xe (i := 4) J J J iA37 J) J <|tt (Zg (n := 70) (r_over _ _ _ _ (by omega) (by omega) hyp) J J J K2 cF112 (Ze 1 J J J (Ze 2 J J J Zf)) J hw) J fun g _ => mv J J <|dt (Zy J J J) J <|dt (Zy J J J) J <|Zl J J <|Zl J J <|Zc <|Za <|Zb <|Zd <|dt (Yi J J uT39 J zT4 J J) J <|dt (Xe (i := 3) J J J iA4 J) J <|dt (Yi J J uT39 J zT4 J J) J <|dt (Xe (i := 4) J J J iA4 J) J <|dt (d_neb J J J uT4) J <|mv J J <|tt (Zg (n := 6) (r_made _ _ _ (x.tdiv y) (tdiv_abs x y) (sg_tdiv x y) (by rw [tdiv_abs]; omega)) J J J K2 cF91 (Ze 70 J J J Zf) J hw) J fun _ _ => Xt (s_eqp 70 (congrArg (d9p _) (tdiv_abs x y)) J J) <|tt (Zw (i := 97) J J J Tryz.zeroValue39 J J hw) J fun b_5 _ => tt (Zq (i := 97) J J J J J (by decide) J zT39 J J ⟨(Zh J), (Zt (i := 70) J Zi), trivial⟩ J hw trivial) J fun _ _ => Zc <|Za ?_
 refine Qw [(2, _), (3, _), (4, _), (5, _), (7, _), (8, _)] [(0, _), (1, _), (2, _), (3, _), (4, _), (5, _), (6, _), (70, _), (71, _), (97, _)] (fun (q : Value × Nat) => [(9, .pointer (some ⟨q.2, 0, none⟩))]) (fun (q : Value × Nat) => [(72, d9p q.1 (x - x.tdiv y * y).natAbs), (98, box q.2 39 #[.bool (decide ((x - x.tdiv y * y) < 0)), q.1])]) (fun (q : Value × Nat) => True) K6 K10 ?_ ?_
 ·refine Pe (fun _ => False) [6] (by kernel_rfl) <|Yg (n := 4) [(0, 0), (1, 0), (2, 0)] (by kernel_rfl) <|r0' J J J J (st0 (Yc (i := 3) J J J iA39 zT39 J J)) <|r0' J J J J (st0 (Yc (i := 97) J J J iA39 zT39 J J)) <|r0' J J J J (st0 (Yc (i := 4) J J J iA39 zT39 J J)) <|Yv <|Qf (n := 3) 3 5 (by kernel_rfl) ?_ ?_
  ·refine Yz J J (Zg (n := 73) (Qy _ _ _ _ (by omega) (by omega)) J J J K2 cF44 (Ze 70 J J J (Ze 2 J J J Zf)) J hw) fun v _ => Qf (n := 2) 4 5 (by kernel_rfl) ?_ ?_
   ·exact Yz J J (Zg (n := 72) (r_sub _ _ _ _ (by omega) (by omega)) J J J K2 cF95 (Ze 1 J J J (Ze 73 J J J Zf)) J hw) fun v_2 _ => Yg (n := 0) [(5, 1), (6, 3)] (by kernel_rfl) <|r1' J J (Zw (i := 98) J J J Tryz.zeroValue39 J J hw) fun b_6 _ => r3' J J (Zq (i := 98) J J J J J (by decide) J zT39 J J ⟨(Zh J), (Zt (i := 72) J Zi), trivial⟩ J hw trivial) fun _ _ => Yv <|Yw (by kernel_rfl) <|Xj (_, _) trivial K7 K12
   ·exact Yz J J (Zw (i := 98) J J J Tryz.zeroValue39 J J hw) fun b_7 _ => Yg (n := 0) [(4, 1), (6, 3)] (by kernel_rfl) <|r1' J J (Zg (n := 72) (r_sub _ _ _ _ (by omega) (by omega)) J J J K2 cF95 (Ze 1 J J J (Ze 73 J J J Zf)) J hw) fun v_3 _ => r3' J J (Zq (i := 98) J J J J J (by decide) J zT39 J J ⟨(Zh J), (Zt (i := 72) J Zi), trivial⟩ J hw trivial) fun _ _ => Yv <|Yw (by kernel_rfl) <|Xj (_, _) trivial K7 K12
  ·exact Yz J J (Zw (i := 98) J J J Tryz.zeroValue39 J J hw) fun b_8 _ => Yg (n := 0) [(3, 1), (4, 1), (6, 3)] (by kernel_rfl) <|r1' J J (Zg (n := 73) (Qy _ _ _ _ (by omega) (by omega)) J J J K2 cF44 (Ze 70 J J J (Ze 2 J J J Zf)) J hw) fun v_4 _ => r1' J J (Zg (n := 72) (r_sub _ _ _ _ (by omega) (by omega)) J J J K2 cF95 (Ze 1 J J J (Ze 73 J J J Zf)) J hw) fun v_5 _ => r3' J J (Zq (i := 98) J J J J J (by decide) J zT39 J J ⟨(Zh J), (Zt (i := 72) J Zi), trivial⟩ J hw trivial) fun _ _ => Yv <|Yw (by kernel_rfl) <|Xj (_, _) trivial K7 K12
 ·rintro ⟨vr, b9⟩ -
  simp only [List.cons_append, List.nil_append]
  refine Qw [(4, _), (5, _), (7, _), (8, _), (9, _)] [(0, _), (72, _), (1, _), (2, _), (3, _), (4, _), (5, _), (6, _), (70, _), (71, _)] (fun (q : Value × Value) => []) (fun (q : Value × Value) => [(75, d9p q.1 (x / y).natAbs), (76, d9p q.2 (x % y).natAbs), (97, box b_5 39 #[.bool (decide (x / y < 0)), q.1]), (98, box b9 39 #[.bool (decide (x % y < 0)), q.2])]) (fun (q : Value × Value) => True) K5 K10 ?_ ?_
  ·refine Zb <|Zd <|dt (Yc (i := 98) J J J iA39 zT39 J J) J <|tt (Zg (n := 6) (r_sign _ _ (by omega)) J J J K1 cF61 (Ze 72 J J J Zf) J hw) J fun _ _ => dt (Xb J J J) J <|Zc <|Za <|Zp J (fun h223 => ?_) (fun h223 => ?_)
   ·have hrn : x.tmod y < 0 := by rw [← hsf]; exact (sign_neg_iff _).1 h223
    refine Zb <|Zb <|Zd <|dt (Yc (i := 4) J J J iA39 zT39 J J) J <|tt (Zg (n := 6) (r_sign _ _ (by omega)) J J J K1 cF61 (Ze 2 J J J Zf) J hw) J fun _ _ => dt (Xc J J J) J <|Zc <|Za <|Zp J (fun h224 => ?_) (fun h224 => ?_)
    ·have hyp0 : 0 < y := by have h2 := decide_eq_decide.1 (sign_pos_iff y); omega
     obtain ⟨hq, hr⟩ := quo_pos hyp0 hrn
     refine Xg (fun _ => False) [(0, 0), (1, 1), (2, 3), (3, 3)] (by kernel_rfl) ?_ ?_
     ·kernel_rfl
     refine r0' J J J J (st0 (Yc (i := 97) J J J iA39 zT39 J J)) <|r1' J J (Zg (n := 7) (r_num 1 ⟨by omega, by omega⟩) J J J K1 cF43 Zf J hw) fun v_6 _ => r3' J J (Zg (n := 8) (r_sub _ _ _ _ (by omega) (by omega)) J J J K2 cF95 (Ze 70 J J J (Ze 7 J J J Zf)) J hw) fun v_7 _ => r3' J J (Zq (i := 97) J J J J J (by decide) J zT39 J J ⟨(Zh J), (Zt (i := 8) J Zi), trivial⟩ J hw trivial) fun _ _ => Xq <|Za <|Xg (fun _ => False) [(0, 0), (1, 0), (2, 0), (3, 1), (4, 1), (5, 3)] (by kernel_rfl) ?_ ?_
     ·kernel_rfl
     exact r0' J J J J (st0 (Yc (i := 3) J J J iA39 zT39 J J)) <|r0' J J J J (st0 (Yc (i := 97) J J J iA39 zT39 J J)) <|r0' J J J J (st0 (Yc (i := 4) J J J iA39 zT39 J J)) <|r1' J J (Zg (n := 9) (Qy _ _ _ _ (by omega) (by omega)) J J J K2 cF44 (Ze 8 J J J (Ze 2 J J J Zf)) J hw) fun v_8 _ => r1' J J (Zg (n := 10) (r_sub _ _ _ _ (by omega) (by omega)) J J J K2 cF95 (Ze 1 J J J (Ze 9 J J J Zf)) J hw) fun v_9 _ => r3' J J (Zq (i := 98) J J J J J (by decide) J zT39 J J ⟨(Zh J), (Zt (i := 10) J Zi), trivial⟩ J hw trivial) fun _ _ => Xq <|Xh (Xv 8 75 J J J) <|Xh (Xv 10 76 J J J) <|Xj (v_7, v_9) trivial K5 ⟨by rw [hq]; rfl, by rw [hr]; rfl, by rw [hq]; rfl, by rw [hr]; rfl, rfl, rfl, rfl, rfl, rfl, rfl, rfl, rfl, rfl, rfl, trivial⟩
    ·have hyn0 : y < 0 := by have h2 := decide_eq_decide.1 (sign_pos_iff y); omega
     obtain ⟨hq, hr⟩ := quo_neg hyn0 hrn
     refine Xg (fun _ => False) [(0, 0), (1, 1), (2, 3), (3, 3)] (by kernel_rfl) ?_ ?_
     ·kernel_rfl
     refine r0' J J J J (st0 (Yc (i := 97) J J J iA39 zT39 J J)) <|r1' J J (Zg (n := 11) (r_num 1 ⟨by omega, by omega⟩) J J J K1 cF43 Zf J hw) fun v_10 _ => r3' J J (Zg (n := 12) (r_add _ _ _ _ (by omega) (by omega)) J J J K2 cF42 (Ze 70 J J J (Ze 11 J J J Zf)) J hw) fun v_11 _ => r3' J J (Zq (i := 97) J J J J J (by decide) J zT39 J J ⟨(Zh J), (Zt (i := 12) J Zi), trivial⟩ J hw trivial) fun _ _ => Xq <|Za <|Xg (fun _ => False) [(0, 0), (1, 0), (2, 0), (3, 1), (4, 1), (5, 3)] (by kernel_rfl) ?_ ?_
     ·kernel_rfl
     exact r0' J J J J (st0 (Yc (i := 3) J J J iA39 zT39 J J)) <|r0' J J J J (st0 (Yc (i := 97) J J J iA39 zT39 J J)) <|r0' J J J J (st0 (Yc (i := 4) J J J iA39 zT39 J J)) <|r1' J J (Zg (n := 13) (Qy _ _ _ _ (by omega) (by omega)) J J J K2 cF44 (Ze 12 J J J (Ze 2 J J J Zf)) J hw) fun v_12 _ => r1' J J (Zg (n := 14) (r_sub _ _ _ _ (by omega) (by omega)) J J J K2 cF95 (Ze 1 J J J (Ze 13 J J J Zf)) J hw) fun v_13 _ => r3' J J (Zq (i := 98) J J J J J (by decide) J zT39 J J ⟨(Zh J), (Zt (i := 14) J Zi), trivial⟩ J hw trivial) fun _ _ => Xq <|Xh (Xv 12 75 J J J) <|Xh (Xv 14 76 J J J) <|Xj (v_11, v_13) trivial K5 ⟨by rw [hq]; rfl, by rw [hr]; rfl, by rw [hq]; rfl, by rw [hr]; rfl, rfl, rfl, rfl, rfl, rfl, rfl, rfl, rfl, rfl, rfl, trivial⟩
   ·have hrn : ¬ x.tmod y < 0 := by rw [← hsf]; exact fun h => h223 ((sign_neg_iff _).2 h)
    obtain ⟨hq, hr⟩ := quo_zero hy0 hrn
    rw [← hsf] at hr
    exact Zk <|Xh (Xv 70 75 J J J) <|Xh (Xv 72 76 J J J) <|Xj (g.1, vr) trivial K5 ⟨by rw [hq]; rfl, by rw [hr]; rfl, by rw [hq]; rfl, by rw [hr]; rfl, rfl, rfl, rfl, rfl, rfl, rfl, rfl, rfl, rfl, rfl, trivial⟩
  ·rintro ⟨v8, v9⟩ -
   simp only [List.cons_append, List.nil_append]
   exact Zb <|Zd <|mv J J <|Zc <|Za <|Zb <|Qh [97, 98] [3] (by kernel_rfl) <|Yg (n := 0) [(0, 0), (1, 0), (2, 1), (3, 3)] (by kernel_rfl) <|r0' J J J J (stf (Yc (i := 97) J J J iA39 zT39 J J) K2) <|r0' J J J J (stf (Yc (i := 98) J J J iA39 zT39 J J) K2) <|r1' J J (t_off 5 J J K2 (fun hoffb => (Zq (i := 5) J J J J J (by decide) J zT39 J J ⟨(Zh J), (Zt (i := 75) J Zi), trivial⟩ J hw hoffb))) fun _ _ => r3' J J (Zq (i := 6) J J J J J (by decide) J zT39 J J ⟨(Zh J), (Zt (i := 76) J Zi), trivial⟩ J hw trivial) fun _ _ => Yv <|Yw (by kernel_rfl) <|Za <|Zr <|Zs (.inl J) hsc (_, _) _ (fun a w hs => Xu hs Tryz.results63 (Yq (i := 5) J J iA39 zT39 J) (Yq (i := 6) J J iA39 zT39 J)) J trivial J (Xa 75 J J J (Xa 76 J J J Zj))
theorem Qp (b : Bool) (s : ByteArray) (c : Bool) (t : ByteArray) : Cal Tryz.prog 45 #[.agg #[.bool b, .string s, .bool c, .string t]] [] false (G := Unit) (fun _ => True) (fun _ => .bool (okR b s c t)) (fun _ => []) := by
 refine Yb Tryz.func45 J Tryz.ntmps45 J trivial ?_
 intro w0 sc hw hsc
 simp only [Zn, Zm]
 refine Zb <|Zd <|tt (Ym (i := 1) J J J J J J hw) J fun b _ => Zl J J <|Zc <|Za <|Zb <|Zd <|dt (Yi J J uT49 J zT28 J J) J <|dt (Yc (i := 1) J J J iA28 zT28 J J) J <|tt (Zg (n := 1) (r_valid _ _) J J J K1 cF48 Zf J hw) J fun _ _ => mv J J <|Pb (d := 6) J (fun s332 => ?_) (fun s332 => ?_)
 ·refine Yl (Yi J J uT49 J zT28 J J) J J J J <|Yl (Yc (i := 1) J J J iA28 zT28 J J) J J J J <|gtt (Zg (n := 1) (r_valid _ _) J J J K1 cF48 Zf J hw) J J J J fun _ _ => dt (Yk J J J) J <|mv J J <|Pb (d := 11) J (fun s332_2 => ?_) (fun s332_2 => ?_)
  ·refine Yl (Yi J J uT49 J zT28 J J) J J J J <|Yl (Yi J J uT28 J zT4 J J) J J J J <|Yl (Xe (i := 1) J J J iA4 J) J J J J <|Yl (Xn J J) J J J J <|dt (Yk J J J) J <|mv J J <|Pb (d := 17) J (fun s332_3 => ?_) (fun s332_3 => ?_)
   ·exact Yl (Yi J J uT49 J zT28 J J) J J J J <|Yl (Yi J J uT28 J zT9 J J) J J J J <|Yl (Xe (i := 1) J J J iA9 J) J J J J <|Yl (Xx J J uT9) J J J J <|Yl (Xc J J J) J J J J <|dt (Yk J J J) J <|Zl J J <|Zc <|Za <|Zr <|Zs (.inl J) hsc () _ (fun a w hs => Yr hs Tryz.results45 J) (by unfold okR; simp_all) trivial J Zj
   ·exact Yx J J J J J <|Yx J J J J J <|Yx J J J J J <|Yx J J J J J <|Yx J J J J J <|dt (Ya J J J) J <|Zl J J <|Zc <|Za <|Zr <|Zs (.inl J) hsc () _ (fun a w hs => Yr hs Tryz.results45 J) (by unfold okR; simp_all) trivial J Zj
  ·exact Yx J J J J J <|Yx J J J J J <|Yx J J J J J <|Yx J J J J J <|dt (Ya J J J) J <|mv J J <|Yx J J J J J <|Yx J J J J J <|Yx J J J J J <|Yx J J J J J <|Yx J J J J J <|dt (Ya J J J) J <|Zl J J <|Zc <|Za <|Zr <|Zs (.inl J) hsc () _ (fun a w hs => Yr hs Tryz.results45 J) (by unfold okR; simp_all) trivial J Zj
 ·exact Yx J J J J J <|Yx J J J J J <|Yx J J J J J <|dt (Ya J J J) J <|mv J J <|Yx J J J J J <|Yx J J J J J <|Yx J J J J J <|Yx J J J J J <|dt (Ya J J J) J <|mv J J <|Yx J J J J J <|Yx J J J J J <|Yx J J J J J <|Yx J J J J J <|Yx J J J J J <|dt (Ya J J J) J <|Zl J J <|Zc <|Za <|Zr <|Zs (.inl J) hsc () _ (fun a w hs => Yr hs Tryz.results45 J) (by unfold okR; simp_all) trivial J Zj
theorem r_fromratio (x y : Int) (hx : bl x.natAbs ≤ 2000000000) (hy : bl y.natAbs ≤ 2000000000) : Cal Tryz.prog 32 #[.agg #[.bool (decide (x < 0)), .string (bstr x.natAbs), .bool (decide (y < 0)), .string (bstr y.natAbs)]] [] true (G := Value × Value) (fun r => True) (fun r => .agg #[.bool (decide (x < 0)), r.1, .bool (decide (y < 0)), r.2]) (fun r => [d9p r.1 (x).natAbs, d9p r.2 (y).natAbs]) := by
 refine Yb Tryz.func32 J Tryz.ntmps32 J trivial ?_
 intro w0 sc hw hsc
 simp only [Zn, Zm]
 refine Zb <|Zd <|tt (Ym (i := 1) J J J J J J hw) J fun b _ => tt (Zw (i := 2) J J J Tryz.zeroValue63 J J hw) J fun b_2 _ => Zc <|Za <|Zb <|Xg (fun _ => False) [(0, 0), (1, 0), (3, 0), (4, 0), (2, 1), (5, 1), (6, 0), (7, 3)] (by kernel_rfl) ?_ ?_
 ·kernel_rfl
 exact r0' J J J J (st0 (Yi J J uT49 J zT28 J J)) <|r0' J J J J (st0 (Yc (i := 1) J J J iA28 zT28 J J)) <|r0' J J J J (st0 (Yi J J uT49 J zT28 J J)) <|r0' J J J J (st0 (Yc (i := 1) J J J iA28 zT28 J J)) <|r1' J J (Zg (n := 3) (r_from _ (by omega)) J J J K1 cF49 Zf J hw) fun v _ => r1' J J (Zg (n := 4) (r_from _ (by omega)) J J J K1 cF49 Zf J hw) fun v_2 _ => r0' J J J J (st0 (Qc (ivs := [(0, _), (1, _)]) J K4 (fun a w hs => b63_01))) <|r3' J J (Zq (i := 2) J J J J J (by decide) J zT63 J J ⟨(Zh J), (Zt (i := 3) J Zi), (Zh J), (Zt (i := 4) J Zi), trivial⟩ J hw trivial) fun _ _ => Xq <|Za <|Zr <|Zs (.inl J) hsc (_, _) _ (fun a w hs => Yr hs Tryz.results32 (Yq (i := 2) J J iA63 zT63 J)) J trivial J (Xa 3 J J J (Xa 4 J J J Zj))
theorem r_lowest (v w : Value) (x y : Int) (hx : bl x.natAbs ≤ 400000000) (hy : bl y.natAbs ≤ 400000000) (hy0 : y ≠ 0) : Cal Tryz.prog 89 #[.agg #[.bool (decide (x < 0)), v], .agg #[.bool (decide (y < 0)), w]] [d9p v x.natAbs, d9p w y.natAbs] true (G := Value × Value) (fun r => True) (fun r => .agg #[.bool (decide (x / lgcd x y < 0)), r.1, .bool (decide (y / lgcd x y < 0)), r.2]) (fun r => [d9p r.1 (x / lgcd x y).natAbs, d9p r.2 (y / lgcd x y).natAbs]) := by
 refine Yb Tryz.func89 J Tryz.ntmps89 J K2 ?_
 intro w0 sc hw hsc
 simp only [Zn, Zm]
 have hgb := bl_igcd x y
 have hg0 : lgcd x y ≠ 0 := lgcd_ne hy0
 have hgl : bl (lgcd x y).natAbs ≤ 400000000 := by rw [lgcd_abs]; have := bl_gcd x.natAbs y.natAbs; omega
 refine Zb <|Zd <|tt (Ym (i := 3) J J J J J J hw) J fun b _ => tt (Ym (i := 4) J J J J J J hw) J fun b_2 _ => tt (Zw (i := 5) J J J Tryz.zeroValue63 J J hw) J fun b_3 _ => Zc <|Za <|Zb <|Zd <|dt (Yc (i := 3) J J J iA39 zT39 J J) J <|dt (Yc (i := 4) J J J iA39 zT39 J J) J <|tt (Zg (n := 6) (r_gcd _ _ _ _ (by omega) (by omega)) J J J K2 cF134 (Ze 1 J J J (Ze 2 J J J Zf)) J hw) J fun v _ => tt (Zw (i := 97) J J J Tryz.zeroValue39 J J hw) J fun b_4 _ => tt (Zq (i := 97) J J J J J (by decide) J zT39 J J ⟨(Zh J), (Zt (i := 6) J Zi), trivial⟩ J hw trivial) J fun _ _ => Zc <|Za <|Qw [(2, _), (3, _), (4, _), (5, _)] [(0, _), (1, _), (2, _), (3, _), (4, _), (5, _), (6, _)] (fun (vg : Value) => []) (fun (vg : Value) => [(70, d9p vg (lgcd x y).natAbs), (97, box b_4 39 #[.bool (decide (lgcd x y < 0)), vg])]) (fun (vg : Value) => True) K4 K7 ?_ ?_
 ·refine Zb <|Zd <|dt (Yc (i := 4) J J J iA39 zT39 J J) J <|tt (Zg (n := 6) (r_sign _ _ (by omega)) J J J K1 cF61 (Ze 2 J J J Zf) J hw) J fun _ _ => dt (Xb J J J) J <|Zc <|Za <|Zp J (fun h341 => ?_) (fun h341 => ?_)
  ·have hl : lgcd x y = -(Int.gcd x y : Int) := lgcd_lt ((sign_neg_iff _).1 h341)
   exact Zd <|dt (Yc (i := 97) J J J iA39 zT39 J J) J <|tt (Zg (n := 7) (r_neg _ _ (by omega)) J J J K1 cF41 (Ze 6 J J J Zf) J hw) J fun v_2 _ => tt (Zq (i := 97) J J J J J (by decide) J zT39 J J ⟨(Zh J), (Zt (i := 7) J Zi), trivial⟩ J hw trivial) J fun _ _ => Zc <|Xh (Xv 7 70 J J J) <|Xj v_2 trivial K4 ⟨by rw [hl]; rfl, by rw [hl]; rfl, rfl, rfl, rfl, rfl, rfl, rfl, rfl, trivial⟩
  ·have hl : lgcd x y = (Int.gcd x y : Int) := lgcd_ge (fun h => h341 ((sign_neg_iff _).2 h))
   exact Zk <|Xh (Xv 6 70 J J J) <|Xj v trivial K4 ⟨by rw [hl]; rfl, by rw [hl]; rfl, rfl, rfl, rfl, rfl, rfl, rfl, rfl, trivial⟩
 ·rintro vg -
  simp only [List.cons_append, List.nil_append]
  refine Zb <|Zd <|dt (Yc (i := 3) J J J iA39 zT39 J J) J <|dt (Yc (i := 97) J J J iA39 zT39 J J) J <|tt (Zg (n := 8) (Qu _ _ x (lgcd x y) (by omega) (by omega) hg0) J J J K2 cF63 (Ze 1 J J J (Ze 70 J J J Zf)) J hw) J fun g _ => mv J J <|dt (Zy J J J) J <|dt (Zy J J J) J <|tt (Zw (i := 10) J J J Tryz.zeroValue39 J J hw) J fun b_5 _ => tt (Zw (i := 11) J J J Tryz.zeroValue39 J J hw) J fun b_6 _ => tt (Zq (i := 10) J J J J J (by decide) J zT39 J J ⟨(Zh J), (Zt (i := 8) J Zi), trivial⟩ J hw trivial) J fun _ _ => tt (Zq (i := 11) J J J J J (by decide) J zT39 J J ⟨(Zh J), (Zt (i := 9) J Zi), trivial⟩ J hw trivial) J fun _ _ => Zc <|Za <|Zb <|Zd <|dt (Yc (i := 4) J J J iA39 zT39 J J) J <|dt (Yc (i := 97) J J J iA39 zT39 J J) J <|tt (Zg (n := 12) (Qu _ _ y (lgcd x y) (by omega) (by omega) hg0) J J J K2 cF63 (Ze 2 J J J (Ze 70 J J J Zf)) J hw) J fun g_2 _ => mv J J <|dt (Zy J J J) J <|dt (Zy J J J) J <|tt (Zw (i := 14) J J J Tryz.zeroValue39 J J hw) J fun b_7 _ => tt (Zw (i := 15) J J J Tryz.zeroValue39 J J hw) J fun b_8 _ => tt (Zq (i := 14) J J J J J (by decide) J zT39 J J ⟨(Zh J), (Zt (i := 12) J Zi), trivial⟩ J hw trivial) J (fun _ _ => ?_)
  exact tt (Zq (i := 15) J J J J J (by decide) J zT39 J J ⟨(Zh J), (Zt (i := 13) J Zi), trivial⟩ J hw trivial) J fun _ _ => Zc <|Za <|Zb <|Zd <|dt (Yc (i := 10) J J J iA39 zT39 J J) J <|dt (Yc (i := 14) J J J iA39 zT39 J J) J <|dt (Qc (ivs := [(0, _), (1, _)]) J K4 (fun a w hs => b63_01)) J <|tt (Zq (i := 5) J J J J J (by decide) J zT63 J J ⟨(Zh J), (Zt (i := 8) J Zi), (Zh J), (Zt (i := 12) J Zi), trivial⟩ J hw trivial) J fun _ _ => Zc <|Za <|Zr <|Zs (.inl J) hsc (_, _) _ (fun a w hs => Yr hs Tryz.results89 (Yq (i := 5) J J iA63 zT63 J)) J trivial J (Xa 8 J J J (Xa 12 J J J Zj))
theorem r_outratio (v w : Value) (x y : Int) (hx : bl x.natAbs ≤ 4000000000) (hy : bl y.natAbs ≤ 4000000000) : Cal Tryz.prog 37 #[.agg #[.bool (decide (x < 0)), v, .bool (decide (y < 0)), w]] [d9p v x.natAbs, d9p w y.natAbs] false (G := Unit) (fun _ => True) (fun _ => .tuple #[.agg #[.bool (decide (qn x y < 0)), .string (bstr (qn x y).natAbs), .bool (decide (qd x y < 0)), .string (bstr (qd x y).natAbs)], .int .i64 (qe x y)]) (fun _ => []) := by
 refine Yb Tryz.func37 J Tryz.ntmps37 J K2 ?_
 intro w0 sc hw hsc
 simp only [Zn, Zm]
 refine Zb <|Zd <|tt (Ym (i := 3) J J J J J J hw) J fun b _ => tt (Zw (i := 4) J J J Tryz.zeroValue49 J J hw) J fun b_2 _ => Zl J J <|Zc <|Za <|Zb <|Zb <|Zd <|dt (Yi J J uT63 J zT39 J J) J <|dt (Yc (i := 3) J J J iA39 zT39 J J) J <|tt (Zg (n := 4) (r_big _ _ (by omega)) J J J K1 cF90 (Ze 1 J J J Zf) J hw) J fun _ _ => mv J J <|Xo (d := 7) J (fun s351 => ?_) (fun s351 => ?_)
 ·exact Yx J J J J J <|Yx J J J J J <|Yx J J J J J <|dt (Yk J J J) J <|Zc <|Za <|Qe J <|Zb <|Zd <|dt (Qc (ivs := []) J trivial (fun a w hs => b49_)) J <|tt (Zq (i := 4) J J J J J (by decide) J zT49 J J ⟨(Zh J), (Zh J), (Zh J), (Zh J), trivial⟩ J hw trivial) J fun _ _ => Zl J J <|Zc <|Za <|Zr <|Yt <|Zs (.inl J) hsc () _ (fun a w hs => Xu hs Tryz.results37 (Yq (i := 4) J J iA49 zT49 J) J) (by have hf : qfull x y := (by unfold qfull; omega); unfold qn qd qe; rw [if_pos hf, if_pos hf, if_pos hf] <;> rfl) trivial J Zj
 ·refine Yl (Yi J J uT63 J zT39 J J) J J J J <|Yl (Yc (i := 3) J J J iA39 zT39 J J) J J J J <|gtt (Zg (n := 4) (r_big _ _ (by omega)) J J J K1 cF90 (Ze 2 J J J Zf) J hw) J J J J fun _ _ => dt (Ya J J J) J <|Zc <|Za <|Zp J (fun h351 => ?_) (fun h351 => ?_)
  ·exact Zb <|Zd <|dt (Qc (ivs := []) J trivial (fun a w hs => b49_)) J <|tt (Zq (i := 4) J J J J J (by decide) J zT49 J J ⟨(Zh J), (Zh J), (Zh J), (Zh J), trivial⟩ J hw trivial) J fun _ _ => Zl J J <|Zc <|Za <|Zr <|Yt <|Zs (.inl J) hsc () _ (fun a w hs => Xu hs Tryz.results37 (Yq (i := 4) J J iA49 zT49 J) J) (by have hf : qfull x y := (by unfold qfull; omega); unfold qn qd qe; rw [if_pos hf, if_pos hf, if_pos hf] <;> rfl) trivial J Zj
  ·refine Zk <|Za <|Zb <|Xg (fun _ => False) [(0, 0), (1, 0), (3, 0), (4, 0), (2, 1), (5, 1), (6, 0), (7, 3), (8, 3)] (by kernel_rfl) ?_ ?_
   ·kernel_rfl
   exact r0' J J J J (st0 (Yi J J uT63 J zT39 J J)) <|r0' J J J J (st0 (Yc (i := 3) J J J iA39 zT39 J J)) <|r0' J J J J (st0 (Yi J J uT63 J zT39 J J)) <|r0' J J J J (st0 (Yc (i := 3) J J J iA39 zT39 J J)) <|r1' J J (Zg (n := 4) (r_to _ _ (by omega)) J J J K1 cF17 (Ze 1 J J J Zf) J hw) fun _ _ => r1' J J (Zg (n := 4) (r_to _ _ (by omega)) J J J K1 cF17 (Ze 2 J J J Zf) J hw) fun _ _ => r0' J J J J (st0 (Qc (ivs := [(0, _), (1, _)]) J K4 (fun a w hs => b49_01))) <|r3' J J (Zq (i := 4) J J J J J (by decide) J zT49 J J ⟨(Zh J), (Zh J), (Zh J), (Zh J), trivial⟩ J hw trivial) fun _ _ => r3' J J (Qd (Qg J J) J J) fun _ _ => Xq <|Za <|Zr <|Zs (.inl J) hsc () _ (fun a w hs => Xu hs Tryz.results37 (Yq (i := 4) J J iA49 zT49 J) J) (by have hf : ¬ qfull x y := (by unfold qfull; omega); unfold qn qd qe; rw [if_neg hf, if_neg hf, if_neg hf] <;> rfl) trivial J Zj
theorem r_compareq (v w v2 w2 : Value) (x y x2 y2 : Int) (h0 : bl x.natAbs ≤ 100000000) (h1 : bl y.natAbs ≤ 100000000) (h2 : bl x2.natAbs ≤ 100000000) (h3 : bl y2.natAbs ≤ 100000000) : Cal Tryz.prog 46 #[.agg #[.bool (decide (x < 0)), v, .bool (decide (y < 0)), w], .agg #[.bool (decide (x2 < 0)), v2, .bool (decide (y2 < 0)), w2]] [d9p v x.natAbs, d9p w y.natAbs, d9p v2 x2.natAbs, d9p w2 y2.natAbs] false (G := Unit) (fun _ => True) (fun _ => .int .i64 (x * y2 - x2 * y).sign) (fun _ => []) := by
 refine Yb Tryz.func46 J Tryz.ntmps46 J K4 ?_
 intro w0 sc hw hsc
 simp only [Zn, Zm]
 have b1 := bl_imul x y2
 have b2 := bl_imul x2 y
 have b3 := bl_imul y y2
 have b4 := bl_imul x x2
 have b5 := bl_iadd (x * y2) (x2 * y)
 refine Zb <|Zd <|tt (Ym (i := 5) J J J J J J hw) J fun b _ => tt (Ym (i := 6) J J J J J J hw) J fun b_2 _ => Zl J J <|Zc <|Za <|Zb <|Xg (fun _ => False) [(0, 0), (1, 0), (2, 0), (3, 0), (5, 0), (6, 0), (7, 0), (8, 0), (4, 1), (9, 1), (10, 1), (11, 3)] (by kernel_rfl) ?_ ?_
 ·kernel_rfl
 exact r0' J J J J (st0 (Yi J J uT63 J zT39 J J)) <|r0' J J J J (st0 (Yc (i := 5) J J J iA39 zT39 J J)) <|r0' J J J J (st0 (Yi J J uT63 J zT39 J J)) <|r0' J J J J (st0 (Yc (i := 6) J J J iA39 zT39 J J)) <|r0' J J J J (st0 (Yi J J uT63 J zT39 J J)) <|r0' J J J J (st0 (Yc (i := 6) J J J iA39 zT39 J J)) <|r0' J J J J (st0 (Yi J J uT63 J zT39 J J)) <|r0' J J J J (st0 (Yc (i := 5) J J J iA39 zT39 J J)) <|r1' J J (Zg (n := 7) (Qy _ _ _ _ (by omega) (by omega)) J J J K2 cF44 (Ze 1 J J J (Ze 4 J J J Zf)) J hw) fun v _ => r1' J J (Zg (n := 8) (Qy _ _ _ _ (by omega) (by omega)) J J J K2 cF44 (Ze 3 J J J (Ze 2 J J J Zf)) J hw) fun v_2 _ => r1' J J (Zg (n := 8) (r_compare _ _ _ _ (by omega) (by omega)) J J J K2 cF62 (Ze 7 J J J (Ze 8 J J J Zf)) J hw) fun _ _ => r3' J J (Qd (Qg J J) J J) fun _ _ => Xq <|Za <|Zr <|Zs (.inl J) hsc () _ (fun a w hs => Yr hs Tryz.results46 J) J trivial J Zj
theorem r_addq (v w v2 w2 : Value) (x y x2 y2 : Int) (h0 : bl x.natAbs ≤ 100000000) (h1 : bl y.natAbs ≤ 100000000) (h2 : bl x2.natAbs ≤ 100000000) (h3 : bl y2.natAbs ≤ 100000000) (hy0 : y ≠ 0) (hy2 : y2 ≠ 0) : Cal Tryz.prog 154 #[.agg #[.bool (decide (x < 0)), v, .bool (decide (y < 0)), w], .agg #[.bool (decide (x2 < 0)), v2, .bool (decide (y2 < 0)), w2]] [d9p v x.natAbs, d9p w y.natAbs, d9p v2 x2.natAbs, d9p w2 y2.natAbs] true (G := Value × Value) (fun r => True) (fun r => .agg #[.bool (decide ((x * y2 + x2 * y) / lgcd (x * y2 + x2 * y) (y * y2) < 0)), r.1, .bool (decide ((y * y2) / lgcd (x * y2 + x2 * y) (y * y2) < 0)), r.2]) (fun r => [d9p r.1 ((x * y2 + x2 * y) / lgcd (x * y2 + x2 * y) (y * y2)).natAbs, d9p r.2 ((y * y2) / lgcd (x * y2 + x2 * y) (y * y2)).natAbs]) := by
 refine Yb Tryz.func154 J Tryz.ntmps154 J K4 ?_
 intro w0 sc hw hsc
 simp only [Zn, Zm]
 have b1 := bl_imul x y2
 have b2 := bl_imul x2 y
 have b3 := bl_imul y y2
 have b4 := bl_imul x x2
 have b5 := bl_iadd (x * y2) (x2 * y)
 have hyy : y * y2 ≠ 0 := Int.mul_ne_zero hy0 hy2
 refine Zb <|Zd <|tt (Ym (i := 5) J J J J J J hw) J fun b _ => tt (Ym (i := 6) J J J J J J hw) J fun b_2 _ => tt (Zw (i := 7) J J J Tryz.zeroValue63 J J hw) J fun b_3 _ => Zc <|Za <|Zb <|Xg (fun _ => False) [(0, 0), (1, 0), (2, 0), (3, 0), (5, 0), (6, 0), (7, 0), (8, 0), (11, 0), (12, 0), (13, 0), (14, 0), (4, 1), (9, 1), (10, 1), (15, 1), (16, 1), (17, 3)] (by kernel_rfl) ?_ ?_
 ·kernel_rfl
 refine r0' J J J J (st0 (Yi J J uT63 J zT39 J J)) <|r0' J J J J (st0 (Yc (i := 5) J J J iA39 zT39 J J)) <|r0' J J J J (st0 (Yi J J uT63 J zT39 J J)) <|r0' J J J J (st0 (Yc (i := 6) J J J iA39 zT39 J J)) <|r0' J J J J (st0 (Yi J J uT63 J zT39 J J)) <|r0' J J J J (st0 (Yc (i := 6) J J J iA39 zT39 J J)) <|r0' J J J J (st0 (Yi J J uT63 J zT39 J J)) <|r0' J J J J (st0 (Yc (i := 5) J J J iA39 zT39 J J)) <|r0' J J J J (st0 (Yi J J uT63 J zT39 J J)) <|r0' J J J J (st0 (Yc (i := 5) J J J iA39 zT39 J J)) <|r0' J J J J (st0 (Yi J J uT63 J zT39 J J)) <|r0' J J J J (st0 (Yc (i := 6) J J J iA39 zT39 J J)) <|r1' J J (Zg (n := 8) (Qy _ _ _ _ (by omega) (by omega)) J J J K2 cF44 (Ze 1 J J J (Ze 4 J J J Zf)) J hw) fun v _ => r1' J J (Zg (n := 9) (Qy _ _ _ _ (by omega) (by omega)) J J J K2 cF44 (Ze 3 J J J (Ze 2 J J J Zf)) J hw) fun v_2 _ => r1' J J (Zg (n := 10) (r_add _ _ _ _ (by omega) (by omega)) J J J K2 cF42 (Ze 8 J J J (Ze 9 J J J Zf)) J hw) fun v_3 _ => r1' J J (Zg (n := 11) (Qy _ _ _ _ (by omega) (by omega)) J J J K2 cF44 (Ze 2 J J J (Ze 4 J J J Zf)) J hw) (fun v_4 _ => ?_)
 exact r1' J J (Zg (n := 12) (r_lowest _ _ _ _ (by omega) (by omega) hyy) J J J K2 cF89 (Ze 10 J J J (Ze 11 J J J Zf)) J hw) fun g _ => r3' J J (Zq (i := 7) J J J J J (by decide) J zT63 J J ⟨(Zh J), (Zt (i := 12) J Zi), (Zh J), (Zt (i := 13) J Zi), trivial⟩ J hw trivial) fun _ _ => Xq <|Za <|Zr <|Zs (.inl J) hsc (_, _) _ (fun a w hs => Yr hs Tryz.results154 (Yq (i := 7) J J iA63 zT63 J)) J trivial J (Xa 12 J J J (Xa 13 J J J Zj))
theorem r_mulq (v w v2 w2 : Value) (x y x2 y2 : Int) (h0 : bl x.natAbs ≤ 100000000) (h1 : bl y.natAbs ≤ 100000000) (h2 : bl x2.natAbs ≤ 100000000) (h3 : bl y2.natAbs ≤ 100000000) (hy0 : y ≠ 0) (hy2 : y2 ≠ 0) : Cal Tryz.prog 153 #[.agg #[.bool (decide (x < 0)), v, .bool (decide (y < 0)), w], .agg #[.bool (decide (x2 < 0)), v2, .bool (decide (y2 < 0)), w2]] [d9p v x.natAbs, d9p w y.natAbs, d9p v2 x2.natAbs, d9p w2 y2.natAbs] true (G := Value × Value) (fun r => True) (fun r => .agg #[.bool (decide ((x * x2) / lgcd (x * x2) (y * y2) < 0)), r.1, .bool (decide ((y * y2) / lgcd (x * x2) (y * y2) < 0)), r.2]) (fun r => [d9p r.1 ((x * x2) / lgcd (x * x2) (y * y2)).natAbs, d9p r.2 ((y * y2) / lgcd (x * x2) (y * y2)).natAbs]) := by
 refine Yb Tryz.func153 J Tryz.ntmps153 J K4 ?_
 intro w0 sc hw hsc
 simp only [Zn, Zm]
 have b1 := bl_imul x y2
 have b2 := bl_imul x2 y
 have b3 := bl_imul y y2
 have b4 := bl_imul x x2
 have b5 := bl_iadd (x * y2) (x2 * y)
 have hyy : y * y2 ≠ 0 := Int.mul_ne_zero hy0 hy2
 refine Zb <|Zd <|tt (Ym (i := 5) J J J J J J hw) J fun b _ => tt (Ym (i := 6) J J J J J J hw) J fun b_2 _ => tt (Zw (i := 7) J J J Tryz.zeroValue63 J J hw) J fun b_3 _ => Zc <|Za <|Zb <|Xg (fun _ => False) [(0, 0), (1, 0), (2, 0), (3, 0), (5, 0), (6, 0), (7, 0), (8, 0), (4, 1), (9, 1), (10, 1), (11, 3)] (by kernel_rfl) ?_ ?_
 ·kernel_rfl
 exact r0' J J J J (st0 (Yi J J uT63 J zT39 J J)) <|r0' J J J J (st0 (Yc (i := 5) J J J iA39 zT39 J J)) <|r0' J J J J (st0 (Yi J J uT63 J zT39 J J)) <|r0' J J J J (st0 (Yc (i := 6) J J J iA39 zT39 J J)) <|r0' J J J J (st0 (Yi J J uT63 J zT39 J J)) <|r0' J J J J (st0 (Yc (i := 5) J J J iA39 zT39 J J)) <|r0' J J J J (st0 (Yi J J uT63 J zT39 J J)) <|r0' J J J J (st0 (Yc (i := 6) J J J iA39 zT39 J J)) <|r1' J J (Zg (n := 8) (Qy _ _ _ _ (by omega) (by omega)) J J J K2 cF44 (Ze 1 J J J (Ze 3 J J J Zf)) J hw) fun v _ => r1' J J (Zg (n := 9) (Qy _ _ _ _ (by omega) (by omega)) J J J K2 cF44 (Ze 2 J J J (Ze 4 J J J Zf)) J hw) fun v_2 _ => r1' J J (Zg (n := 10) (r_lowest _ _ _ _ (by omega) (by omega) hyy) J J J K2 cF89 (Ze 8 J J J (Ze 9 J J J Zf)) J hw) fun g _ => r3' J J (Zq (i := 7) J J J J J (by decide) J zT63 J J ⟨(Zh J), (Zt (i := 10) J Zi), (Zh J), (Zt (i := 11) J Zi), trivial⟩ J hw trivial) fun _ _ => Xq <|Za <|Zr <|Zs (.inl J) hsc (_, _) _ (fun a w hs => Yr hs Tryz.results153 (Yq (i := 7) J J iA63 zT63 J)) J trivial J (Xa 10 J J J (Xa 11 J J J Zj))
end Go.Sky

