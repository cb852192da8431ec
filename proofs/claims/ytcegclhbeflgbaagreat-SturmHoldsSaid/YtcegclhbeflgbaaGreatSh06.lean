/- rules, arithmetic and contracts: part 7
   Proved without conditions of its own: each theorem bears its own. -/
import Derived.Test.YtcegclhbeflgbaaGreatSh02
import Derived.Test.YtcegclhbeflgbaaGreatSh01
import Derived.Test.YtcegclhbeflgbaaGreatSh03
import Derived.Test.YtcegclhbeflgbaaGreatSh05
set_option linter.all false
namespace Go.Sky
open Go.Proofs
set_option maxRecDepth 20000
set_option maxHeartbeats 4000000
set_option linter.unusedVariables false
set_option linter.unusedSimpArgs false
theorem poly_trim (v : Value) (xs : List Int) (hs : Sz 65536 xs) : Cal Tryz.prog 120 #[v] [slp 2 wv v xs] true (G := Unit) (fun _ => True) (fun _ => preV v (tzl xs).length) (fun _ => [slp 2 wv (preV v (tzl xs).length) (tzl xs)]) := by
 refine Ya Tryz.func120 J Tryz.ntmps120 J K1 ?_
 intro w0 sc hw hsc
 simp only [Zp, Zo]
 refine Qh (f_self (i := 1) J Zi) fun hself => Qh (f_len (i := 1) J Zi) fun hlen => Zb <|Zd <|Zl J J <|Zc <|Za <|Zb <|Zm <|Xv [] [(0, _)] (fun (k : Nat) => [(0, preV v k)]) (fun (k : Nat) => [(1, slp 2 wv (preV v k) (xs.take k))]) (fun (k : Nat) => (k ≤ xs.length) ∧ (tzl (xs.take k) = tzl xs)) (fun (k : Nat) => k) xs.length ⟨Nat.le_refl _, by rw [List.take_length]⟩ ⟨by rw [hself]; rfl, trivial⟩ ⟨by rw [hself, List.take_length]; rfl, rfl, trivial⟩ ?_
 rintro k ⟨hk, ht⟩
 simp only [List.cons_append, List.nil_append]
 have hl : (xs.take k).length = k := by rw [List.length_take]; omega
 refine Zb <|Zb <|Zd <|mv J J <|dt (Zy J J (i := 1) J Zi uT23) J <|dt (Xd J J J) J <|mv J J <|Xo (d := 6) J (fun s35 => ?_) (fun s35 => ?_)
 ·refine Yj (Zv J J) J J J J <|Yj (Zv J J) J J J J <|Yj (Zy J J (i := 1) J Zi uT23) J J J J <|Yj (Xc J J J ⟨by omega, by omega⟩) J J J J <|Yj (Yf (ii := 1) (i := k - 1) J J J J Zi uT23 zT28 (by omega) (by omega)) J J J J <|Yj (Yn (ii := 1) 0 J J J Zi pV (by omega)) J J J J <|gtt (Zg (n := 1) (wide_sign _ ((hs.take _).getD _)) J J J K1 cF80 Ze J hw) J J J J fun _ _ => Yj (Xu J J J) J J J J <|dt (Ym J J J) J <|Zc <|Za <|Zn J (fun h35 => ?_) (fun h35 => ?_)
  ·have hstep := tzl_step hk (by omega) (takeD_zero (k := k) (by omega) (Int.sign_eq_zero_iff_zero.1 ‹_›) : cf xs (k - 1) = 0)
   exact Zk <|Za <|Zm <|Zd <|mv J J <|mv J J <|dt (Zy J J (i := 1) J Zi uT23) J <|dt (Xc J J J ⟨by omega, by omega⟩) J <|dt (d_pre (ii := 1) (i := k - 1) J J J J Zi uT23 zT28 (by omega) (by omega)) J <|Zl J J <|Zc <|Xl <|Xz (s_pre 1 1 (k - 1) J J (by omega)) <|Yv (k - 1) ⟨by first | omega | (dsimp only <;> omega), by rw [← ht, ← hstep]⟩ (by first | omega | (dsimp only <;> omega)) ⟨by rw [← preV_preV v k (k - 1)]; rfl, trivial⟩ ⟨by rw [preV_preV, List.take_take, Nat.min_eq_left (by omega)]; rfl, rfl, trivial⟩
  ·refine Yo <|Zt <|Zt <|Xr <|Za <|Zb <|Zd <|mv J J <|Zl J J <|Zc <|Za <|Zq ?_
   have hx : tzl xs = xs.take k := by rw [← ht]; exact tzl_stop hk (by first | (left; omega) | (right; exact takeD_ne (k := k) (by omega) (by assumption)))
   exact Zr (.inl J) hsc () _ (fun a w hs => Yr hs Tryz.results120 J) (by rw [hx, hl]) trivial J (Yi 1 J J J (by rw [hx, hl]) Zj)
 ·refine Yy J J J J J <|Yy J J J J J <|Yy J J J J J <|Yy J J J J J <|Yy J J J J J <|Yy J J J J J <|Yy J J J J J <|Yy J J J J J <|dt (Zs J J J) J <|Zc <|Za <|Yd J <|Yo <|Zt <|Zt <|Xr <|Za <|Zb <|Zd <|mv J J <|Zl J J <|Zc <|Za <|Zq ?_
  have hx : tzl xs = xs.take k := by rw [← ht]; exact tzl_stop hk (by first | (left; omega) | (right; exact takeD_ne (k := k) (by omega) (by assumption)))
  exact Zr (.inl J) hsc () _ (fun a w hs => Yr hs Tryz.results120 J) (by rw [hx, hl]) trivial J (Yi 1 J J J (by rw [hx, hl]) Zj)
theorem poly_valid (v : Value) (r : List (Bool × ByteArray)) : Cal Tryz.prog 56 #[v] [slp 2 encW v r] false (G := Unit) (fun _ => True) (fun _ => .bool (okP r)) (fun _ => []) := by
 refine Ya Tryz.func56 J Tryz.ntmps56 J K1 ?_
 intro w0 sc hw hsc
 simp only [Zp, Zo]
 refine Qh (f_len (i := 1) J Zi) fun hlen => Zb <|Zd <|Zl J J <|Zc <|Za <|Zb <|Zb <|Zd <|mv J J <|dt (Zy J J (i := 1) J Zi uT23) J <|mv J J <|Zc <|Za <|Zm <|Xv [(0, _), (5, _), (6, _)] [(0, _), (1, _)] (fun (k : Nat) => [(7, .int .i64 (k : Int))]) (fun (k : Nat) => []) (fun (k : Nat) => (k ≤ r.length) ∧ ((r.take k).all (fun w => okW w.1 w.2) = true)) (fun (k : Nat) => r.length - k) 0 ⟨by first | omega | (dsimp only <;> omega), by simp⟩ K4 K2 ?_
 rintro k ⟨hk, ha⟩
 simp only [List.cons_append, List.nil_append]
 refine Zb <|Zd <|dt (Yw J J J) J <|Zc <|Za <|Zb <|Zn J (fun h51 => ?_) (fun h51 => ?_)
 ·refine Zk <|Za <|Zb <|Zm <|Zb <|Zd <|dt (Yf (ii := 1) J J J J Zi uT23 zT28 J (by first | omega | (simp only [List.length_set]; omega))) J <|dt (Yn (ii := 1) (false, ⟨#[]⟩) J J J Zi pW (by first | omega | (simp only [List.length_set]; omega))) J <|tt (Zx (i := 2) J J J Tryz.zeroValue28 J J hw) J fun b _ => tt (Zu (i := 2) J J J J J (by decide) J zT28 J J ⟨(Zh J), (Zh J), trivial⟩ J hw trivial) J fun _ _ => Zc <|Za <|Zb <|Zd <|dt (Yc (i := 2) J J J iA28 zT28 J J) J <|tt (Zg (n := 2) (wide_valid _ _) J J J K1 cF109 Ze J hw) J fun _ _ => dt (Xf J J) J <|Zc <|Za <|Qn J (fun h52 => ?_) (fun h52 => ?_)
  ·exact Zb <|Zd <|Zl J J <|Zc <|Za <|Zq <|Qj <|Yp <|Yp <|Qj <|Yp <|Zr (.inl J) hsc () _ (fun a w hs => Yr hs Tryz.results56 J) (by rw [okP_bad (getD_mem (i := k) (d := (false, ⟨#[]⟩)) (by omega)) (by simp_all)]) trivial J Zj
  ·exact Zk <|Xl <|Za <|Zd <|dt (Yg J J J ⟨by omega, by omega⟩) J <|mv J J <|Zc <|Yv (k + 1) ⟨by first | omega | (dsimp only <;> omega), by rw [take_snoc (false, ⟨#[]⟩) _ _ (by omega), List.all_append, ha]; simpa using h52⟩ (by first | omega | (dsimp only <;> omega)) K4 K2
 ·refine Yo <|Zt <|Zt <|Xr <|Za <|Zb ?_
  obtain rfl : k = r.length := by omega
  rw [List.take_length] at ha
  obtain ⟨xs, hxs, rfl⟩ := okW_list (List.all_eq_true.1 ha)
  have hsz := Sz.of_mem hxs
  rw [List.length_map] at hlen
  refine Yh (s_conv 1 (q := slp 2 wv v xs) J J (slp_wr' v xs) (fun _ h => h) J) <|Zd <|mv J J <|dt (Zy J J (i := 1) J Zi uT23) J <|dt (d_leq J J J) J <|mv J J <|Xo (d := 18) J (fun s56 => ?_) (fun s56 => ?_)
  ·refine Yj (Zv J J) J J J J <|Yj (Zy J J (i := 1) J Zi uT23) J J J J <|Yj (Xu J J J) J J J J <|Yj (Zv J J) J J J J <|Xo (d := 22) J (fun s56_2 => ?_) (fun s56_2 => ?_)
   ·exact Yy J J J J J <|Yy J J J J J <|Yy J J J J J <|Yy J J J J J <|Yy J J J J J <|Yy J J J J J <|Yy J J J J J <|Yy J J J J J <|Yj (Ym J J J) J J J J <|dt (Ym J J J) J <|Zl J J <|Zc <|Za <|Zq <|Zr (.inl J) hsc () _ (fun a w hs => Yr hs Tryz.results56 J) (by rw [okP_fin hxs]; first | (simp_all; done) | (simp_all; omega)) trivial J Zj
   ·exact Yj (Zv J J) J J J J <|Yj (Zv J J) J J J J <|Yj (Zy J J (i := 1) J Zi uT23) J J J J <|Yj (Xc J J J ⟨by omega, by omega⟩) J J J J <|Yj (Yf (ii := 1) (i := xs.length - 1) J J J J Zi uT23 zT28 (by omega) (by omega)) J J J J <|Yj (Yn (ii := 1) 0 J J J Zi pV (by omega)) J J J J <|gtt (Zg (n := 2) (wide_sign _ (hsz.getD _)) J J J K1 cF80 Ze J hw) J J J J fun _ _ => Yj (Ys J J J) J J J J <|Yj (Zs J J J) J J J J <|dt (Ym J J J) J <|Zl J J <|Zc <|Za <|Zq <|Zr (.inl J) hsc () _ (fun a w hs => Yr hs Tryz.results56 J) (by rw [okP_fin hxs]; first | (simp_all; done) | (simp_all; omega)) trivial J Zj
  ·exact Yy J J J J J <|Yy J J J J J <|Yy J J J J J <|Yy J J J J J <|gsku J J J <|gsku J J J <|gsku J J J <|gsku J J J <|gsku J J J <|gsku J J J <|gsku J J J <|gsku J J J <|Yy J J J J J <|dt (Zs J J J) J <|Zl J J <|Zc <|Za <|Zq <|Zr (.inl J) hsc () _ (fun a w hs => Yr hs Tryz.results56 J) (by rw [okP_fin hxs]; first | (simp_all; done) | (simp_all; omega)) trivial J Zj
theorem poly_valid_ok (v : Value) (xs : List Int) (h : Vp xs) : Cal Tryz.prog 56 #[v] [slp 2 wv v xs] false (G := Unit) (fun _ => True) (fun _ => .bool true) (fun _ => []) := okP_wr h ▸ (poly_valid v (xs.map wr)).imp (slp_wr v xs) (fun _ h => h)
theorem poly_size (v : Value) (xs : List Int) (hs : Sz 65536 xs) : Cal Tryz.prog 110 #[v] [slp 2 wv v xs] false (G := Unit) (fun _ => True) (fun _ => .int .i64 (msz xs : Int)) (fun _ => []) := by
 refine Ya Tryz.func110 J Tryz.ntmps110 J K1 ?_
 intro w0 sc hw hsc
 simp only [Zp, Zo]
 refine Qh (f_len (i := 1) J Zi) fun hlen => Zb <|Zd <|Zl J J <|Zc <|Za <|Zb <|Zd <|Zl J J <|Zc <|Za <|Zb <|Zb <|Zd <|mv J J <|dt (Zy J J (i := 1) J Zi uT22) J <|mv J J <|Zc <|Za <|Zm <|Xv [(6, _), (7, _)] [(0, _), (1, _)] (fun (k : Nat) => [(8, .int .i64 (k : Int)), (3, .int .i64 (msz (xs.take k) : Int))]) (fun (k : Nat) => []) (fun (k : Nat) => (k ≤ xs.length)) (fun (k : Nat) => xs.length - k) 0 (by first | omega | (dsimp only <;> omega)) K4 K2 ?_
 rintro k hk
 simp only [List.cons_append, List.nil_append]
 refine Zb <|Zd <|dt (Yw J J J) J <|Zc <|Za <|Zb <|Zn J (fun h83 => ?_) (fun h83 => ?_)
 ·exact Zk <|Za <|Zb <|Zm <|Zb <|Zd <|dt (Yf (ii := 1) J J J J Zi uT22 zT28 J (by first | omega | (simp only [List.length_set]; omega))) J <|dt (Yn (ii := 1) 0 J J J Zi pV (by first | omega | (simp only [List.length_set]; omega))) J <|tt (Zx (i := 2) J J J Tryz.zeroValue28 J J hw) J fun b _ => tt (Zu (i := 2) J J J J J (by decide) J zT28 J J ⟨(Zh J), (Zh J), trivial⟩ J hw trivial) J fun _ _ => Zc <|Za <|Zd <|mv J J <|dt (Yc (i := 2) J J J iA28 zT28 J J) J <|tt (Zg (n := 2) (wide_len _ (hs.getD _)) J J J K1 cF99 Ze J hw) J fun _ _ => dt (d_max J J J) J <|Zl J J <|Zc <|Xl <|Za <|Zd <|dt (Yg J J J ⟨by omega, by omega⟩) J <|mv J J <|Zc <|Yv (k + 1) (by first | omega | (dsimp only <;> omega)) (by first | omega | (dsimp only <;> omega)) ⟨J, by rw [take_snoc 0 _ _ (by omega), msz_snoc]; exact congrArg some (i64_eq (by omega)), rfl, rfl, trivial⟩ K2
 ·exact Yo <|Zt <|Zt <|Xr <|Za <|Zb <|Zd <|mv J J <|Zl J J <|Zc <|Za <|Zq <|Zr (.inl J) hsc () _ (fun a w hs => Yr hs Tryz.results110 J) (by rw [List.take_of_length_le (by omega)]) trivial J Zj
theorem f_note (bd : Nat) (t : TypeId) (e e2 : Int) (n : Bool) (s : ByteArray) : CalB Tryz.prog 144 #[.pointer (some ⟨bd, 0, none⟩), .agg #[.bool n, .string s], .int .i64 e2] [] false bd t #[.int .i64 e] (G := Unit) (fun _ => True) (fun _ => .agg #[.bool n, .string s]) (fun _ => #[.int .i64 (if e = 0 then e2 else e)]) (fun _ => []) := by
 refine calb_in Tryz.func144 J Tryz.ntmps144 J trivial ?_
 intro w0 sc hw hsc
 simp only [Zp, Zo]
 refine Zb <|Zd <|tt (Yq (i := 2) J J J J J J hw) J fun b _ => tt (Zx (i := 3) J J J Tryz.zeroValue28 J J hw) J fun b_2 _ => Zc <|Za <|Zb <|Zb <|Zd <|mv J J <|dt (d_nc J J) J <|dt (Yk J J uT144 J zT29 J J) J <|dt (Xb (i := 1) J J J iA29 J) J <|dt (Xu J J J) J <|Zc <|Za <|Zn J (fun h19 => ?_) (fun h19 => ?_)
 ·exact Zd <|mv J J <|mv J J <|dt (d_nc J J) J <|dt (Yk J J uT144 J zT29 J J) J <|tt (Zu (i := 1) J J J J J (by decide) J zT29 J J ⟨(Zh J), trivial⟩ J hw trivial) J fun _ _ => Zc <|Za <|Zb <|Zd <|dt (Yc (i := 2) J J J iA28 zT28 J J) J <|tt (Zu (i := 3) J J J J J (by decide) J zT28 J J ⟨(Zh J), (Zh J), trivial⟩ J hw trivial) J fun _ _ => Zc <|Za <|Zq <|x_endb (.inl J) hsc () _ (fun a w hs => Yr hs Tryz.results144 (Yl (i := 3) J J iA28 zT28 J)) J trivial 1 J (by simp_all [layAt]) J J Zj
 ·exact Zk <|Za <|Zb <|Zd <|dt (Yc (i := 2) J J J iA28 zT28 J J) J <|tt (Zu (i := 3) J J J J J (by decide) J zT28 J J ⟨(Zh J), (Zh J), trivial⟩ J hw trivial) J fun _ _ => Zc <|Za <|Zq <|x_endb (.inl J) hsc () _ (fun a w hs => Yr hs Tryz.results144 (Yl (i := 3) J J iA28 zT28 J)) J trivial 1 J (by simp_all [layAt]) J J Zj
theorem d_mul_ (bd : Nat) (e x y : Int) (hx : bl x.natAbs ≤ 65536) (hy : bl y.natAbs ≤ 65536) : CalB Tryz.prog 114 #[.pointer (some ⟨bd, 0, none⟩), wv x, wv y] [] false bd 146 #[.int .i64 e] (G := Unit) (fun _ => True) (fun _ => wv (clip (x * y))) (fun _ => #[.int .i64 (err e (x * y))]) (fun _ => []) := by
 refine calb_in Tryz.func114 J Tryz.ntmps114 J trivial ?_
 intro w0 sc hw hsc
 simp only [Zp, Zo]
 refine Zb <|Zd <|tt (Yq (i := 2) J J J J J J hw) J fun b _ => tt (Yq (i := 3) J J J J J J hw) J fun b_2 _ => tt (Zx (i := 4) J J J Tryz.zeroValue28 J J hw) J fun b_3 _ => Zc <|Za <|Zb <|Xa (fun x => x = bd) [(0, 0), (1, 0), (2, 0), (3, 0), (4, 0), (5, 1), (6, 0), (7, 0), (8, 1), (9, 3)] (by kernel_rfl) ?_ ?_
 ·kernel_rfl
 exact r0' J J J J (st1 1 J (Zv J J)) <|r0' J J J J (st1 1 J (d_nc J J)) <|r0' J J J J (st1 1 J (Yk J J uT146 J zT144 J J)) <|r0' J J J J (st1 1 J (Yc (i := 2) J J J iA28 zT28 J J)) <|r0' J J J J (st1 1 J (Yc (i := 3) J J J iA28 zT28 J J)) <|r1' J J (Zg (n := 4) (wide_mul _ _ (by assumption) (by assumption)) J J J K2 cF145 Ze J hw) fun _ _ => r0' J J J J (st1 1 J (Zw J J J)) <|r0' J J J J (st1 1 J (Zw J J J)) <|r1' J J (Qd (n := 4) (i := 1) (f_note _ _ _ _ _ _) J J J K3 cF144 J (by decide) Ze J hw J) fun _ _ => r3' J J (Zu (i := 4) J J J J J (by decide) J zT28 J J ⟨(Zh J), (Zh J), trivial⟩ J hw trivial) fun _ _ => Xn <|Za <|Zq <|x_endb (.inl J) hsc () _ (fun a w hs => Yr hs Tryz.results114 (Yl (i := 4) J J iA28 zT28 J)) J trivial 1 J J J J Zj
theorem dk_mul (bd : Nat) (x y : Int) (hx : bl x.natAbs ≤ 65536) (hy : bl y.natAbs ≤ 65536) (hz : bl (x * y).natAbs ≤ 65536) : CalB Tryz.prog 114 #[.pointer (some ⟨bd, 0, none⟩), wv x, wv y] [] false bd 146 #[.int .i64 0] (G := Unit) (fun _ => True) (fun _ => wv (x * y)) (fun _ => #[.int .i64 0]) (fun _ => []) := by
 have h := d_mul_ bd 0 x y hx hy
 rw [clip_ok hz, err_ok hz] at h; exact h
theorem d_add_ (bd : Nat) (e x y : Int) (hx : bl x.natAbs ≤ 65536) (hy : bl y.natAbs ≤ 65536) : CalB Tryz.prog 163 #[.pointer (some ⟨bd, 0, none⟩), wv x, wv y] [] false bd 146 #[.int .i64 e] (G := Unit) (fun _ => True) (fun _ => wv (clip (x + y))) (fun _ => #[.int .i64 (err e (x + y))]) (fun _ => []) := by
 refine calb_in Tryz.func163 J Tryz.ntmps163 J trivial ?_
 intro w0 sc hw hsc
 simp only [Zp, Zo]
 refine Zb <|Zd <|tt (Yq (i := 2) J J J J J J hw) J fun b _ => tt (Yq (i := 3) J J J J J J hw) J fun b_2 _ => tt (Zx (i := 4) J J J Tryz.zeroValue28 J J hw) J fun b_3 _ => Zc <|Za <|Zb <|Xa (fun x => x = bd) [(0, 0), (1, 0), (2, 0), (3, 0), (4, 0), (5, 1), (6, 0), (7, 0), (8, 1), (9, 3)] (by kernel_rfl) ?_ ?_
 ·kernel_rfl
 exact r0' J J J J (st1 1 J (Zv J J)) <|r0' J J J J (st1 1 J (d_nc J J)) <|r0' J J J J (st1 1 J (Yk J J uT146 J zT144 J J)) <|r0' J J J J (st1 1 J (Yc (i := 2) J J J iA28 zT28 J J)) <|r0' J J J J (st1 1 J (Yc (i := 3) J J J iA28 zT28 J J)) <|r1' J J (Zg (n := 4) (wide_add _ _ (by assumption) (by assumption)) J J J K2 cF54 Ze J hw) fun _ _ => r0' J J J J (st1 1 J (Zw J J J)) <|r0' J J J J (st1 1 J (Zw J J J)) <|r1' J J (Qd (n := 4) (i := 1) (f_note _ _ _ _ _ _) J J J K3 cF144 J (by decide) Ze J hw J) fun _ _ => r3' J J (Zu (i := 4) J J J J J (by decide) J zT28 J J ⟨(Zh J), (Zh J), trivial⟩ J hw trivial) fun _ _ => Xn <|Za <|Zq <|x_endb (.inl J) hsc () _ (fun a w hs => Yr hs Tryz.results163 (Yl (i := 4) J J iA28 zT28 J)) J trivial 1 J J J J Zj
theorem dk_add (bd : Nat) (x y : Int) (hx : bl x.natAbs ≤ 65536) (hy : bl y.natAbs ≤ 65536) (hz : bl (x + y).natAbs ≤ 65536) : CalB Tryz.prog 163 #[.pointer (some ⟨bd, 0, none⟩), wv x, wv y] [] false bd 146 #[.int .i64 0] (G := Unit) (fun _ => True) (fun _ => wv (x + y)) (fun _ => #[.int .i64 0]) (fun _ => []) := by
 have h := d_add_ bd 0 x y hx hy
 rw [clip_ok hz, err_ok hz] at h; exact h
theorem d_sub_ (bd : Nat) (e x y : Int) (hx : bl x.natAbs ≤ 65536) (hy : bl y.natAbs ≤ 65536) : CalB Tryz.prog 119 #[.pointer (some ⟨bd, 0, none⟩), wv x, wv y] [] false bd 146 #[.int .i64 e] (G := Unit) (fun _ => True) (fun _ => wv (clip (x - y))) (fun _ => #[.int .i64 (err e (x - y))]) (fun _ => []) := by
 refine calb_in Tryz.func119 J Tryz.ntmps119 J trivial ?_
 intro w0 sc hw hsc
 simp only [Zp, Zo]
 refine Zb <|Zd <|tt (Yq (i := 2) J J J J J J hw) J fun b _ => tt (Yq (i := 3) J J J J J J hw) J fun b_2 _ => tt (Zx (i := 4) J J J Tryz.zeroValue28 J J hw) J fun b_3 _ => Zc <|Za <|Zb <|Xa (fun x => x = bd) [(0, 0), (1, 0), (2, 0), (3, 0), (4, 0), (5, 1), (6, 0), (7, 0), (8, 1), (9, 3)] (by kernel_rfl) ?_ ?_
 ·kernel_rfl
 exact r0' J J J J (st1 1 J (Zv J J)) <|r0' J J J J (st1 1 J (d_nc J J)) <|r0' J J J J (st1 1 J (Yk J J uT146 J zT144 J J)) <|r0' J J J J (st1 1 J (Yc (i := 2) J J J iA28 zT28 J J)) <|r0' J J J J (st1 1 J (Yc (i := 3) J J J iA28 zT28 J J)) <|r1' J J (Zg (n := 4) (wide_sub _ _ (by assumption) (by assumption)) J J J K2 cF146 Ze J hw) fun _ _ => r0' J J J J (st1 1 J (Zw J J J)) <|r0' J J J J (st1 1 J (Zw J J J)) <|r1' J J (Qd (n := 4) (i := 1) (f_note _ _ _ _ _ _) J J J K3 cF144 J (by decide) Ze J hw J) fun _ _ => r3' J J (Zu (i := 4) J J J J J (by decide) J zT28 J J ⟨(Zh J), (Zh J), trivial⟩ J hw trivial) fun _ _ => Xn <|Za <|Zq <|x_endb (.inl J) hsc () _ (fun a w hs => Yr hs Tryz.results119 (Yl (i := 4) J J iA28 zT28 J)) J trivial 1 J J J J Zj
theorem dk_sub (bd : Nat) (x y : Int) (hx : bl x.natAbs ≤ 65536) (hy : bl y.natAbs ≤ 65536) (hz : bl (x - y).natAbs ≤ 65536) : CalB Tryz.prog 119 #[.pointer (some ⟨bd, 0, none⟩), wv x, wv y] [] false bd 146 #[.int .i64 0] (G := Unit) (fun _ => True) (fun _ => wv (x - y)) (fun _ => #[.int .i64 0]) (fun _ => []) := by
 have h := d_sub_ bd 0 x y hx hy
 rw [clip_ok hz, err_ok hz] at h; exact h
theorem d_done (bd : Nat) (v : Value) (xs : List Int) (hs : Sz 65536 xs) : Cal Tryz.prog 115 #[.pointer (some ⟨bd, 0, none⟩), v] [rbox bd 146 #[.int .i64 0], slp 2 wv v xs] true (G := Unit) (fun _ => True) (fun _ => .tuple #[preV v (tzl xs).length, .int .i64 0]) (fun _ => [slp 2 wv (preV v (tzl xs).length) (tzl xs)]) := by
 refine Ya Tryz.func115 J Tryz.ntmps115 J K2 ?_
 intro w0 sc hw hsc
 simp only [Zp, Zo]
 refine Zb <|Zd <|Zl J J <|Zl J J <|Zc <|Za <|Zb <|Zb <|Zd <|mv J J <|dt (d_nc J J) J <|dt (Yk J J uT146 J zT144 J J) J <|dt (Yk J J uT144 J zT29 J J) J <|dt (d_lr (i := 1) J J J iA29 J) J <|dt (Ys J J J) J <|Zc <|Za <|Zn J (fun h43 => ?_) (fun h43 => ?_)
 ·exfalso; simp_all
 ·exact Zk <|Za <|Zb <|Zd <|mv J J <|tt (Zg (n := 3) (poly_trim _ _ (by assumption)) J J J K1 cF120 (Zf 2 J J J Ze) J hw) J fun _ _ => Zl J J <|Zl J J <|Zc <|Za <|Zq <|Zr (.inl J) hsc () _ (fun a w hs => Xp hs Tryz.results115 J J) J trivial J (Xw 3 J J J Zj)
end Go.Sky
namespace Go.Sky
open Go.Proofs
set_option maxRecDepth 20000
set_option maxHeartbeats 4000000
set_option linter.unusedVariables false
set_option linter.unusedSimpArgs false
theorem poly_scale (v : Value) (xs : List Int) (c : Int) (hv : Vp xs) (hc : bl c.natAbs ≤ 65536) (hz : ∀ i, bl (cf xs i * c).natAbs ≤ 65536) : Cal Tryz.prog 113 #[v, wv c] [slp 2 wv v xs] true (G := Value) (fun r => True) (fun r => .tuple #[r, .int .i64 0]) (fun r => [slp 2 wv r (pscale xs c)]) := by
 refine Ya Tryz.func113 J Tryz.ntmps113 J K1 ?_
 intro w0 sc hw hsc
 simp only [Zp, Zo]
 have hlen := hv.len
 refine Zb <|Zd <|tt (Yq (i := 2) J J J J J J hw) J fun b _ => Zl J J <|Zl J J <|Zc <|Za <|Zb <|Zb <|Zd <|mv J J <|tt (Zg (n := 2) (poly_valid_ok _ _ (by assumption)) J J J K1 cF56 (Zf 1 J J J Ze) J hw) J fun _ _ => dt (Xf J J) J <|mv J J <|Yj (Yc (i := 2) J J J iA28 zT28 J J) J J J J <|gtt (Zg (n := 2) (wide_valid_ok _ (by assumption)) J J J K1 cF109 Ze J hw) J J J J fun _ _ => Yj (Xf J J) J J J J <|dt (Zs J J J) J <|Zc <|Za <|Yd J <|Zk <|Za <|Zb <|Zd <|tt (Zx (i := 3) J J J Tryz.zeroValue146 J J hw) J fun b_2 _ => Zc <|Za <|Zb <|Zd <|mv J J <|dt (Zy J J (i := 1) J Zi uT23) J <|tt (t_mkn (i := 4) (n := _) (by_ := 24) (enc := wv) 0 J J J J J J uT23 Tryz.ti28 J pV.cells pV.pos J J (by omega) (by decide) J hw) J fun v _ => Zl J J <|Zc <|Za <|Zb <|Zb <|Zd <|mv J J <|dt (Zy J J (i := 1) J Zi uT23) J <|mv J J <|Zc <|Za <|Zm ?_
 refine Xv [(3, _), (6, _), (7, _), (21, _), (22, _)] [(0, _), (1, _), (2, _), (3, _)] (fun (k : Nat) => [(23, .int .i64 (k : Int))]) (fun (k : Nat) => [(4, osl 2 28 wv v (fill xs.length k (fun i => cf xs i * c)))]) (fun (k : Nat) => (k ≤ xs.length)) (fun (k : Nat) => xs.length - k) 0 (by first | omega | (dsimp only <;> omega)) K6 ⟨by rw [fill_zero xs.length (fun i => cf xs i * c)]; rfl, rfl, rfl, rfl, rfl, trivial⟩ ?_
 rintro k hk
 simp only [List.cons_append, List.nil_append]
 refine Zb <|Zd <|dt (Yw J J J) J <|Zc <|Za <|Zb <|Zn J (fun h159 => ?_) (fun h159 => ?_)
 ·exact Zk <|Za <|Zb <|Zm <|Zb <|Zd <|mv J J <|dt (Yf (ii := 1) J J J J Zi uT23 zT28 J (by first | omega | (simp only [List.length_set]; omega))) J <|dt (Yn (ii := 1) 0 J J J Zi pV (by first | omega | (simp only [List.length_set]; omega))) J <|tt (Zx (i := 5) J J J Tryz.zeroValue28 J J hw) J fun b_3 _ => Zl J J <|tt (Zu (i := 5) J J J J J (by decide) J zT28 J J ⟨(Zh J), (Zh J), trivial⟩ J hw trivial) J fun _ _ => Zc <|Za <|Zd <|mv J J <|mv J J <|dt (Yc (i := 5) J J J iA28 zT28 J J) J <|dt (Yc (i := 2) J J J iA28 zT28 J J) J <|tt (Qd (n := 5) (i := 3) (dk_mul _ _ _ (hv.sz.getD _) hc (hz _)) J J J K3 cF114 J (by decide) Ze J hw trivial) J fun _ _ => dt (Yf (ii := 4) (i := k) J J J J (Ye pV) uT23 zT28 J (by rw [length_fill]; omega)) J <|tt (Qo (i := 4) (enc := wv) _ J J J J J J (by decide) pV (by rw [length_fill]; omega) J hw) J fun _ _ => Zc <|Xl <|Za <|Zd <|dt (Yg J J J ⟨by omega, by omega⟩) J <|mv J J <|Zc <|Yv (k + 1) (by first | omega | (dsimp only <;> omega)) (by first | omega | (dsimp only <;> omega)) K6 ⟨by rw [← fill_set (by omega)]; rfl, rfl, rfl, rfl, rfl, trivial⟩
 ·refine Yo <|Zt <|Zt <|Xr <|Za <|Zb ?_
  obtain rfl : k = xs.length := by omega
  exact Yh (Xk 4 J J pV) <|Yh (s_rbox 3 J J) <|Zd <|mv J J <|tt (Zg (n := 6) (d_done _ _ _ (by rw [fill_all]; exact mk_sz fun i _ => hz i)) J J J K2 cF115 (Zf 3 J J J (Zf 4 J J J Ze)) J hw) J fun _ _ => dt (Zw J J J) J <|dt (Zw J J J) J <|Zl J J <|Zl J J <|Zc <|Za <|Zq <|Zr (.inl J) hsc _ _ (fun a w hs => Xp hs Tryz.results113 J J) J trivial J (Yi 6 J J J (by rw [pscale_mk] <;> rfl) Zj)
theorem poly_derive (v : Value) (xs : List Int) (hv : Vp xs) (hz : ∀ i, bl (cf xs (i + 1) * ((i : Int) + 1)).natAbs ≤ 65536) : Cal Tryz.prog 65 #[v] [slp 2 wv v xs] true (G := Value) (fun r => True) (fun r => .tuple #[r, .int .i64 0]) (fun r => [slp 2 wv r (pder xs)]) := by
 refine Ya Tryz.func65 J Tryz.ntmps65 J K1 ?_
 intro w0 sc hw hsc
 simp only [Zp, Zo]
 have hlen := hv.len
 refine Zb <|Zd <|Zl J J <|Zl J J <|Zc <|Za <|Zb <|Zb <|Zd <|mv J J <|tt (Zg (n := 1) (poly_valid_ok _ _ (by assumption)) J J J K1 cF56 (Zf 1 J J J Ze) J hw) J fun _ _ => dt (Xf J J) J <|Zc <|Za <|Yd J <|Zk <|Za <|Zb <|Zb <|Zd <|mv J J <|dt (Zy J J (i := 1) J Zi uT23) J <|dt (Xu J J J) J <|Zc <|Za <|Zn J (fun h170 => ?_) (fun h170 => ?_)
 ·exact Zb <|Zd <|Zl J J <|Zl J J <|Zc <|Za <|Zq <|Yp <|Zr (.inl J) hsc _ _ (fun a w hs => Xp hs Tryz.results65 J J) J trivial J (give_none (pder_nil (by omega)) Zj)
 ·refine Zk <|Za <|Zb <|Zd <|tt (Zx (i := 2) J J J Tryz.zeroValue146 J J hw) J fun b _ => Zc <|Za <|Zb <|Zd <|mv J J <|dt (Zy J J (i := 1) J Zi uT23) J <|dt (Xc J J J ⟨by omega, by omega⟩) J <|tt (t_mkn (i := 3) (n := (xs.length - 1)) (by_ := 24) (enc := wv) 0 J J J J J (by omega) uT23 Tryz.ti28 J pV.cells pV.pos J J (by omega) (by decide) J hw) J fun v _ => Zl J J <|Zc <|Za <|Zb <|Zb <|Zd <|mv J J <|dt (Zy J J (i := 3) J (Ye pV) uT23) J <|mv J J <|Zc <|Za <|Zm <|Xv [(0, _), (4, _), (5, _), (18, _)] [(0, _), (1, _), (2, _)] (fun (k : Nat) => [(19, .int .i64 (k : Int))]) (fun (k : Nat) => [(3, osl 2 28 wv v (fill (xs.length - 1) k (fun i => cf xs (i + 1) * ((i : Int) + 1))))]) (fun (k : Nat) => (k ≤ xs.length - 1)) (fun (k : Nat) => xs.length - 1 - k) 0 (by first | omega | (dsimp only <;> omega)) K5 ⟨by rw [fill_zero (xs.length - 1) (fun i => cf xs (i + 1) * ((i : Int) + 1))]; rfl, rfl, rfl, rfl, trivial⟩ ?_
  rintro k hk
  simp only [List.cons_append, List.nil_append]
  have hlf : (fill (xs.length - 1) k (fun i => cf xs (i + 1) * ((i : Int) + 1))).length = xs.length - 1 := length_fill _ _ _
  refine Zb <|Zd <|dt (Yw J J J) J <|Zc <|Za <|Zb <|Zn J (fun h175 => ?_) (fun h175 => ?_)
  ·try rw [List.length_replicate] at *
   refine Zk <|Za <|Zb <|Zm <|Zb <|Zd <|mv J J <|Zl J J <|Zc <|Za <|Xa (fun x => x = b) [(0, 0), (1, 0), (2, 0), (3, 0), (4, 0), (5, 0), (6, 0), (7, 0), (8, 0), (9, 1), (10, 1), (11, 0), (12, 3)] (by kernel_rfl) ?_ ?_
   ·kernel_rfl
   exact r0' J J J J (st1 2 J (Zv J J)) <|r0' J J J J (st1 2 J (Zv J J)) <|r0' J J J J (st1 2 J (Zv J J)) <|r0' J J J J (st1 2 J (Zv J J)) <|r0' J J J J (st1 2 J (Yg J J J ⟨by omega, by omega⟩)) <|r0' J J J J (st1 2 J (Yf (ii := 1) (i := k + 1) J J J J Zi uT23 zT28 (by omega) (by omega))) <|r0' J J J J (st1 2 J (Yn (ii := 1) 0 J J J Zi pV (by omega))) <|r0' J J J J (st1 2 J (Zv J J)) <|r0' J J J J (st1 2 J (Yg J J J ⟨by omega, by omega⟩)) <|r1' J J (Zg (n := 3) (wide_of_int _ (by first | assumption | exact ⟨by omega, by omega⟩)) J J J K1 cF55 Ze J hw) fun _ _ => r1' J J (Qd (n := 3) (i := 2) (dk_mul _ (cf xs (k + 1)) ((k : Int) + 1) (hv.sz _) (Nat.le_trans (bl_mono (n := 32) (by omega)) (by decide)) (hz k)) J J J K3 cF114 J (by decide) Ze J hw J) fun _ _ => r0' J J J J (st1 2 J (Yf (ii := 3) (i := k) J J J J (Ye pV) uT23 zT28 J (by rw [length_fill]; omega))) <|r3' J J (Qo (i := 3) (enc := wv) _ J J J J J J (by decide) pV (by rw [length_fill]; omega) J hw) fun _ _ => Xn <|Xl <|Za <|Zd <|dt (Yg J J J ⟨by omega, by omega⟩) J <|mv J J <|Zc <|Yv (k + 1) (by first | omega | (dsimp only <;> omega)) (by first | omega | (dsimp only <;> omega)) K5 ⟨by rw [← fill_set (by omega)]; rfl, rfl, rfl, rfl, trivial⟩
  ·try rw [List.length_replicate] at *
   refine Yo <|Zt <|Zt <|Xr <|Za <|Zb ?_
   obtain rfl : k = xs.length - 1 := by omega
   exact Yh (Xk 3 J J pV) <|Yh (s_rbox 2 J J) <|Zd <|mv J J <|tt (Zg (n := 4) (d_done _ _ _ (by rw [fill_all]; exact mk_sz fun i _ => hz i)) J J J K2 cF115 (Zf 2 J J J (Zf 3 J J J Ze)) J hw) J fun _ _ => dt (Zw J J J) J <|dt (Zw J J J) J <|Zl J J <|Zl J J <|Zc <|Za <|Zq <|Zr (.inl J) hsc _ _ (fun a w hs => Xp hs Tryz.results65 J J) J trivial J (Yi 4 J J J (by rw [pder_mk hv.tr] <;> rfl) Zj)
theorem poly_content (v : Value) (xs : List Int) (hv : Vp xs) : Cal Tryz.prog 121 #[v] [slp 2 wv v xs] false (G := Unit) (fun _ => True) (fun _ => .tuple #[wv (pcont xs), .int .i64 0]) (fun _ => []) := by
 refine Ya Tryz.func121 J Tryz.ntmps121 J K1 ?_
 intro w0 sc hw hsc
 simp only [Zp, Zo]
 have hlen := hv.len
 have hcb : ∀ k, bl (pcont (xs.take k)).natAbs ≤ 65536 := fun k => pcont_bl _ (hv.sz.take k)
 refine Zb <|Zd <|tt (Zx (i := 2) J J J Tryz.zeroValue28 J J hw) J fun b _ => Zl J J <|Zc <|Za <|Zb <|Zb <|Zd <|mv J J <|tt (Zg (n := 2) (poly_valid_ok _ _ (by assumption)) J J J K1 cF56 (Zf 1 J J J Ze) J hw) J fun _ _ => dt (Xf J J) J <|Zc <|Za <|Yd J <|Zk <|Za <|Zb <|Zd <|tt (Zx (i := 3) J J J Tryz.zeroValue146 J J hw) J fun b_2 _ => Zc <|Za <|Zb <|Zd <|tt (Zx (i := 4) J J J Tryz.zeroValue28 J J hw) J fun b_3 _ => Zc <|Za <|Zb <|Zb <|Zd <|mv J J <|dt (Zy J J (i := 1) J Zi uT23) J <|mv J J <|Zc <|Za <|Zm <|Xv [(2, _), (4, _), (5, _), (12, _), (13, _)] [(0, _), (1, _), (2, _)] (fun (k : Nat) => [(14, .int .i64 (k : Int))]) (fun (k : Nat) => [(4, box b_3 28 #[.bool (decide (pcont (xs.take k) < 0)), .string (bstr (pcont (xs.take k)).natAbs)]), (3, box b_2 146 #[.int .i64 0])]) (fun (k : Nat) => (k ≤ xs.length)) (fun (k : Nat) => xs.length - k) 0 (by first | omega | (dsimp only <;> omega)) K6 K5 ?_
 rintro k hk
 simp only [List.cons_append, List.nil_append]
 have hgc := fun h => pcont_take_succ (p := xs) (k := k) h
 refine Zb <|Zd <|dt (Yw J J J) J <|Zc <|Za <|Zb <|Zn J (fun h264 => ?_) (fun h264 => ?_)
 ·refine Zk <|Za <|Zb <|Zm <|Zb <|Zd <|dt (Yf (ii := 1) J J J J Zi uT23 zT28 J (by first | omega | (simp only [List.length_set]; omega))) J <|dt (Yn (ii := 1) 0 J J J Zi pV (by first | omega | (simp only [List.length_set]; omega))) J <|tt (Zx (i := 5) J J J Tryz.zeroValue28 J J hw) J fun b_4 _ => tt (Zu (i := 5) J J J J J (by decide) J zT28 J J ⟨(Zh J), (Zh J), trivial⟩ J hw trivial) J fun _ _ => Zc <|Za <|Zd <|dt (Yk J J uT146 J zT144 J J) J <|dt (Yc (i := 4) J J J iA28 zT28 J J) J <|dt (Yc (i := 5) J J J iA28 zT28 J J) J <|tt (Zg (n := 5) (wide_gcd (pcont (xs.take k)) (xs.getD k 0) (hcb _) (hv.sz.getD _)) J J J K2 cF147 Ze J hw) J fun _ _ => dt (Zw J J J) J <|dt (Zw J J J) J <|tt (Qd (n := 5) (i := 3) (f_note _ _ _ _ _ _) J J J K3 cF144 J (by decide) Ze J hw trivial) J fun _ _ => tt (Zu (i := 4) J J J J J (by decide) J zT28 J J ⟨(Zh J), (Zh J), trivial⟩ J hw trivial) J fun _ _ => Zc <|Xl <|Za <|Zd <|dt (Yg J J J ⟨by omega, by omega⟩) J <|mv J J <|Zc ?_
  have hc1 := hcb (k + 1)
  rw [hgc (by omega)] at hc1
  exact Yv (k + 1) (by first | omega | (dsimp only <;> omega)) (by first | omega | (dsimp only <;> omega)) K6 ⟨by rw [hgc (by omega)]; simp only [clip_ok hc1]; rfl, by simp only [full_ok hc1]; rfl, rfl, rfl, rfl, trivial⟩
 ·exact Yo <|Zt <|Zt <|Xr <|Za <|Zb <|e_dregf [3, 4] [5] (by kernel_rfl) <|Yu (n := 0) [(0, 0), (1, 0), (2, 0), (3, 0), (4, 1), (5, 3)] (by kernel_rfl) <|r0' J J J J (stf (Yc (i := 4) J J J iA28 zT28 J J) K2) <|r0' J J J J (stf (Yk J J uT146 J zT144 J J) K2) <|r0' J J J J (stf (Yk J J uT144 J zT29 J J) K2) <|r0' J J J J (stf (Xb (i := 3) J J J iA29 J) K2) <|r1' J J (t_off 2 J J K2 (fun hoffb => (Zu (i := 2) J J J J J (by decide) J zT28 J J ⟨(Zh J), (Zh J), trivial⟩ J hw hoffb))) fun _ _ => r3' J J (Qa (Qf J J) J J) fun _ _ => Xh <|Xg (by kernel_rfl) <|Za <|Zq <|Zr (.inl J) hsc () _ (fun a w hs => Xp hs Tryz.results121 (Yl (i := 2) J J iA28 zT28 J) J) (by rw [show k = xs.length by omega, List.take_length] <;> rfl) trivial J Zj
theorem poly_quotient (v : Value) (xs : List Int) (c : Int) (hv : Sz 65536 xs) (hlen : xs.length ≤ 1000) (hc : bl c.natAbs ≤ 65536) (hd : ∀ i, c ∣ cf xs i) (hc0 : xs ≠ [] → c ≠ 0) : Cal Tryz.prog 122 #[v, wv c] [slp 2 wv v xs] true (G := Value) (fun r => True) (fun r => .tuple #[r, .int .i64 0]) (fun r => [slp 2 wv r (xs.map (· / c))]) := by
 refine Ya Tryz.func122 J Tryz.ntmps122 J K1 ?_
 intro w0 sc hw hsc
 simp only [Zp, Zo]
 refine Zb <|Zd <|tt (Yq (i := 2) J J J J J J hw) J fun b _ => Zl J J <|Zl J J <|Zc <|Za <|Zb <|Zd <|mv J J <|dt (Zy J J (i := 1) J Zi uT23) J <|tt (t_mkn (i := 3) (n := _) (by_ := 24) (enc := wv) 0 J J J J J J uT23 Tryz.ti28 J pV.cells pV.pos J J (by omega) (by decide) J hw) J fun v _ => Zl J J <|Zc <|Za <|Zb <|Zb <|Zd <|mv J J <|dt (Zy J J (i := 1) J Zi uT23) J <|mv J J <|Zc <|Za <|Zm <|Xv [(3, _), (6, _), (15, _), (16, _)] [(0, _), (1, _), (2, _)] (fun (k : Nat) => [(17, .int .i64 (k : Int))]) (fun (k : Nat) => [(3, osl 2 28 wv v (fill xs.length k (fun i => cf xs i / c)))]) (fun (k : Nat) => (k ≤ xs.length)) (fun (k : Nat) => xs.length - k) 0 (by first | omega | (dsimp only <;> omega)) K5 ⟨by rw [fill_zero xs.length (fun i => cf xs i / c)]; rfl, rfl, rfl, rfl, trivial⟩ ?_
 rintro k hk
 simp only [List.cons_append, List.nil_append]
 have hcl : clip (xs.getD k 0 / c) = cf xs k / c := clip_ok (ediv_bl_le (hd k) (hv k))
 refine Zb <|Zd <|dt (Yw J J J) J <|Zc <|Za <|Zb <|Zn J (fun h273 => ?_) (fun h273 => ?_)
 ·refine Zk <|Za <|Zb <|Zm <|Zb <|Zd <|mv J J <|dt (Yf (ii := 1) J J J J Zi uT23 zT28 J (by first | omega | (simp only [List.length_set]; omega))) J <|dt (Yn (ii := 1) 0 J J J Zi pV (by first | omega | (simp only [List.length_set]; omega))) J <|tt (Zx (i := 4) J J J Tryz.zeroValue28 J J hw) J fun b_2 _ => Zl J J <|tt (Zu (i := 4) J J J J J (by decide) J zT28 J J ⟨(Zh J), (Zh J), trivial⟩ J hw trivial) J fun _ _ => Zc <|Za <|Zb <|Zd <|dt (Yc (i := 4) J J J iA28 zT28 J J) J <|dt (Yc (i := 2) J J J iA28 zT28 J J) J <|tt (Zg (n := 4) (wide_quo _ _ (hv.getD _) hc (hc0 (by intro e; rw [e] at h273; simp at h273; omega))) J J J K2 cF53 Ze J hw) J fun _ _ => mv J J <|dt (Zw J J J) J <|dt (Zw J J J) J <|dt (Zw J J J) J <|tt (Zx (i := 5) J J J Tryz.zeroValue28 J J hw) J fun b_3 _ => tt (Zx (i := 6) J J J Tryz.zeroValue28 J J hw) J fun b_4 _ => tt (Zu (i := 5) J J J J J (by decide) J zT28 J J ⟨(Zh J), (Zh J), trivial⟩ J hw trivial) J fun _ _ => tt (Zu (i := 6) J J J J J (by decide) J zT28 J J ⟨(Zh J), (Zh J), trivial⟩ J hw trivial) J fun _ _ => Zl J J <|Zc <|Za <|Zb <|Zb <|Zd <|mv J J <|dt (Ys J J J) J <|Zc <|Za <|Zn J (fun h275 => ?_) (fun h275 => ?_)
  ·exfalso; simp_all
  ·exact Zk <|Za <|Zd <|mv J J <|mv J J <|dt (Yc (i := 5) J J J iA28 zT28 J J) J <|dt (Yf (ii := 3) (i := k) J J J J (Ye pV) uT23 zT28 J (by rw [length_fill]; omega)) J <|tt (Qo (i := 3) (enc := wv) _ J J J J J J (by decide) pV (by rw [length_fill]; omega) J hw) J fun _ _ => Zc <|Xl <|Za <|Zd <|dt (Yg J J J ⟨by omega, by omega⟩) J <|mv J J <|Zc <|Yv (k + 1) (by first | omega | (dsimp only <;> omega)) (by first | omega | (dsimp only <;> omega)) K5 ⟨by rw [← fill_set (by omega)]; simp only [hcl]; rfl, rfl, rfl, rfl, trivial⟩
 ·refine Yo <|Zt <|Zt <|Xr <|Za <|Zb <|Zd <|mv J J <|Zl J J <|Zl J J <|Zc <|Za <|Zq ?_
  obtain rfl : k = xs.length := by omega
  exact Zr (.inl J) hsc _ _ (fun a w hs => Xp hs Tryz.results122 J J) J trivial J (Xs 3 J J pV (by rw [fill_all, mk_map xs (· / c)] <;> rfl) Zj)
theorem poly_primitive (v : Value) (xs : List Int) (hv : Vp xs) : Cal Tryz.prog 68 #[v] [slp 2 wv v xs] true (G := Value) (fun r => True) (fun r => .tuple #[r, .int .i64 0]) (fun r => [slp 2 wv r (pprim xs)]) := by
 refine Ya Tryz.func68 J Tryz.ntmps68 J K1 ?_
 intro w0 sc hw hsc
 simp only [Zp, Zo]
 have hlen := hv.len
 refine Zb <|Zd <|Zl J J <|Zl J J <|Zc <|Za <|Zb <|Zd <|mv J J <|tt (Zg (n := 1) (poly_content _ _ (by assumption)) J J J K1 cF121 (Zf 1 J J J Ze) J hw) J fun _ _ => mv J J <|dt (Zw J J J) J <|dt (Zw J J J) J <|tt (Zx (i := 2) J J J Tryz.zeroValue28 J J hw) J fun b _ => tt (Zu (i := 2) J J J J J (by decide) J zT28 J J ⟨(Zh J), (Zh J), trivial⟩ J hw trivial) J fun _ _ => Zl J J <|Zc <|Za <|Zb <|Zb <|Zd <|mv J J <|dt (Ys J J J) J <|Zc <|Za <|Zn J (fun h286 => ?_) (fun h286 => ?_)
 ·exfalso; simp_all
 ·exact Zk <|Za <|Zb <|Zd <|mv J J <|dt (Yc (i := 2) J J J iA28 zT28 J J) J <|tt (Zg (n := 3) (poly_quotient _ _ _ hv.sz (by omega) (pcont_bl _ hv.sz) (pcont_dvd _) hv.ne) J J J K2 cF122 (Zf 1 J J J Ze) J hw) J fun _ _ => dt (Zw J J J) J <|dt (Zw J J J) J <|Zl J J <|Zl J J <|Zc <|Za <|Zq <|Zr (.inl J) hsc _ _ (fun a w hs => Xp hs Tryz.results68 J J) J trivial J (Yi 3 J J J J Zj)
theorem poly_eval (v : Value) (xs : List Int) (x y : Int) (hv : Vp xs) (hx : bl x.natAbs ≤ 65536) (hy : bl y.natAbs ≤ 65536) (hy0 : 0 < y) : Cal Tryz.prog 150 #[v, .agg #[.bool (decide (x < 0)), .string (bstr x.natAbs), .bool (decide (y < 0)), .string (bstr y.natAbs)]] [slp 2 wv v xs] false (G := Unit) (fun _ => True) (fun _ => .tuple #[wv (evv xs x y), .int .i64 (eve xs x y)]) (fun _ => []) := by
 refine Ya Tryz.func150 J Tryz.ntmps150 J K1 ?_
 intro w0 sc hw hsc
 simp only [Zp, Zo]
 have hlen := hv.len
 refine Zb <|Zd <|tt (Yq (i := 2) J J J J J J hw) J fun b _ => tt (Zx (i := 3) J J J Tryz.zeroValue28 J J hw) J fun b_2 _ => Zl J J <|Zc <|Za <|Zb <|Zb <|Zd <|mv J J <|tt (Zg (n := 3) (poly_valid_ok _ _ (by assumption)) J J J K1 cF56 (Zf 1 J J J Ze) J hw) J fun _ _ => dt (Xf J J) J <|mv J J <|Yj (Yt (i := 2) J J J iA49 zT49 J J J J) J J J J <|gtt (Zg (n := 3) (wide_validratio_ok _ _ (by assumption) (by assumption) (by assumption)) J J J K1 cF98 Ze J hw) J J J J fun _ _ => Yj (Xf J J) J J J J <|dt (Zs J J J) J <|Zc <|Za <|Yd J <|Zk <|Za <|Zb <|Zb <|Zd <|mv J J <|dt (Zy J J (i := 1) J Zi uT23) J <|dt (Xu J J J) J <|Zc <|Za <|Zn J (fun h186 => ?_) (fun h186 => ?_)
 ·exact Zb <|Zd <|dt (Xx (ivs := []) J trivial (fun a w hs => b28_)) J <|tt (Zu (i := 3) J J J J J (by decide) J zT28 J J ⟨(Zh J), (Zh J), trivial⟩ J hw trivial) J fun _ _ => Zl J J <|Zc <|Za <|Zq <|Yp <|Zr (.inl J) hsc () _ (fun a w hs => Xp hs Tryz.results150 (Yl (i := 3) J J iA28 zT28 J) J) (by rw [List.eq_nil_of_length_eq_zero (l := xs) (by omega)]; rfl) trivial J Zj
 ·have hne : xs ≠ [] := fun e => by rw [e] at h186; simp at h186
  have hm1 := msz_le hv.sz
  have hsxy : Sz 65536 [x, y] := Sz.of_mem (by intro z hz; simp at hz; rcases hz with rfl | rfl <;> assumption)
  have hm2 := msz_le hsxy
  have hm3 : (xs.length - 1) * msz [x, y] ≤ 24 * 65536 := Nat.mul_le_mul (by omega) hm2
  have hm4 : ((xs.length : Int) - 1) * (msz [x, y] : Int) = (((xs.length - 1) * msz [x, y] : Nat) : Int) := by rw [Int.natCast_mul]; congr 1; omega
  refine Zk <|Za <|Zb <|e_jn [(0, _), (3, _), (4, _)] [(0, _), (1, _), (2, _), (3, _)] (fun (_ : Unit) => [(37, .bool (decide ((65536 : Int) < (msz xs : Int) + ((xs.length : Int) - 1) * (msz [x, y] : Int) + 8)))]) (fun (_ : Unit) => []) (fun (_ : Unit) => True) K3 K4 ?_ ?_
  ·refine e_drega (fun _ => False) [] (by kernel_rfl) <|Yu (n := 7) [(0, 0), (2, 0), (3, 0), (4, 0), (5, 0), (6, 0), (7, 0), (8, 0)] (by kernel_rfl) <|r0' J J J J (st0 (Zv J J)) <|r0' J J J J (st0 (Zv J J)) <|r0' J J J J (st0 (Zy J J (i := 1) J Zi uT23)) <|r0' J J J J (st0 (Xc J J J ⟨by omega, by omega⟩)) <|r0' J J J J (st0 (Yk J J uT49 J zT28 J J)) <|r0' J J J J (st0 (Yc (i := 2) J J J iA28 zT28 J J)) <|r0' J J J J (st0 (Yk J J uT49 J zT28 J J)) <|r0' J J J J (st0 (Yc (i := 2) J J J iA28 zT28 J J)) <|Xh <|Ql (n := 6) 1 9 (by kernel_rfl) ?_ ?_
   ·exact Xi J J (Zg (n := 3) (poly_size _ _ (by first | exact hv.sz | exact hsxy)) J J J K1 cF110 (Zf 1 J J J Ze) J hw) fun _ _ => Yu (n := 0) [(9, 1), (10, 1), (11, 0), (12, 0), (13, 0), (14, 0)] (by kernel_rfl) <|r1' J J (Xm (i := 90) (ivs := [(0, _), (1, _)]) (enc := wv) [x, y] J J J K4 uT22 Tryz.ti28 J J J J J J pV.cells J J hw) fun v _ => r1' J J (Zg (n := 3) (poly_size _ _ (by first | exact hv.sz | exact hsxy)) J J J K1 cF110 (Xe 90 J J pV Ze) J hw) fun _ _ => r0' J J J J (st0 (d_mul J J J (by rw [hm4]; exact ⟨by omega, by omega⟩))) <|r0' J J J J (st0 (Yg J J J (by rw [hm4]; exact ⟨by omega, by omega⟩))) <|r0' J J J J (st0 (Yg J J J (by rw [hm4]; exact ⟨by omega, by omega⟩))) <|r0' J J J J (st0 (Xd J J J)) <|Xh <|Xg (by kernel_rfl) <|Xq () trivial K4 K4
   ·exact Xi J J (Xm (i := 90) (ivs := [(0, _), (1, _)]) (enc := wv) [x, y] J J J K4 uT22 Tryz.ti28 J J J J J J pV.cells J J hw) fun v_2 _ => Yu (n := 0) [(1, 1), (10, 1), (11, 0), (12, 0), (13, 0), (14, 0)] (by kernel_rfl) <|r1' J J (Zg (n := 3) (poly_size _ _ (by first | exact hv.sz | exact hsxy)) J J J K1 cF110 (Zf 1 J J J Ze) J hw) fun _ _ => r1' J J (Zg (n := 3) (poly_size _ _ (by first | exact hv.sz | exact hsxy)) J J J K1 cF110 (Xe 90 J J pV Ze) J hw) fun _ _ => r0' J J J J (st0 (d_mul J J J (by rw [hm4]; exact ⟨by omega, by omega⟩))) <|r0' J J J J (st0 (Yg J J J (by rw [hm4]; exact ⟨by omega, by omega⟩))) <|r0' J J J J (st0 (Yg J J J (by rw [hm4]; exact ⟨by omega, by omega⟩))) <|r0' J J J J (st0 (Xd J J J)) <|Xh <|Xg (by kernel_rfl) <|Xq () trivial K4 K4
  ·rintro _ -
   simp only [List.cons_append, List.nil_append]
   refine Zn J (fun h189 => ?_) (fun h189 => ?_)
   ·have hE : evfull xs x y := ⟨hne, by rw [hm4] at h189; omega⟩
    exact Zb <|Zd <|dt (Xx (ivs := []) J trivial (fun a w hs => b28_)) J <|tt (Zu (i := 3) J J J J J (by decide) J zT28 J J ⟨(Zh J), (Zh J), trivial⟩ J hw trivial) J fun _ _ => Zl J J <|Zc <|Za <|Zq <|Yp <|Zr (.inl J) hsc () _ (fun a w hs => Xp hs Tryz.results150 (Yl (i := 3) J J iA28 zT28 J) J) (by unfold evv eve; rw [if_pos hE, if_pos hE] <;> rfl) trivial J Zj
   ·have hF : msz xs + (xs.length - 1) * msz [x, y] + 8 ≤ 65536 := by rw [hm4] at h189; omega
    refine Zk <|Za <|Zb <|Zd <|tt (Zx (i := 4) J J J Tryz.zeroValue146 J J hw) J fun b_3 _ => Zc <|Za <|e_jn [(0, _), (3, _), (4, _), (6, _)] [(0, _), (1, _), (2, _), (3, _), (4, _)] (fun (q : Nat × Nat) => [(7, .pointer (some ⟨q.1, 0, none⟩)), (8, .pointer (some ⟨q.2, 0, none⟩))]) (fun (q : Nat × Nat) => [(97, box q.1 28 (wc (xs.getD (xs.length - 1) 0))), (98, box q.2 28 (wc 1))]) (fun (q : Nat × Nat) => True) K4 K5 ?_ ?_
    ·refine e_drega (fun _ => False) [9, 10] (by kernel_rfl) <|Yu (n := 5) [(0, 0), (1, 0), (2, 0), (3, 0), (4, 0), (5, 0)] (by kernel_rfl) <|r0' J J J J (st0 (Zv J J)) <|r0' J J J J (st0 (Zv J J)) <|r0' J J J J (st0 (Zy J J (i := 1) J Zi uT23)) <|r0' J J J J (st0 (Xc J J J ⟨by omega, by omega⟩)) <|r0' J J J J (st0 (Yf (ii := 1) (i := (xs.length - 1)) J J J J Zi uT23 zT28 (by omega) (by omega))) <|r0' J J J J (st0 (Yn (ii := 1) 0 J J J Zi pV (by omega))) <|Xh <|a_br3 (n := 4) 6 7 8 (by kernel_rfl) ?_ ?_ ?_
     ·refine Xi J J (Zg (n := 4) (wide_of_int _ (by first | assumption | exact ⟨by omega, by omega⟩)) J J J K1 cF55 Ze J hw) fun _ _ => Ql (n := 3) 7 8 (by kernel_rfl) ?_ ?_
      ·exact Xi J J (Zx (i := 97) J J J Tryz.zeroValue28 J J hw) fun b_4 _ => Yu (n := 0) [(8, 1), (9, 3), (10, 3)] (by kernel_rfl) <|r1' J J (Zx (i := 98) J J J Tryz.zeroValue28 J J hw) fun b_5 _ => r3' J J (Zu (i := 97) J J J J J (by decide) J zT28 J J ⟨(Zh J), (Zh J), trivial⟩ J hw trivial) fun _ _ => r3' J J (Zu (i := 98) J J J J J (by decide) J zT28 J J ⟨(Zh J), (Zh J), trivial⟩ J hw trivial) fun _ _ => Xh <|Xg (by kernel_rfl) <|Xq (_, _) trivial K6 K7
      ·exact Xi J J (Zx (i := 98) J J J Tryz.zeroValue28 J J hw) fun b_6 _ => Yu (n := 0) [(7, 1), (9, 3), (10, 3)] (by kernel_rfl) <|r1' J J (Zx (i := 97) J J J Tryz.zeroValue28 J J hw) fun b_7 _ => r3' J J (Zu (i := 97) J J J J J (by decide) J zT28 J J ⟨(Zh J), (Zh J), trivial⟩ J hw trivial) fun _ _ => r3' J J (Zu (i := 98) J J J J J (by decide) J zT28 J J ⟨(Zh J), (Zh J), trivial⟩ J hw trivial) fun _ _ => Xh <|Xg (by kernel_rfl) <|Xq (_, _) trivial K6 K7
     ·refine Xi J J (Zx (i := 97) J J J Tryz.zeroValue28 J J hw) fun b_8 _ => Ql (n := 3) 6 8 (by kernel_rfl) ?_ ?_
      ·exact Xi J J (Zg (n := 4) (wide_of_int _ (by first | assumption | exact ⟨by omega, by omega⟩)) J J J K1 cF55 Ze J hw) fun _ _ => Yu (n := 0) [(8, 1), (9, 3), (10, 3)] (by kernel_rfl) <|r1' J J (Zx (i := 98) J J J Tryz.zeroValue28 J J hw) fun b_9 _ => r3' J J (Zu (i := 97) J J J J J (by decide) J zT28 J J ⟨(Zh J), (Zh J), trivial⟩ J hw trivial) fun _ _ => r3' J J (Zu (i := 98) J J J J J (by decide) J zT28 J J ⟨(Zh J), (Zh J), trivial⟩ J hw trivial) fun _ _ => Xh <|Xg (by kernel_rfl) <|Xq (_, _) trivial K6 K7
      ·exact Xi J J (Zx (i := 98) J J J Tryz.zeroValue28 J J hw) fun b_10 _ => Yu (n := 0) [(6, 1), (9, 3), (10, 3)] (by kernel_rfl) <|r1' J J (Zg (n := 4) (wide_of_int _ (by first | assumption | exact ⟨by omega, by omega⟩)) J J J K1 cF55 Ze J hw) fun _ _ => r3' J J (Zu (i := 97) J J J J J (by decide) J zT28 J J ⟨(Zh J), (Zh J), trivial⟩ J hw trivial) fun _ _ => r3' J J (Zu (i := 98) J J J J J (by decide) J zT28 J J ⟨(Zh J), (Zh J), trivial⟩ J hw trivial) fun _ _ => Xh <|Xg (by kernel_rfl) <|Xq (_, _) trivial K6 K7
     ·refine Xi J J (Zx (i := 98) J J J Tryz.zeroValue28 J J hw) fun b_11 _ => Ql (n := 3) 6 7 (by kernel_rfl) ?_ ?_
      ·exact Xi J J (Zg (n := 4) (wide_of_int _ (by first | assumption | exact ⟨by omega, by omega⟩)) J J J K1 cF55 Ze J hw) fun _ _ => Yu (n := 0) [(7, 1), (9, 3), (10, 3)] (by kernel_rfl) <|r1' J J (Zx (i := 97) J J J Tryz.zeroValue28 J J hw) fun b_12 _ => r3' J J (Zu (i := 97) J J J J J (by decide) J zT28 J J ⟨(Zh J), (Zh J), trivial⟩ J hw trivial) fun _ _ => r3' J J (Zu (i := 98) J J J J J (by decide) J zT28 J J ⟨(Zh J), (Zh J), trivial⟩ J hw trivial) fun _ _ => Xh <|Xg (by kernel_rfl) <|Xq (_, _) trivial K6 K7
      ·exact Xi J J (Zx (i := 97) J J J Tryz.zeroValue28 J J hw) fun b_13 _ => Yu (n := 0) [(6, 1), (9, 3), (10, 3)] (by kernel_rfl) <|r1' J J (Zg (n := 4) (wide_of_int _ (by first | assumption | exact ⟨by omega, by omega⟩)) J J J K1 cF55 Ze J hw) fun _ _ => r3' J J (Zu (i := 97) J J J J J (by decide) J zT28 J J ⟨(Zh J), (Zh J), trivial⟩ J hw trivial) fun _ _ => r3' J J (Zu (i := 98) J J J J J (by decide) J zT28 J J ⟨(Zh J), (Zh J), trivial⟩ J hw trivial) fun _ _ => Xh <|Xg (by kernel_rfl) <|Xq (_, _) trivial K6 K7
    ·rintro ⟨b7, b8⟩ -
     simp only [List.cons_append, List.nil_append]
     refine Zb <|Zb <|Zd <|mv J J <|dt (Zy J J (i := 1) J Zi uT23) J <|dt (Xc J J J ⟨by omega, by omega⟩) J <|Zl J J <|Zc <|Za <|Zm <|Xv [(0, _), (3, _), (4, _), (6, _), (7, _), (8, _)] [(0, _), (1, _), (2, _), (3, _), (4, _)] (fun (k : Nat) => [(9, .int .i64 ((k : Int) - 1))]) (fun (k : Nat) => [(97, box b7 28 (wc (hor xs x y k))), (98, box b8 28 (wc (y ^ (xs.length - 1 - k))))]) (fun (k : Nat) => (k ≤ xs.length - 1)) (fun (k : Nat) => k) (xs.length - 1) (by first | omega | (dsimp only <;> omega)) ⟨by rw [show ((xs.length - 1 : Nat) : Int) - 1 = (xs.length : Int) - 2 by omega]; rfl, rfl, rfl, rfl, rfl, rfl, rfl, trivial⟩ ⟨by rw [hor_top x y (by omega)]; rfl, by rw [Nat.sub_self, Int.pow_zero]; rfl, rfl, rfl, rfl, rfl, rfl, trivial⟩ ?_
     rintro k hk
     simp only [List.cons_append, List.nil_append]
     refine Zb <|Zb <|Zd <|mv J J <|dt (Qb J J J) J <|Zc <|Za <|Zn J (fun h194 => ?_) (fun h194 => ?_)
     ·have hpw : y ^ (xs.length - 1 - k) * y = y ^ (xs.length - 1 - (k - 1)) := pow_step y (by omega) hk
      have hst : hor xs x y k * x + xs.getD (k - 1) 0 * y ^ (xs.length - 1 - (k - 1)) = hor xs x y (k - 1) := hor_step' x y (by omega) hk
      refine Zk <|Za <|Zb <|Zm <|Zb <|Zd <|dt (Yc (i := 98) J J J iA28 zT28 J J) J <|dt (Yk J J uT49 J zT28 J J) J <|dt (Yc (i := 2) J J J iA28 zT28 J J) J <|tt (Qd (n := 4) (i := 4) (dk_mul _ _ _ (ev_pow hF) hy (by rw [hpw]; exact ev_pow hF)) J J J K3 cF114 J (by decide) Ze J hw trivial) J fun _ _ => tt (Zu (i := 98) J J J J J (by decide) J zT28 J J ⟨(Zh J), (Zh J), trivial⟩ J hw trivial) J fun _ _ => Zc <|Za <|Xa (fun x => x = b_3) [(0, 0), (1, 0), (2, 0), (4, 0), (5, 0), (6, 0), (7, 0), (8, 0), (3, 1), (9, 1), (10, 1), (11, 3)] (by kernel_rfl) ?_ ?_
      ·kernel_rfl
      refine r0' J J J J (st1 4 J (Yc (i := 97) J J J iA28 zT28 J J)) <|r0' J J J J (st1 4 J (Yk J J uT49 J zT28 J J)) <|r0' J J J J (st1 4 J (Yc (i := 2) J J J iA28 zT28 J J)) <|r0' J J J J (st1 4 J (Zv J J)) <|r0' J J J J (st1 4 J (Zv J J)) <|r0' J J J J (st1 4 J (Yf (ii := 1) (i := (k - 1)) J J J J Zi uT23 zT28 (by omega) (by omega))) <|r0' J J J J (st1 4 J (Yn (ii := 1) 0 J J J Zi pV (by omega))) <|r0' J J J J (st1 4 J (Yc (i := 98) J J J iA28 zT28 J J)) <|r1' J J (Qd (n := 4) (i := 4) (dk_mul _ _ _ (by first | exact ev_hor hF hlen _ | exact hv.sz.getD _) (by first | exact hx | (rw [hpw]; exact ev_pow hF)) (by first | exact ev_mul hF hlen (by omega) hk | (rw [hpw]; exact ev_term hF))) J J J K3 cF114 J (by decide) Ze J hw J) fun _ _ => r1' J J (Qd (n := 4) (i := 4) (dk_mul _ _ _ (by first | exact ev_hor hF hlen _ | exact hv.sz.getD _) (by first | exact hx | (rw [hpw]; exact ev_pow hF)) (by first | exact ev_mul hF hlen (by omega) hk | (rw [hpw]; exact ev_term hF))) J J J K3 cF114 J (by decide) Ze J hw J) fun _ _ => r1' J J (Qd (n := 4) (i := 4) (dk_add _ _ _ (ev_mul hF hlen (by omega) hk) (by rw [hpw]; exact ev_term hF) (by rw [hpw, hst]; exact ev_hor hF hlen _)) J J J K3 cF163 J (by decide) Ze J hw J) (fun _ _ => ?_)
      exact r3' J J (Zu (i := 97) J J J J J (by decide) J zT28 J J ⟨(Zh J), (Zh J), trivial⟩ J hw trivial) fun _ _ => Xn <|Xl <|Za <|Zd <|mv J J <|dt (Xc J J J ⟨by omega, by omega⟩) J <|Zl J J <|Zc <|Yv (k - 1) (by first | omega | (dsimp only <;> omega)) (by first | omega | (dsimp only <;> omega)) ⟨by rw [show ((k - 1 : Nat) : Int) - 1 = (k : Int) - 1 - 1 by omega]; rfl, rfl, rfl, rfl, rfl, rfl, rfl, trivial⟩ ⟨by rw [hpw, hst]; rfl, by rw [hpw]; rfl, rfl, rfl, rfl, rfl, rfl, trivial⟩
     ·refine Yo <|Zt <|Zt <|Xr <|Za <|Zb <|Zb <|Zd <|dt (Yk J J uT146 J zT144 J J) J <|dt (Yk J J uT144 J zT29 J J) J <|dt (Xb (i := 4) J J J iA29 J) J <|dt (Ys J J J) J <|Zc <|Za <|Zn J (fun h198 => ?_) (fun h198 => ?_)
      ·exfalso; simp_all
      ·refine Zk <|Za <|Zb <|Zd <|dt (Yc (i := 97) J J J iA28 zT28 J J) J <|tt (Zu (i := 3) J J J J J (by decide) J zT28 J J ⟨(Zh J), (Zh J), trivial⟩ J hw trivial) J fun _ _ => Zl J J <|Zc <|Za <|Zq ?_
       obtain rfl : k = 0 := by omega
       have hE : ¬ evfull xs x y := fun h => by have := h.2; omega
       exact Zr (.inl J) hsc () _ (fun a w hs => Xp hs Tryz.results150 (Yl (i := 3) J J iA28 zT28 J) J) (by unfold evv eve; rw [if_neg hE, if_neg hE, ← hor_zero] <;> rfl) trivial J Zj
theorem poly_signat (v : Value) (xs : List Int) (x y : Int) (hv : Vp xs) (hx : bl x.natAbs ≤ 65536) (hy : bl y.natAbs ≤ 65536) (hy0 : 0 < y) : Cal Tryz.prog 127 #[v, .agg #[.bool (decide (x < 0)), .string (bstr x.natAbs), .bool (decide (y < 0)), .string (bstr y.natAbs)]] [slp 2 wv v xs] false (G := Unit) (fun _ => True) (fun _ => .tuple #[.int .i64 (evv xs x y).sign, .int .i64 (eve xs x y)]) (fun _ => []) := by
 refine Ya Tryz.func127 J Tryz.ntmps127 J K1 ?_
 intro w0 sc hw hsc
 simp only [Zp, Zo]
 have hlen := hv.len
 exact Zb <|Zd <|tt (Yq (i := 2) J J J J J J hw) J fun b _ => Zl J J <|Zl J J <|Zc <|Za <|Zb <|Zd <|mv J J <|dt (Yt (i := 2) J J J iA49 zT49 J J J J) J <|tt (Zg (n := 2) (poly_eval _ _ _ _ hv hx hy hy0) J J J K2 cF150 (Zf 1 J J J Ze) J hw) J fun _ _ => mv J J <|dt (Zw J J J) J <|dt (Zw J J J) J <|tt (Zx (i := 3) J J J Tryz.zeroValue28 J J hw) J fun b_2 _ => tt (Zu (i := 3) J J J J J (by decide) J zT28 J J ⟨(Zh J), (Zh J), trivial⟩ J hw trivial) J fun _ _ => Zl J J <|Zc <|Za <|Zb <|Zd <|dt (Yc (i := 3) J J J iA28 zT28 J J) J <|tt (Zg (n := 3) (wide_sign _ (evv_bl hlen)) J J J K1 cF80 Ze J hw) J fun _ _ => mv J J <|Zl J J <|Zl J J <|Zc <|Za <|Zq <|Zr (.inl J) hsc () _ (fun a w hs => Xp hs Tryz.results127 J J) J trivial J Zj
end Go.Sky
namespace Go.Sky
open Go.Proofs
set_option maxRecDepth 20000
set_option maxHeartbeats 4000000
set_option linter.unusedVariables false
set_option linter.unusedSimpArgs false
theorem d_done_b (bd : Nat) (v : Value) (xs : List Int) (hs : Sz 65536 xs) : CalB Tryz.prog 115 #[.pointer (some ⟨bd, 0, none⟩), v] [slp 2 wv v xs] true bd 146 #[.int .i64 0] (G := Unit) (fun _ => True) (fun _ => .tuple #[preV v (tzl xs).length, .int .i64 0]) (fun _ => #[.int .i64 0]) (fun _ => [slp 2 wv (preV v (tzl xs).length) (tzl xs)]) := by
 refine calb_in Tryz.func115 J Tryz.ntmps115 J K1 ?_
 intro w0 sc hw hsc
 simp only [Zp, Zo]
 refine Zb <|Zd <|Zl J J <|Zl J J <|Zc <|Za <|Zb <|Zb <|Zd <|mv J J <|dt (d_nc J J) J <|dt (Yk J J uT146 J zT144 J J) J <|dt (Yk J J uT144 J zT29 J J) J <|dt (Xb (i := 1) J J J iA29 J) J <|dt (Ys J J J) J <|Zc <|Za <|Zn J (fun h43 => ?_) (fun h43 => ?_)
 ·exfalso; simp_all
 ·exact Zk <|Za <|Zb <|Zd <|mv J J <|tt (Zg (n := 3) (poly_trim _ _ (by assumption)) J J J K1 cF120 (Zf 2 J J J Ze) J hw) J fun _ _ => Zl J J <|Zl J J <|Zc <|Za <|Zq <|x_endb (.inl J) hsc () _ (fun a w hs => Xp hs Tryz.results115 J J) J trivial 1 J J J J (Xw 3 J J J Zj)
theorem clone_p (v : Value) (xs : List Int) (hx : xs.length * 24 ≤ 140737488355328) : CalO Tryz.prog 118 #[v] [slp 2 wv v xs] (G := Value) (fun r => True) (fun r => r) (fun r => osl 2 28 wv r xs) := by
 refine calo_in Tryz.func118 J Tryz.ntmps118 J K1 ?_
 intro w0 sc hw hsc
 simp only [Zp, Zo]
 refine Qh (f_nil (i := 1) J Zi) fun hnil => Zb <|Zd <|Zl J J <|Zc <|Za <|Zb <|Zb <|Zd <|mv J J <|dt (d_isnil J J J (i := 1) J Zi uT23) J <|Zc <|Za <|Qn J (fun h357 => ?_) (fun h357 => ?_)
 ·refine Zb <|Zd <|Zl J J <|Zc <|Za <|Zq <|Yp ?_
  obtain rfl : xs = [] := hnil (by simpa using h357)
  exact Xz (Xy 9 2 28 wv) <|x_endo (.inl J) (.slice none 0 0) _ (fun a w hs => Yr hs Tryz.results118 J) J trivial J 9 J J J
 ·exact Zk <|Za <|Zb <|Zd <|tt (t_bs0 (i := 2) (enc := wv) J J J uT23 pV J hw) J fun v _ => mv J J <|tt (t_appa (i := 2) (j := 1) (by_ := 24) J J J J J J (by decide) J Zi uT23 Tryz.ti28 J pV J J J (by simp; omega) (by decide) J hw) J fun v_2 _ => Zl J J <|Zc <|Za <|Zq <|x_endo (.inl J) _ _ (fun a w hs => Yr hs Tryz.results118 J) J trivial J 2 J (by rfl) J
theorem poly_degree (v : Value) (xs : List Int) (hv : Vp xs) : Cal Tryz.prog 57 #[v] [slp 2 wv v xs] false (G := Unit) (fun _ => True) (fun _ => .tuple #[.int .i64 ((xs.length : Int) - 1), .int .i64 0]) (fun _ => []) := by
 refine Ya Tryz.func57 J Tryz.ntmps57 J K1 ?_
 intro w0 sc hw hsc
 simp only [Zp, Zo]
 have hlen := hv.len
 exact Zb <|Zd <|Zl J J <|Zl J J <|Zc <|Za <|Zb <|Zb <|Zd <|mv J J <|tt (Zg (n := 1) (poly_valid_ok _ _ (by assumption)) J J J K1 cF56 (Zf 1 J J J Ze) J hw) J fun _ _ => dt (Xf J J) J <|Zc <|Za <|Yd J <|Zk <|Za <|Zb <|Zd <|mv J J <|dt (Zy J J (i := 1) J Zi uT23) J <|dt (Xc J J J ⟨by omega, by omega⟩) J <|Zl J J <|Zl J J <|Zc <|Za <|Zq <|Zr (.inl J) hsc () _ (fun a w hs => Xp hs Tryz.results57 J J) J trivial J Zj
theorem poly_bits (v : Value) (xs : List Int) (hv : Vp xs) : Cal Tryz.prog 58 #[v] [slp 2 wv v xs] false (G := Unit) (fun _ => True) (fun _ => .tuple #[.int .i64 (msz xs : Int), .int .i64 0]) (fun _ => []) := by
 refine Ya Tryz.func58 J Tryz.ntmps58 J K1 ?_
 intro w0 sc hw hsc
 simp only [Zp, Zo]
 exact Zb <|Zd <|Zl J J <|Zl J J <|Zc <|Za <|Zb <|Zb <|Zd <|mv J J <|tt (Zg (n := 1) (poly_valid_ok _ _ (by assumption)) J J J K1 cF56 (Zf 1 J J J Ze) J hw) J fun _ _ => dt (Xf J J) J <|Zc <|Za <|Yd J <|Zk <|Za <|Zb <|Zd <|mv J J <|tt (Zg (n := 1) (poly_size _ _ hv.sz) J J J K1 cF110 (Zf 1 J J J Ze) J hw) J fun _ _ => Zl J J <|Zl J J <|Zc <|Za <|Zq <|Zr (.inl J) hsc () _ (fun a w hs => Xp hs Tryz.results58 J J) J trivial J Zj
end Go.Sky

