/- rules, arithmetic and contracts: part 7
   Proved without conditions of its own: each theorem bears its own. -/
import Derived.Test.YtcegclhbeflgbaaGreatSc02
import Derived.Test.YtcegclhbeflgbaaGreatSc01
import Derived.Test.YtcegclhbeflgbaaGreatSc03
import Derived.Test.YtcegclhbeflgbaaGreatSc05
set_option linter.all false
namespace Go.Sky
open Go.Proofs
set_option maxRecDepth 20000
set_option maxHeartbeats 4000000
set_option linter.unusedVariables false
set_option linter.unusedSimpArgs false
theorem poly_trim (v : Value) (xs : List Int) (hs : Sz 65536 xs) : Cal Tryz.prog 120 #[v] [slp 2 wv v xs] true (G := Unit) (fun _ => True) (fun _ => preV v (tzl xs).length) (fun _ => [slp 2 wv (preV v (tzl xs).length) (tzl xs)]) := by
 refine cal_in Tryz.func120 rfl Tryz.ntmps120 rfl ⟨rfl, trivial⟩ ?_
 intro w0 sc hw hsc
 simp only [enumEnv, enumPre]
 refine e_fact (f_self (i := 1) rfl rd_slp) (fun hself => ?_)
 refine e_fact (f_len (i := 1) rfl rd_slp) (fun hlen => ?_)
 refine e_seq (e_reg (as_ rfl rfl (l_nil (x_then (e_seq (e_block (e_lp [] [(0, _)] (fun (k : Nat) => [(0, preV v k)]) (fun (k : Nat) => [(1, slp 2 wv (preV v k) (xs.take k))]) (fun (k : Nat) => (k ≤ xs.length) ∧ (tzl (xs.take k) = tzl xs)) (fun (k : Nat) => k) xs.length ⟨Nat.le_refl _, by rw [List.take_length]⟩ ⟨by rw [hself]; rfl, trivial⟩ ⟨by rw [hself, List.take_length]; rfl, rfl, trivial⟩ ?_)))))))
 rintro k ⟨hk, ht⟩
 simp only [List.cons_append, List.nil_append]
 have hl : (xs.take k).length = k := by rw [List.length_take]; omega
 refine e_seq (e_seq (e_reg (mv rfl rfl (dt (d_len rfl rfl (i := 1) rfl rd_slp Tryz.underlying23) rfl ?_))))
 refine dt (d_gtr rfl rfl rfl) rfl ?_
 refine mv rfl rfl (l_split (d := 6) rfl (fun s35 => ?_) (fun s35 => ?_))
 ·refine gdt (d_mv rfl rfl) rfl rfl rfl rfl ?_
  refine gdt (d_mv rfl rfl) rfl rfl rfl rfl ?_
  refine gdt (d_len rfl rfl (i := 1) rfl rd_slp Tryz.underlying23) rfl rfl rfl rfl ?_
  refine gdt (d_sub rfl rfl rfl ⟨by omega, by omega⟩) rfl rfl rfl rfl ?_
  refine gdt (d_ixa (ii := 1) (i := k - 1) rfl rfl rfl rfl rd_slp Tryz.underlying23 Tryz.sizeOf28 (by omega) (by omega)) rfl rfl rfl rfl ?_
  refine gdt (d_lde (ii := 1) 0 rfl rfl rfl rd_slp pV (by omega)) rfl rfl rfl rfl ?_
  refine gtt (t_call (n := 1) (wide_sign _ ((hs.take _).getD _)) rfl rfl rfl ⟨rfl, trivial⟩ Tryz.call80 pre_nil rfl hw) rfl rfl rfl rfl (fun _ _ => ?_)
  refine gdt (d_eql rfl rfl rfl) rfl rfl rfl rfl ?_
  refine dt (d_pickt rfl rfl rfl) rfl ?_
  refine l_nil (x_then (e_cond rfl (fun h35 => ?_) (fun h35 => ?_)))
  ·have hstep := tzl_step hk (by omega) (takeD_zero (k := k) (by omega) (Int.sign_eq_zero_iff_zero.1 ‹_›) : cf xs (k - 1) = 0)
   refine e_skip ?_
   refine x_then (e_block (e_reg (mv rfl rfl (mv rfl rfl (dt (d_len rfl rfl (i := 1) rfl rd_slp Tryz.underlying23) rfl ?_)))))
   refine dt (d_sub rfl rfl rfl ⟨by omega, by omega⟩) rfl ?_
   refine dt (d_pre (ii := 1) (i := k - 1) rfl rfl rfl rfl rd_slp Tryz.underlying23 Tryz.sizeOf28 (by omega) (by omega)) rfl ?_
   refine as_ rfl rfl (l_nil (x_bn ?_))
   refine x_imp (s_pre 1 1 (k - 1) rfl rfl (by omega)) ?_
   exact x_rnd (k - 1) ⟨by first | omega | (dsimp only <;> omega), by rw [← ht, ← hstep]⟩ (by first | omega | (dsimp only <;> omega)) ⟨by rw [← preV_preV v k (k - 1)]; rfl, trivial⟩ ⟨by rw [preV_preV, List.take_take, Nat.min_eq_left (by omega)]; rfl, rfl, trivial⟩
  ·refine e_exit ?_
   refine x_exit (x_exit (x_be ?_))
   refine x_then (e_seq (e_reg (mv rfl rfl (as_ rfl rfl (l_nil (x_then (e_ret ?_)))))))
   have hx : tzl xs = xs.take k := by rw [← ht]; exact tzl_stop hk (by first | (left; omega) | (right; exact takeD_ne (k := k) (by omega) (by assumption)))
   exact x_end (.inl rfl) hsc () _ (fun a w hs => res1 hs Tryz.results120 rfl) (by rw [hx, hl]) trivial rfl (give_samee 1 rfl rfl rfl (by rw [hx, hl]) give_nil)
 ·refine gsk rfl rfl rfl rfl rfl (gsk rfl rfl rfl rfl rfl (gsk rfl rfl rfl rfl rfl (gsk rfl rfl rfl rfl rfl (gsk rfl rfl rfl rfl rfl (gsk rfl rfl rfl rfl rfl (gsk rfl rfl rfl rfl rfl (gsk rfl rfl rfl rfl rfl (dt (d_pickf rfl rfl rfl) rfl ?_))))))))
  refine l_nil (x_then (e_condf rfl ?_))
  refine e_exit ?_
  refine x_exit (x_exit (x_be ?_))
  refine x_then (e_seq (e_reg (mv rfl rfl (as_ rfl rfl (l_nil (x_then (e_ret ?_)))))))
  have hx : tzl xs = xs.take k := by rw [← ht]; exact tzl_stop hk (by first | (left; omega) | (right; exact takeD_ne (k := k) (by omega) (by assumption)))
  exact x_end (.inl rfl) hsc () _ (fun a w hs => res1 hs Tryz.results120 rfl) (by rw [hx, hl]) trivial rfl (give_samee 1 rfl rfl rfl (by rw [hx, hl]) give_nil)
theorem poly_valid (v : Value) (r : List (Bool × ByteArray)) : Cal Tryz.prog 56 #[v] [slp 2 encW v r] false (G := Unit) (fun _ => True) (fun _ => .bool (okP r)) (fun _ => []) := by
 refine cal_in Tryz.func56 rfl Tryz.ntmps56 rfl ⟨rfl, trivial⟩ ?_
 intro w0 sc hw hsc
 simp only [enumEnv, enumPre]
 refine e_fact (f_len (i := 1) rfl rd_slp) (fun hlen => ?_)
 refine e_seq (e_reg (as_ rfl rfl (l_nil (x_then (e_seq (e_seq (e_reg (mv rfl rfl (dt (d_len rfl rfl (i := 1) rfl rd_slp Tryz.underlying23) rfl ?_)))))))))
 refine mv rfl rfl (l_nil (x_then (e_block (e_lp [(0, _), (5, _), (6, _)] [(0, _), (1, _)] (fun (k : Nat) => [(7, .int .i64 (k : Int))]) (fun (k : Nat) => []) (fun (k : Nat) => (k ≤ r.length) ∧ ((r.take k).all (fun w => okW w.1 w.2) = true)) (fun (k : Nat) => r.length - k) 0 ⟨by first | omega | (dsimp only <;> omega), by simp⟩ ⟨rfl, rfl, rfl, rfl, trivial⟩ ⟨rfl, rfl, trivial⟩ ?_))))
 rintro k ⟨hk, ha⟩
 simp only [List.cons_append, List.nil_append]
 refine e_seq (e_reg (dt (d_lss rfl rfl rfl) rfl ?_))
 refine l_nil (x_then (e_seq (e_cond rfl (fun h51 => ?_) (fun h51 => ?_))))
 ·refine e_skip ?_
  refine x_then (e_seq (e_block (e_seq (e_reg (dt (d_ixa (ii := 1) rfl rfl rfl rfl rd_slp Tryz.underlying23 Tryz.sizeOf28 rfl (by first | omega | (simp only [List.length_set]; omega))) rfl ?_)))))
  refine dt (d_lde (ii := 1) (false, ⟨#[]⟩) rfl rfl rfl rd_slp pW (by first | omega | (simp only [List.length_set]; omega))) rfl ?_
  refine tt (t_alloc (i := 2) rfl rfl rfl Tryz.zeroValue28 rfl rfl hw) rfl (fun b _ => ?_)
  refine tt (t_stw (i := 2) rfl rfl rfl rfl rfl (by decide) rfl Tryz.sizeOf28 rfl rfl ⟨(one_rfl rfl), (one_rfl rfl), trivial⟩ rfl hw trivial) rfl (fun _ _ => ?_)
  refine l_nil (x_then (e_seq (e_reg (dt (d_lb2 (i := 2) rfl rfl rfl Tryz.isAgg28 Tryz.sizeOf28 rfl rfl) rfl ?_))))
  refine tt (t_call (n := 2) (wide_valid _ _) rfl rfl rfl ⟨rfl, trivial⟩ Tryz.call109 pre_nil rfl hw) rfl (fun _ _ => ?_)
  refine dt (d_notb rfl rfl) rfl ?_
  refine l_nil (x_then (e_condb rfl (fun h52 => ?_) (fun h52 => ?_)))
  ·refine e_seq (e_reg (as_ rfl rfl (l_nil (x_then (e_ret (x_br ?_))))))
   refine x_ret ?_
   refine x_ret ?_
   refine x_br ?_
   refine x_ret ?_
   exact x_end (.inl rfl) hsc () _ (fun a w hs => res1 hs Tryz.results56 rfl) (by rw [okP_bad (getD_mem (i := k) (d := (false, ⟨#[]⟩)) (by omega)) (by simp_all)]) trivial rfl give_nil
  ·refine e_skip ?_
   refine x_bn ?_
   refine x_then (e_reg (dt (d_add rfl rfl rfl ⟨by omega, by omega⟩) rfl ?_))
   refine mv rfl rfl (l_nil ?_)
   exact x_rnd (k + 1) ⟨by first | omega | (dsimp only <;> omega), by rw [take_snoc (false, ⟨#[]⟩) _ _ (by omega), List.all_append, ha]; simpa using h52⟩ (by first | omega | (dsimp only <;> omega)) ⟨rfl, rfl, rfl, rfl, trivial⟩ ⟨rfl, rfl, trivial⟩
 ·refine e_exit ?_
  refine x_exit (x_exit (x_be ?_))
  refine x_then (e_seq ?_)
  obtain rfl : k = r.length := by omega
  rw [List.take_length] at ha
  obtain ⟨xs, hxs, rfl⟩ := okW_list (List.all_eq_true.1 ha)
  have hsz := Sz.of_mem hxs
  rw [List.length_map] at hlen
  refine e_imp (s_conv 1 (q := slp 2 wv v xs) rfl rfl (slp_wr' v xs) (fun _ h => h) rfl) ?_
  refine e_reg (mv rfl rfl (dt (d_len rfl rfl (i := 1) rfl rd_slp Tryz.underlying23) rfl ?_))
  refine dt (d_leq rfl rfl rfl) rfl ?_
  refine mv rfl rfl (l_split (d := 18) rfl (fun s56 => ?_) (fun s56 => ?_))
  ·refine gdt (d_mv rfl rfl) rfl rfl rfl rfl ?_
   refine gdt (d_len rfl rfl (i := 1) rfl rd_slp Tryz.underlying23) rfl rfl rfl rfl ?_
   refine gdt (d_eql rfl rfl rfl) rfl rfl rfl rfl ?_
   refine gdt (d_mv rfl rfl) rfl rfl rfl rfl ?_
   refine l_split (d := 22) rfl (fun s56_2 => ?_) (fun s56_2 => ?_)
   ·refine gsk rfl rfl rfl rfl rfl (gsk rfl rfl rfl rfl rfl (gsk rfl rfl rfl rfl rfl (gsk rfl rfl rfl rfl rfl (gsk rfl rfl rfl rfl rfl (gsk rfl rfl rfl rfl rfl (gsk rfl rfl rfl rfl rfl (gsk rfl rfl rfl rfl rfl (gdt (d_pickt rfl rfl rfl) rfl rfl rfl rfl ?_))))))))
    refine dt (d_pickt rfl rfl rfl) rfl ?_
    refine as_ rfl rfl (l_nil (x_then (e_ret ?_)))
    exact x_end (.inl rfl) hsc () _ (fun a w hs => res1 hs Tryz.results56 rfl) (by rw [okP_fin hxs]; first | (simp_all; done) | (simp_all; omega)) trivial rfl give_nil
   ·refine gdt (d_mv rfl rfl) rfl rfl rfl rfl ?_
    refine gdt (d_mv rfl rfl) rfl rfl rfl rfl ?_
    refine gdt (d_len rfl rfl (i := 1) rfl rd_slp Tryz.underlying23) rfl rfl rfl rfl ?_
    refine gdt (d_sub rfl rfl rfl ⟨by omega, by omega⟩) rfl rfl rfl rfl ?_
    refine gdt (d_ixa (ii := 1) (i := xs.length - 1) rfl rfl rfl rfl rd_slp Tryz.underlying23 Tryz.sizeOf28 (by omega) (by omega)) rfl rfl rfl rfl ?_
    refine gdt (d_lde (ii := 1) 0 rfl rfl rfl rd_slp pV (by omega)) rfl rfl rfl rfl ?_
    refine gtt (t_call (n := 2) (wide_sign _ (hsz.getD _)) rfl rfl rfl ⟨rfl, trivial⟩ Tryz.call80 pre_nil rfl hw) rfl rfl rfl rfl (fun _ _ => ?_)
    refine gdt (d_neq rfl rfl rfl) rfl rfl rfl rfl ?_
    refine gdt (d_pickf rfl rfl rfl) rfl rfl rfl rfl ?_
    refine dt (d_pickt rfl rfl rfl) rfl ?_
    refine as_ rfl rfl (l_nil (x_then (e_ret ?_)))
    exact x_end (.inl rfl) hsc () _ (fun a w hs => res1 hs Tryz.results56 rfl) (by rw [okP_fin hxs]; first | (simp_all; done) | (simp_all; omega)) trivial rfl give_nil
  ·refine gsk rfl rfl rfl rfl rfl (gsk rfl rfl rfl rfl rfl (gsk rfl rfl rfl rfl rfl (gsk rfl rfl rfl rfl rfl (gsku rfl rfl rfl ?_))))
   refine gsku rfl rfl rfl ?_
   refine gsku rfl rfl rfl ?_
   refine gsku rfl rfl rfl ?_
   refine gsku rfl rfl rfl ?_
   refine gsku rfl rfl rfl ?_
   refine gsku rfl rfl rfl ?_
   refine gsku rfl rfl rfl ?_
   refine gsk rfl rfl rfl rfl rfl (dt (d_pickf rfl rfl rfl) rfl ?_)
   refine as_ rfl rfl (l_nil (x_then (e_ret ?_)))
   exact x_end (.inl rfl) hsc () _ (fun a w hs => res1 hs Tryz.results56 rfl) (by rw [okP_fin hxs]; first | (simp_all; done) | (simp_all; omega)) trivial rfl give_nil
theorem poly_valid_ok (v : Value) (xs : List Int) (h : Vp xs) : Cal Tryz.prog 56 #[v] [slp 2 wv v xs] false (G := Unit) (fun _ => True) (fun _ => .bool true) (fun _ => []) := okP_wr h ▸ (poly_valid v (xs.map wr)).imp (slp_wr v xs) (fun _ h => h)
theorem poly_size (v : Value) (xs : List Int) (hs : Sz 65536 xs) : Cal Tryz.prog 110 #[v] [slp 2 wv v xs] false (G := Unit) (fun _ => True) (fun _ => .int .i64 (msz xs : Int)) (fun _ => []) := by
 refine cal_in Tryz.func110 rfl Tryz.ntmps110 rfl ⟨rfl, trivial⟩ ?_
 intro w0 sc hw hsc
 simp only [enumEnv, enumPre]
 refine e_fact (f_len (i := 1) rfl rd_slp) (fun hlen => ?_)
 refine e_seq (e_reg (as_ rfl rfl (l_nil (x_then (e_seq (e_reg (as_ rfl rfl (l_nil (x_then (e_seq (e_seq (e_reg (mv rfl rfl (dt (d_len rfl rfl (i := 1) rfl rd_slp Tryz.underlying22) rfl ?_))))))))))))))
 refine mv rfl rfl (l_nil (x_then (e_block (e_lp [(6, _), (7, _)] [(0, _), (1, _)] (fun (k : Nat) => [(8, .int .i64 (k : Int)), (3, .int .i64 (msz (xs.take k) : Int))]) (fun (k : Nat) => []) (fun (k : Nat) => (k ≤ xs.length)) (fun (k : Nat) => xs.length - k) 0 (by first | omega | (dsimp only <;> omega)) ⟨rfl, rfl, rfl, rfl, trivial⟩ ⟨rfl, rfl, trivial⟩ ?_))))
 rintro k hk
 simp only [List.cons_append, List.nil_append]
 refine e_seq (e_reg (dt (d_lss rfl rfl rfl) rfl ?_))
 refine l_nil (x_then (e_seq (e_cond rfl (fun h83 => ?_) (fun h83 => ?_))))
 ·refine e_skip ?_
  refine x_then (e_seq (e_block (e_seq (e_reg (dt (d_ixa (ii := 1) rfl rfl rfl rfl rd_slp Tryz.underlying22 Tryz.sizeOf28 rfl (by first | omega | (simp only [List.length_set]; omega))) rfl ?_)))))
  refine dt (d_lde (ii := 1) 0 rfl rfl rfl rd_slp pV (by first | omega | (simp only [List.length_set]; omega))) rfl ?_
  refine tt (t_alloc (i := 2) rfl rfl rfl Tryz.zeroValue28 rfl rfl hw) rfl (fun b _ => ?_)
  refine tt (t_stw (i := 2) rfl rfl rfl rfl rfl (by decide) rfl Tryz.sizeOf28 rfl rfl ⟨(one_rfl rfl), (one_rfl rfl), trivial⟩ rfl hw trivial) rfl (fun _ _ => ?_)
  refine l_nil (x_then (e_reg (mv rfl rfl (dt (d_lb2 (i := 2) rfl rfl rfl Tryz.isAgg28 Tryz.sizeOf28 rfl rfl) rfl ?_))))
  refine tt (t_call (n := 2) (wide_len _ (hs.getD _)) rfl rfl rfl ⟨rfl, trivial⟩ Tryz.call99 pre_nil rfl hw) rfl (fun _ _ => ?_)
  refine dt (d_max rfl rfl rfl) rfl ?_
  refine as_ rfl rfl (l_nil (x_bn ?_))
  refine x_then (e_reg (dt (d_add rfl rfl rfl ⟨by omega, by omega⟩) rfl ?_))
  refine mv rfl rfl (l_nil ?_)
  exact x_rnd (k + 1) (by first | omega | (dsimp only <;> omega)) (by first | omega | (dsimp only <;> omega)) ⟨rfl, by rw [take_snoc 0 _ _ (by omega), msz_snoc]; exact congrArg some (i64_eq (by omega)), rfl, rfl, trivial⟩ ⟨rfl, rfl, trivial⟩
 ·refine e_exit ?_
  refine x_exit (x_exit (x_be ?_))
  refine x_then (e_seq (e_reg (mv rfl rfl (as_ rfl rfl (l_nil (x_then (e_ret ?_)))))))
  exact x_end (.inl rfl) hsc () _ (fun a w hs => res1 hs Tryz.results110 rfl) (by rw [List.take_of_length_le (by omega)]) trivial rfl give_nil
theorem f_note (bd : Nat) (t : TypeId) (e e2 : Int) (n : Bool) (s : ByteArray) : CalB Tryz.prog 144 #[.pointer (some ⟨bd, 0, none⟩), .agg #[.bool n, .string s], .int .i64 e2] [] false bd t #[.int .i64 e] (G := Unit) (fun _ => True) (fun _ => .agg #[.bool n, .string s]) (fun _ => #[.int .i64 (if e = 0 then e2 else e)]) (fun _ => []) := by
 refine calb_in Tryz.func144 rfl Tryz.ntmps144 rfl trivial ?_
 intro w0 sc hw hsc
 simp only [enumEnv, enumPre]
 refine e_seq (e_reg (tt (t_box (i := 2) rfl rfl rfl rfl rfl rfl hw) rfl (fun b _ => ?_)))
 refine tt (t_alloc (i := 3) rfl rfl rfl Tryz.zeroValue28 rfl rfl hw) rfl (fun b_2 _ => ?_)
 refine l_nil (x_then (e_seq (e_seq (e_reg (mv rfl rfl (dt (d_nc rfl rfl) rfl ?_))))))
 refine dt (d_fa rfl rfl Tryz.underlying144 rfl Tryz.sizeOf29 rfl rfl) rfl ?_
 refine dt (d_lb (i := 1) rfl rfl rfl Tryz.isAgg29 rfl) rfl ?_
 refine dt (d_eql rfl rfl rfl) rfl ?_
 refine l_nil (x_then (e_cond rfl (fun h19 => ?_) (fun h19 => ?_)))
 ·refine e_reg (mv rfl rfl (mv rfl rfl (dt (d_nc rfl rfl) rfl ?_)))
  refine dt (d_fa rfl rfl Tryz.underlying144 rfl Tryz.sizeOf29 rfl rfl) rfl ?_
  refine tt (t_stw (i := 1) rfl rfl rfl rfl rfl (by decide) rfl Tryz.sizeOf29 rfl rfl ⟨(one_rfl rfl), trivial⟩ rfl hw trivial) rfl (fun _ _ => ?_)
  refine l_nil (x_then (e_seq (e_reg (dt (d_lb2 (i := 2) rfl rfl rfl Tryz.isAgg28 Tryz.sizeOf28 rfl rfl) rfl ?_))))
  refine tt (t_stw (i := 3) rfl rfl rfl rfl rfl (by decide) rfl Tryz.sizeOf28 rfl rfl ⟨(one_rfl rfl), (one_rfl rfl), trivial⟩ rfl hw trivial) rfl (fun _ _ => ?_)
  refine l_nil (x_then (e_ret ?_))
  exact x_endb (.inl rfl) hsc () _ (fun a w hs => res1 hs Tryz.results144 (rv_cell (i := 3) rfl rfl Tryz.isAgg28 Tryz.sizeOf28 rfl)) rfl trivial 1 rfl (by simp_all [layAt]) rfl rfl give_nil
 ·refine e_skip ?_
  refine x_then (e_seq (e_reg (dt (d_lb2 (i := 2) rfl rfl rfl Tryz.isAgg28 Tryz.sizeOf28 rfl rfl) rfl ?_)))
  refine tt (t_stw (i := 3) rfl rfl rfl rfl rfl (by decide) rfl Tryz.sizeOf28 rfl rfl ⟨(one_rfl rfl), (one_rfl rfl), trivial⟩ rfl hw trivial) rfl (fun _ _ => ?_)
  refine l_nil (x_then (e_ret ?_))
  exact x_endb (.inl rfl) hsc () _ (fun a w hs => res1 hs Tryz.results144 (rv_cell (i := 3) rfl rfl Tryz.isAgg28 Tryz.sizeOf28 rfl)) rfl trivial 1 rfl (by simp_all [layAt]) rfl rfl give_nil
theorem d_mul_ (bd : Nat) (e x y : Int) (hx : bl x.natAbs ≤ 65536) (hy : bl y.natAbs ≤ 65536) : CalB Tryz.prog 114 #[.pointer (some ⟨bd, 0, none⟩), wv x, wv y] [] false bd 146 #[.int .i64 e] (G := Unit) (fun _ => True) (fun _ => wv (clip (x * y))) (fun _ => #[.int .i64 (err e (x * y))]) (fun _ => []) := by
 refine calb_in Tryz.func114 rfl Tryz.ntmps114 rfl trivial ?_
 intro w0 sc hw hsc
 simp only [enumEnv, enumPre]
 refine e_seq (e_reg (tt (t_box (i := 2) rfl rfl rfl rfl rfl rfl hw) rfl (fun b _ => ?_)))
 refine tt (t_box (i := 3) rfl rfl rfl rfl rfl rfl hw) rfl (fun b_2 _ => ?_)
 refine tt (t_alloc (i := 4) rfl rfl rfl Tryz.zeroValue28 rfl rfl hw) rfl (fun b_3 _ => ?_)
 refine l_nil (x_then (e_seq (e_dreg (fun x => x = bd) [(0, 0), (1, 0), (2, 0), (3, 0), (4, 0), (5, 1), (6, 0), (7, 0), (8, 1), (9, 3)] (by kernel_rfl) ?_ ?_)))
 ·kernel_rfl
 refine r0' rfl rfl rfl rfl (st1 1 rfl (d_mv rfl rfl)) ?_
 refine r0' rfl rfl rfl rfl (st1 1 rfl (d_nc rfl rfl)) ?_
 refine r0' rfl rfl rfl rfl (st1 1 rfl (d_fa rfl rfl Tryz.underlying146 rfl Tryz.sizeOf144 rfl rfl)) ?_
 refine r0' rfl rfl rfl rfl (st1 1 rfl (d_lb2 (i := 2) rfl rfl rfl Tryz.isAgg28 Tryz.sizeOf28 rfl rfl)) ?_
 refine r0' rfl rfl rfl rfl (st1 1 rfl (d_lb2 (i := 3) rfl rfl rfl Tryz.isAgg28 Tryz.sizeOf28 rfl rfl)) ?_
 refine r1' rfl rfl (t_call (n := 4) (wide_mul _ _ (by assumption) (by assumption)) rfl rfl rfl ⟨rfl, rfl, trivial⟩ Tryz.call145 pre_nil rfl hw) (fun _ _ => ?_)
 refine r0' rfl rfl rfl rfl (st1 1 rfl (d_ex rfl rfl rfl)) ?_
 refine r0' rfl rfl rfl rfl (st1 1 rfl (d_ex rfl rfl rfl)) ?_
 refine r1' rfl rfl (t_callb (n := 4) (i := 1) (f_note _ _ _ _ _ _) rfl rfl rfl ⟨rfl, rfl, rfl, trivial⟩ Tryz.call144 rfl (by decide) pre_nil rfl hw rfl) (fun _ _ => ?_)
 refine r3' rfl rfl (t_stw (i := 4) rfl rfl rfl rfl rfl (by decide) rfl Tryz.sizeOf28 rfl rfl ⟨(one_rfl rfl), (one_rfl rfl), trivial⟩ rfl hw trivial) (fun _ _ => ?_)
 refine r_end ?_
 refine x_then (e_ret ?_)
 exact x_endb (.inl rfl) hsc () _ (fun a w hs => res1 hs Tryz.results114 (rv_cell (i := 4) rfl rfl Tryz.isAgg28 Tryz.sizeOf28 rfl)) rfl trivial 1 rfl rfl rfl rfl give_nil
theorem dk_mul (bd : Nat) (x y : Int) (hx : bl x.natAbs ≤ 65536) (hy : bl y.natAbs ≤ 65536) (hz : bl (x * y).natAbs ≤ 65536) : CalB Tryz.prog 114 #[.pointer (some ⟨bd, 0, none⟩), wv x, wv y] [] false bd 146 #[.int .i64 0] (G := Unit) (fun _ => True) (fun _ => wv (x * y)) (fun _ => #[.int .i64 0]) (fun _ => []) := by
 have h := d_mul_ bd 0 x y hx hy
 rw [clip_ok hz, err_ok hz] at h; exact h
theorem d_add_ (bd : Nat) (e x y : Int) (hx : bl x.natAbs ≤ 65536) (hy : bl y.natAbs ≤ 65536) : CalB Tryz.prog 163 #[.pointer (some ⟨bd, 0, none⟩), wv x, wv y] [] false bd 146 #[.int .i64 e] (G := Unit) (fun _ => True) (fun _ => wv (clip (x + y))) (fun _ => #[.int .i64 (err e (x + y))]) (fun _ => []) := by
 refine calb_in Tryz.func163 rfl Tryz.ntmps163 rfl trivial ?_
 intro w0 sc hw hsc
 simp only [enumEnv, enumPre]
 refine e_seq (e_reg (tt (t_box (i := 2) rfl rfl rfl rfl rfl rfl hw) rfl (fun b _ => ?_)))
 refine tt (t_box (i := 3) rfl rfl rfl rfl rfl rfl hw) rfl (fun b_2 _ => ?_)
 refine tt (t_alloc (i := 4) rfl rfl rfl Tryz.zeroValue28 rfl rfl hw) rfl (fun b_3 _ => ?_)
 refine l_nil (x_then (e_seq (e_dreg (fun x => x = bd) [(0, 0), (1, 0), (2, 0), (3, 0), (4, 0), (5, 1), (6, 0), (7, 0), (8, 1), (9, 3)] (by kernel_rfl) ?_ ?_)))
 ·kernel_rfl
 refine r0' rfl rfl rfl rfl (st1 1 rfl (d_mv rfl rfl)) ?_
 refine r0' rfl rfl rfl rfl (st1 1 rfl (d_nc rfl rfl)) ?_
 refine r0' rfl rfl rfl rfl (st1 1 rfl (d_fa rfl rfl Tryz.underlying146 rfl Tryz.sizeOf144 rfl rfl)) ?_
 refine r0' rfl rfl rfl rfl (st1 1 rfl (d_lb2 (i := 2) rfl rfl rfl Tryz.isAgg28 Tryz.sizeOf28 rfl rfl)) ?_
 refine r0' rfl rfl rfl rfl (st1 1 rfl (d_lb2 (i := 3) rfl rfl rfl Tryz.isAgg28 Tryz.sizeOf28 rfl rfl)) ?_
 refine r1' rfl rfl (t_call (n := 4) (wide_add _ _ (by assumption) (by assumption)) rfl rfl rfl ⟨rfl, rfl, trivial⟩ Tryz.call54 pre_nil rfl hw) (fun _ _ => ?_)
 refine r0' rfl rfl rfl rfl (st1 1 rfl (d_ex rfl rfl rfl)) ?_
 refine r0' rfl rfl rfl rfl (st1 1 rfl (d_ex rfl rfl rfl)) ?_
 refine r1' rfl rfl (t_callb (n := 4) (i := 1) (f_note _ _ _ _ _ _) rfl rfl rfl ⟨rfl, rfl, rfl, trivial⟩ Tryz.call144 rfl (by decide) pre_nil rfl hw rfl) (fun _ _ => ?_)
 refine r3' rfl rfl (t_stw (i := 4) rfl rfl rfl rfl rfl (by decide) rfl Tryz.sizeOf28 rfl rfl ⟨(one_rfl rfl), (one_rfl rfl), trivial⟩ rfl hw trivial) (fun _ _ => ?_)
 refine r_end ?_
 refine x_then (e_ret ?_)
 exact x_endb (.inl rfl) hsc () _ (fun a w hs => res1 hs Tryz.results163 (rv_cell (i := 4) rfl rfl Tryz.isAgg28 Tryz.sizeOf28 rfl)) rfl trivial 1 rfl rfl rfl rfl give_nil
theorem dk_add (bd : Nat) (x y : Int) (hx : bl x.natAbs ≤ 65536) (hy : bl y.natAbs ≤ 65536) (hz : bl (x + y).natAbs ≤ 65536) : CalB Tryz.prog 163 #[.pointer (some ⟨bd, 0, none⟩), wv x, wv y] [] false bd 146 #[.int .i64 0] (G := Unit) (fun _ => True) (fun _ => wv (x + y)) (fun _ => #[.int .i64 0]) (fun _ => []) := by
 have h := d_add_ bd 0 x y hx hy
 rw [clip_ok hz, err_ok hz] at h; exact h
theorem d_sub_ (bd : Nat) (e x y : Int) (hx : bl x.natAbs ≤ 65536) (hy : bl y.natAbs ≤ 65536) : CalB Tryz.prog 119 #[.pointer (some ⟨bd, 0, none⟩), wv x, wv y] [] false bd 146 #[.int .i64 e] (G := Unit) (fun _ => True) (fun _ => wv (clip (x - y))) (fun _ => #[.int .i64 (err e (x - y))]) (fun _ => []) := by
 refine calb_in Tryz.func119 rfl Tryz.ntmps119 rfl trivial ?_
 intro w0 sc hw hsc
 simp only [enumEnv, enumPre]
 refine e_seq (e_reg (tt (t_box (i := 2) rfl rfl rfl rfl rfl rfl hw) rfl (fun b _ => ?_)))
 refine tt (t_box (i := 3) rfl rfl rfl rfl rfl rfl hw) rfl (fun b_2 _ => ?_)
 refine tt (t_alloc (i := 4) rfl rfl rfl Tryz.zeroValue28 rfl rfl hw) rfl (fun b_3 _ => ?_)
 refine l_nil (x_then (e_seq (e_dreg (fun x => x = bd) [(0, 0), (1, 0), (2, 0), (3, 0), (4, 0), (5, 1), (6, 0), (7, 0), (8, 1), (9, 3)] (by kernel_rfl) ?_ ?_)))
 ·kernel_rfl
 refine r0' rfl rfl rfl rfl (st1 1 rfl (d_mv rfl rfl)) ?_
 refine r0' rfl rfl rfl rfl (st1 1 rfl (d_nc rfl rfl)) ?_
 refine r0' rfl rfl rfl rfl (st1 1 rfl (d_fa rfl rfl Tryz.underlying146 rfl Tryz.sizeOf144 rfl rfl)) ?_
 refine r0' rfl rfl rfl rfl (st1 1 rfl (d_lb2 (i := 2) rfl rfl rfl Tryz.isAgg28 Tryz.sizeOf28 rfl rfl)) ?_
 refine r0' rfl rfl rfl rfl (st1 1 rfl (d_lb2 (i := 3) rfl rfl rfl Tryz.isAgg28 Tryz.sizeOf28 rfl rfl)) ?_
 refine r1' rfl rfl (t_call (n := 4) (wide_sub _ _ (by assumption) (by assumption)) rfl rfl rfl ⟨rfl, rfl, trivial⟩ Tryz.call146 pre_nil rfl hw) (fun _ _ => ?_)
 refine r0' rfl rfl rfl rfl (st1 1 rfl (d_ex rfl rfl rfl)) ?_
 refine r0' rfl rfl rfl rfl (st1 1 rfl (d_ex rfl rfl rfl)) ?_
 refine r1' rfl rfl (t_callb (n := 4) (i := 1) (f_note _ _ _ _ _ _) rfl rfl rfl ⟨rfl, rfl, rfl, trivial⟩ Tryz.call144 rfl (by decide) pre_nil rfl hw rfl) (fun _ _ => ?_)
 refine r3' rfl rfl (t_stw (i := 4) rfl rfl rfl rfl rfl (by decide) rfl Tryz.sizeOf28 rfl rfl ⟨(one_rfl rfl), (one_rfl rfl), trivial⟩ rfl hw trivial) (fun _ _ => ?_)
 refine r_end ?_
 refine x_then (e_ret ?_)
 exact x_endb (.inl rfl) hsc () _ (fun a w hs => res1 hs Tryz.results119 (rv_cell (i := 4) rfl rfl Tryz.isAgg28 Tryz.sizeOf28 rfl)) rfl trivial 1 rfl rfl rfl rfl give_nil
theorem dk_sub (bd : Nat) (x y : Int) (hx : bl x.natAbs ≤ 65536) (hy : bl y.natAbs ≤ 65536) (hz : bl (x - y).natAbs ≤ 65536) : CalB Tryz.prog 119 #[.pointer (some ⟨bd, 0, none⟩), wv x, wv y] [] false bd 146 #[.int .i64 0] (G := Unit) (fun _ => True) (fun _ => wv (x - y)) (fun _ => #[.int .i64 0]) (fun _ => []) := by
 have h := d_sub_ bd 0 x y hx hy
 rw [clip_ok hz, err_ok hz] at h; exact h
theorem d_done (bd : Nat) (v : Value) (xs : List Int) (hs : Sz 65536 xs) : Cal Tryz.prog 115 #[.pointer (some ⟨bd, 0, none⟩), v] [rbox bd 146 #[.int .i64 0], slp 2 wv v xs] true (G := Unit) (fun _ => True) (fun _ => .tuple #[preV v (tzl xs).length, .int .i64 0]) (fun _ => [slp 2 wv (preV v (tzl xs).length) (tzl xs)]) := by
 refine cal_in Tryz.func115 rfl Tryz.ntmps115 rfl ⟨rfl, rfl, trivial⟩ ?_
 intro w0 sc hw hsc
 simp only [enumEnv, enumPre]
 refine e_seq (e_reg (as_ rfl rfl (as_ rfl rfl (l_nil (x_then (e_seq (e_seq (e_reg (mv rfl rfl (dt (d_nc rfl rfl) rfl ?_))))))))))
 refine dt (d_fa rfl rfl Tryz.underlying146 rfl Tryz.sizeOf144 rfl rfl) rfl ?_
 refine dt (d_fa rfl rfl Tryz.underlying144 rfl Tryz.sizeOf29 rfl rfl) rfl ?_
 refine dt (d_lr (i := 1) rfl rfl rfl Tryz.isAgg29 rfl) rfl ?_
 refine dt (d_neq rfl rfl rfl) rfl ?_
 refine l_nil (x_then (e_cond rfl (fun h43 => ?_) (fun h43 => ?_)))
 ·exfalso; simp_all
 ·refine e_skip ?_
  refine x_then (e_seq (e_reg (mv rfl rfl (tt (t_call (n := 3) (poly_trim _ _ (by assumption)) rfl rfl rfl ⟨rfl, trivial⟩ Tryz.call120 (pre_same 2 rfl rfl rfl pre_nil) rfl hw) rfl (fun _ _ => ?_)))))
  refine as_ rfl rfl (as_ rfl rfl (l_nil (x_then (e_ret ?_))))
  exact x_end (.inl rfl) hsc () _ (fun a w hs => res2 hs Tryz.results115 rfl rfl) rfl trivial rfl (give_same 3 rfl rfl rfl give_nil)
end Go.Sky
namespace Go.Sky
open Go.Proofs
set_option maxRecDepth 20000
set_option maxHeartbeats 4000000
set_option linter.unusedVariables false
set_option linter.unusedSimpArgs false
theorem poly_scale (v : Value) (xs : List Int) (c : Int) (hv : Vp xs) (hc : bl c.natAbs ≤ 65536) (hz : ∀ i, bl (cf xs i * c).natAbs ≤ 65536) : Cal Tryz.prog 113 #[v, wv c] [slp 2 wv v xs] true (G := Value) (fun r => True) (fun r => .tuple #[r, .int .i64 0]) (fun r => [slp 2 wv r (pscale xs c)]) := by
 refine cal_in Tryz.func113 rfl Tryz.ntmps113 rfl ⟨rfl, trivial⟩ ?_
 intro w0 sc hw hsc
 simp only [enumEnv, enumPre]
 have hlen := hv.len
 refine e_seq (e_reg (tt (t_box (i := 2) rfl rfl rfl rfl rfl rfl hw) rfl (fun b _ => ?_)))
 refine as_ rfl rfl (as_ rfl rfl (l_nil (x_then (e_seq (e_seq (e_reg (mv rfl rfl (tt (t_call (n := 2) (poly_valid_ok _ _ (by assumption)) rfl rfl rfl ⟨rfl, trivial⟩ Tryz.call56 (pre_same 1 rfl rfl rfl pre_nil) rfl hw) rfl (fun _ _ => ?_)))))))))
 refine dt (d_notb rfl rfl) rfl ?_
 refine mv rfl rfl (gdt (d_lb2 (i := 2) rfl rfl rfl Tryz.isAgg28 Tryz.sizeOf28 rfl rfl) rfl rfl rfl rfl ?_)
 refine gtt (t_call (n := 2) (wide_valid_ok _ (by assumption)) rfl rfl rfl ⟨rfl, trivial⟩ Tryz.call109 pre_nil rfl hw) rfl rfl rfl rfl (fun _ _ => ?_)
 refine gdt (d_notb rfl rfl) rfl rfl rfl rfl ?_
 refine dt (d_pickf rfl rfl rfl) rfl ?_
 refine l_nil (x_then (e_condf rfl ?_))
 refine e_skip ?_
 refine x_then (e_seq (e_reg (tt (t_alloc (i := 3) rfl rfl rfl Tryz.zeroValue146 rfl rfl hw) rfl (fun b_2 _ => ?_))))
 refine l_nil (x_then (e_seq (e_reg (mv rfl rfl (dt (d_len rfl rfl (i := 1) rfl rd_slp Tryz.underlying23) rfl ?_)))))
 refine tt (t_mkn (i := 4) (n := _) (by_ := 24) (enc := wv) 0 rfl rfl rfl rfl rfl rfl Tryz.underlying23 Tryz.ti28 rfl pV.cells pV.pos rfl rfl (by omega) (by decide) rfl hw) rfl (fun v _ => ?_)
 refine as_ rfl rfl (l_nil (x_then (e_seq (e_seq (e_reg (mv rfl rfl (dt (d_len rfl rfl (i := 1) rfl rd_slp Tryz.underlying23) rfl ?_)))))))
 refine mv rfl rfl (l_nil (x_then (e_block (e_lp [(3, _), (6, _), (7, _), (21, _), (22, _)] [(0, _), (1, _), (2, _), (3, _)] (fun (k : Nat) => [(23, .int .i64 (k : Int))]) (fun (k : Nat) => [(4, osl 2 28 wv v (fill xs.length k (fun i => cf xs i * c)))]) (fun (k : Nat) => (k ≤ xs.length)) (fun (k : Nat) => xs.length - k) 0 (by first | omega | (dsimp only <;> omega)) ⟨rfl, rfl, rfl, rfl, rfl, rfl, trivial⟩ ⟨by rw [fill_zero xs.length (fun i => cf xs i * c)]; rfl, rfl, rfl, rfl, rfl, trivial⟩ ?_))))
 rintro k hk
 simp only [List.cons_append, List.nil_append]
 refine e_seq (e_reg (dt (d_lss rfl rfl rfl) rfl ?_))
 refine l_nil (x_then (e_seq (e_cond rfl (fun h159 => ?_) (fun h159 => ?_))))
 ·refine e_skip ?_
  refine x_then (e_seq (e_block (e_seq (e_reg (mv rfl rfl (dt (d_ixa (ii := 1) rfl rfl rfl rfl rd_slp Tryz.underlying23 Tryz.sizeOf28 rfl (by first | omega | (simp only [List.length_set]; omega))) rfl ?_))))))
  refine dt (d_lde (ii := 1) 0 rfl rfl rfl rd_slp pV (by first | omega | (simp only [List.length_set]; omega))) rfl ?_
  refine tt (t_alloc (i := 5) rfl rfl rfl Tryz.zeroValue28 rfl rfl hw) rfl (fun b_3 _ => ?_)
  refine as_ rfl rfl (tt (t_stw (i := 5) rfl rfl rfl rfl rfl (by decide) rfl Tryz.sizeOf28 rfl rfl ⟨(one_rfl rfl), (one_rfl rfl), trivial⟩ rfl hw trivial) rfl (fun _ _ => ?_))
  refine l_nil (x_then (e_reg (mv rfl rfl (mv rfl rfl (dt (d_lb2 (i := 5) rfl rfl rfl Tryz.isAgg28 Tryz.sizeOf28 rfl rfl) rfl ?_)))))
  refine dt (d_lb2 (i := 2) rfl rfl rfl Tryz.isAgg28 Tryz.sizeOf28 rfl rfl) rfl ?_
  refine tt (t_callb (n := 5) (i := 3) (dk_mul _ _ _ (hv.sz.getD _) hc (hz _)) rfl rfl rfl ⟨rfl, rfl, rfl, trivial⟩ Tryz.call114 rfl (by decide) pre_nil rfl hw trivial) rfl (fun _ _ => ?_)
  refine dt (d_ixa (ii := 4) (i := k) rfl rfl rfl rfl (rd_osl pV) Tryz.underlying23 Tryz.sizeOf28 rfl (by rw [length_fill]; omega)) rfl ?_
  refine tt (t_ste (i := 4) (enc := wv) _ rfl rfl rfl rfl rfl rfl (by decide) pV (by rw [length_fill]; omega) rfl hw) rfl (fun _ _ => ?_)
  refine l_nil (x_bn ?_)
  refine x_then (e_reg (dt (d_add rfl rfl rfl ⟨by omega, by omega⟩) rfl ?_))
  refine mv rfl rfl (l_nil ?_)
  exact x_rnd (k + 1) (by first | omega | (dsimp only <;> omega)) (by first | omega | (dsimp only <;> omega)) ⟨rfl, rfl, rfl, rfl, rfl, rfl, trivial⟩ ⟨by rw [← fill_set (by omega)]; rfl, rfl, rfl, rfl, rfl, trivial⟩
 ·refine e_exit ?_
  refine x_exit (x_exit (x_be ?_))
  refine x_then (e_seq ?_)
  obtain rfl : k = xs.length := by omega
  refine e_imp (s_pub 4 rfl rfl pV) ?_
  refine e_imp (s_rbox 3 rfl rfl) ?_
  refine e_reg (mv rfl rfl (tt (t_call (n := 6) (d_done _ _ _ (by rw [fill_all]; exact mk_sz fun i _ => hz i)) rfl rfl rfl ⟨rfl, rfl, trivial⟩ Tryz.call115 (pre_same 3 rfl rfl rfl (pre_same 4 rfl rfl rfl pre_nil)) rfl hw) rfl (fun _ _ => ?_)))
  refine dt (d_ex rfl rfl rfl) rfl ?_
  refine dt (d_ex rfl rfl rfl) rfl ?_
  refine as_ rfl rfl (as_ rfl rfl (l_nil (x_then (e_ret ?_))))
  exact x_end (.inl rfl) hsc _ _ (fun a w hs => res2 hs Tryz.results113 rfl rfl) rfl trivial rfl (give_samee 6 rfl rfl rfl (by rw [pscale_mk] <;> rfl) give_nil)
theorem poly_derive (v : Value) (xs : List Int) (hv : Vp xs) (hz : ∀ i, bl (cf xs (i + 1) * ((i : Int) + 1)).natAbs ≤ 65536) : Cal Tryz.prog 65 #[v] [slp 2 wv v xs] true (G := Value) (fun r => True) (fun r => .tuple #[r, .int .i64 0]) (fun r => [slp 2 wv r (pder xs)]) := by
 refine cal_in Tryz.func65 rfl Tryz.ntmps65 rfl ⟨rfl, trivial⟩ ?_
 intro w0 sc hw hsc
 simp only [enumEnv, enumPre]
 have hlen := hv.len
 refine e_seq (e_reg (as_ rfl rfl (as_ rfl rfl (l_nil (x_then (e_seq (e_seq (e_reg (mv rfl rfl (tt (t_call (n := 1) (poly_valid_ok _ _ (by assumption)) rfl rfl rfl ⟨rfl, trivial⟩ Tryz.call56 (pre_same 1 rfl rfl rfl pre_nil) rfl hw) rfl (fun _ _ => ?_)))))))))))
 refine dt (d_notb rfl rfl) rfl ?_
 refine l_nil (x_then (e_condf rfl ?_))
 refine e_skip ?_
 refine x_then (e_seq (e_seq (e_reg (mv rfl rfl (dt (d_len rfl rfl (i := 1) rfl rd_slp Tryz.underlying23) rfl ?_)))))
 refine dt (d_eql rfl rfl rfl) rfl ?_
 refine l_nil (x_then (e_cond rfl (fun h170 => ?_) (fun h170 => ?_)))
 ·refine e_seq (e_reg (as_ rfl rfl (as_ rfl rfl (l_nil (x_then (e_ret (x_ret ?_)))))))
  exact x_end (.inl rfl) hsc _ _ (fun a w hs => res2 hs Tryz.results65 rfl rfl) rfl trivial rfl (give_none (pder_nil (by omega)) give_nil)
 ·refine e_skip ?_
  refine x_then (e_seq (e_reg (tt (t_alloc (i := 2) rfl rfl rfl Tryz.zeroValue146 rfl rfl hw) rfl (fun b _ => ?_))))
  refine l_nil (x_then (e_seq (e_reg (mv rfl rfl (dt (d_len rfl rfl (i := 1) rfl rd_slp Tryz.underlying23) rfl ?_)))))
  refine dt (d_sub rfl rfl rfl ⟨by omega, by omega⟩) rfl ?_
  refine tt (t_mkn (i := 3) (n := (xs.length - 1)) (by_ := 24) (enc := wv) 0 rfl rfl rfl rfl rfl (by omega) Tryz.underlying23 Tryz.ti28 rfl pV.cells pV.pos rfl rfl (by omega) (by decide) rfl hw) rfl (fun v _ => ?_)
  refine as_ rfl rfl (l_nil (x_then (e_seq (e_seq (e_reg (mv rfl rfl (dt (d_len rfl rfl (i := 3) rfl (rd_osl pV) Tryz.underlying23) rfl ?_)))))))
  refine mv rfl rfl (l_nil (x_then (e_block (e_lp [(0, _), (4, _), (5, _), (18, _)] [(0, _), (1, _), (2, _)] (fun (k : Nat) => [(19, .int .i64 (k : Int))]) (fun (k : Nat) => [(3, osl 2 28 wv v (fill (xs.length - 1) k (fun i => cf xs (i + 1) * ((i : Int) + 1))))]) (fun (k : Nat) => (k ≤ xs.length - 1)) (fun (k : Nat) => xs.length - 1 - k) 0 (by first | omega | (dsimp only <;> omega)) ⟨rfl, rfl, rfl, rfl, rfl, trivial⟩ ⟨by rw [fill_zero (xs.length - 1) (fun i => cf xs (i + 1) * ((i : Int) + 1))]; rfl, rfl, rfl, rfl, trivial⟩ ?_))))
  rintro k hk
  simp only [List.cons_append, List.nil_append]
  have hlf : (fill (xs.length - 1) k (fun i => cf xs (i + 1) * ((i : Int) + 1))).length = xs.length - 1 := length_fill _ _ _
  refine e_seq (e_reg (dt (d_lss rfl rfl rfl) rfl ?_))
  refine l_nil (x_then (e_seq (e_cond rfl (fun h175 => ?_) (fun h175 => ?_))))
  ·try rw [List.length_replicate] at *
   refine e_skip ?_
   refine x_then (e_seq (e_block (e_seq (e_reg (mv rfl rfl (as_ rfl rfl (l_nil (x_then (e_dreg (fun x => x = b) [(0, 0), (1, 0), (2, 0), (3, 0), (4, 0), (5, 0), (6, 0), (7, 0), (8, 0), (9, 1), (10, 1), (11, 0), (12, 3)] (by kernel_rfl) ?_ ?_)))))))))
   ·kernel_rfl
   refine r0' rfl rfl rfl rfl (st1 2 rfl (d_mv rfl rfl)) ?_
   refine r0' rfl rfl rfl rfl (st1 2 rfl (d_mv rfl rfl)) ?_
   refine r0' rfl rfl rfl rfl (st1 2 rfl (d_mv rfl rfl)) ?_
   refine r0' rfl rfl rfl rfl (st1 2 rfl (d_mv rfl rfl)) ?_
   refine r0' rfl rfl rfl rfl (st1 2 rfl (d_add rfl rfl rfl ⟨by omega, by omega⟩)) ?_
   refine r0' rfl rfl rfl rfl (st1 2 rfl (d_ixa (ii := 1) (i := k + 1) rfl rfl rfl rfl rd_slp Tryz.underlying23 Tryz.sizeOf28 (by omega) (by omega))) ?_
   refine r0' rfl rfl rfl rfl (st1 2 rfl (d_lde (ii := 1) 0 rfl rfl rfl rd_slp pV (by omega))) ?_
   refine r0' rfl rfl rfl rfl (st1 2 rfl (d_mv rfl rfl)) ?_
   refine r0' rfl rfl rfl rfl (st1 2 rfl (d_add rfl rfl rfl ⟨by omega, by omega⟩)) ?_
   refine r1' rfl rfl (t_call (n := 3) (wide_of_int _ (by first | assumption | exact ⟨by omega, by omega⟩)) rfl rfl rfl ⟨rfl, trivial⟩ Tryz.call55 pre_nil rfl hw) (fun _ _ => ?_)
   refine r1' rfl rfl (t_callb (n := 3) (i := 2) (dk_mul _ (cf xs (k + 1)) ((k : Int) + 1) (hv.sz _) (Nat.le_trans (bl_mono (n := 32) (by omega)) (by decide)) (hz k)) rfl rfl rfl ⟨rfl, rfl, rfl, trivial⟩ Tryz.call114 rfl (by decide) pre_nil rfl hw rfl) (fun _ _ => ?_)
   refine r0' rfl rfl rfl rfl (st1 2 rfl (d_ixa (ii := 3) (i := k) rfl rfl rfl rfl (rd_osl pV) Tryz.underlying23 Tryz.sizeOf28 rfl (by rw [length_fill]; omega))) ?_
   refine r3' rfl rfl (t_ste (i := 3) (enc := wv) _ rfl rfl rfl rfl rfl rfl (by decide) pV (by rw [length_fill]; omega) rfl hw) (fun _ _ => ?_)
   refine r_end ?_
   refine x_bn ?_
   refine x_then (e_reg (dt (d_add rfl rfl rfl ⟨by omega, by omega⟩) rfl ?_))
   refine mv rfl rfl (l_nil ?_)
   exact x_rnd (k + 1) (by first | omega | (dsimp only <;> omega)) (by first | omega | (dsimp only <;> omega)) ⟨rfl, rfl, rfl, rfl, rfl, trivial⟩ ⟨by rw [← fill_set (by omega)]; rfl, rfl, rfl, rfl, trivial⟩
  ·try rw [List.length_replicate] at *
   refine e_exit ?_
   refine x_exit (x_exit (x_be ?_))
   refine x_then (e_seq ?_)
   obtain rfl : k = xs.length - 1 := by omega
   refine e_imp (s_pub 3 rfl rfl pV) ?_
   refine e_imp (s_rbox 2 rfl rfl) ?_
   refine e_reg (mv rfl rfl (tt (t_call (n := 4) (d_done _ _ _ (by rw [fill_all]; exact mk_sz fun i _ => hz i)) rfl rfl rfl ⟨rfl, rfl, trivial⟩ Tryz.call115 (pre_same 2 rfl rfl rfl (pre_same 3 rfl rfl rfl pre_nil)) rfl hw) rfl (fun _ _ => ?_)))
   refine dt (d_ex rfl rfl rfl) rfl ?_
   refine dt (d_ex rfl rfl rfl) rfl ?_
   refine as_ rfl rfl (as_ rfl rfl (l_nil (x_then (e_ret ?_))))
   exact x_end (.inl rfl) hsc _ _ (fun a w hs => res2 hs Tryz.results65 rfl rfl) rfl trivial rfl (give_samee 4 rfl rfl rfl (by rw [pder_mk hv.tr] <;> rfl) give_nil)
theorem poly_content (v : Value) (xs : List Int) (hv : Vp xs) : Cal Tryz.prog 121 #[v] [slp 2 wv v xs] false (G := Unit) (fun _ => True) (fun _ => .tuple #[wv (pcont xs), .int .i64 0]) (fun _ => []) := by
 refine cal_in Tryz.func121 rfl Tryz.ntmps121 rfl ⟨rfl, trivial⟩ ?_
 intro w0 sc hw hsc
 simp only [enumEnv, enumPre]
 have hlen := hv.len
 have hcb : ∀ k, bl (pcont (xs.take k)).natAbs ≤ 65536 := fun k => pcont_bl _ (hv.sz.take k)
 refine e_seq (e_reg (tt (t_alloc (i := 2) rfl rfl rfl Tryz.zeroValue28 rfl rfl hw) rfl (fun b _ => ?_)))
 refine as_ rfl rfl (l_nil (x_then (e_seq (e_seq (e_reg (mv rfl rfl (tt (t_call (n := 2) (poly_valid_ok _ _ (by assumption)) rfl rfl rfl ⟨rfl, trivial⟩ Tryz.call56 (pre_same 1 rfl rfl rfl pre_nil) rfl hw) rfl (fun _ _ => ?_))))))))
 refine dt (d_notb rfl rfl) rfl ?_
 refine l_nil (x_then (e_condf rfl ?_))
 refine e_skip ?_
 refine x_then (e_seq (e_reg (tt (t_alloc (i := 3) rfl rfl rfl Tryz.zeroValue146 rfl rfl hw) rfl (fun b_2 _ => ?_))))
 refine l_nil (x_then (e_seq (e_reg (tt (t_alloc (i := 4) rfl rfl rfl Tryz.zeroValue28 rfl rfl hw) rfl (fun b_3 _ => ?_)))))
 refine l_nil (x_then (e_seq (e_seq (e_reg (mv rfl rfl (dt (d_len rfl rfl (i := 1) rfl rd_slp Tryz.underlying23) rfl ?_))))))
 refine mv rfl rfl (l_nil (x_then (e_block (e_lp [(2, _), (4, _), (5, _), (12, _), (13, _)] [(0, _), (1, _), (2, _)] (fun (k : Nat) => [(14, .int .i64 (k : Int))]) (fun (k : Nat) => [(4, box b_3 28 #[.bool (decide (pcont (xs.take k) < 0)), .string (bstr (pcont (xs.take k)).natAbs)]), (3, box b_2 146 #[.int .i64 0])]) (fun (k : Nat) => (k ≤ xs.length)) (fun (k : Nat) => xs.length - k) 0 (by first | omega | (dsimp only <;> omega)) ⟨rfl, rfl, rfl, rfl, rfl, rfl, trivial⟩ ⟨rfl, rfl, rfl, rfl, rfl, trivial⟩ ?_))))
 rintro k hk
 simp only [List.cons_append, List.nil_append]
 have hgc := fun h => pcont_take_succ (p := xs) (k := k) h
 refine e_seq (e_reg (dt (d_lss rfl rfl rfl) rfl ?_))
 refine l_nil (x_then (e_seq (e_cond rfl (fun h264 => ?_) (fun h264 => ?_))))
 ·refine e_skip ?_
  refine x_then (e_seq (e_block (e_seq (e_reg (dt (d_ixa (ii := 1) rfl rfl rfl rfl rd_slp Tryz.underlying23 Tryz.sizeOf28 rfl (by first | omega | (simp only [List.length_set]; omega))) rfl ?_)))))
  refine dt (d_lde (ii := 1) 0 rfl rfl rfl rd_slp pV (by first | omega | (simp only [List.length_set]; omega))) rfl ?_
  refine tt (t_alloc (i := 5) rfl rfl rfl Tryz.zeroValue28 rfl rfl hw) rfl (fun b_4 _ => ?_)
  refine tt (t_stw (i := 5) rfl rfl rfl rfl rfl (by decide) rfl Tryz.sizeOf28 rfl rfl ⟨(one_rfl rfl), (one_rfl rfl), trivial⟩ rfl hw trivial) rfl (fun _ _ => ?_)
  refine l_nil (x_then (e_reg (dt (d_fa rfl rfl Tryz.underlying146 rfl Tryz.sizeOf144 rfl rfl) rfl ?_)))
  refine dt (d_lb2 (i := 4) rfl rfl rfl Tryz.isAgg28 Tryz.sizeOf28 rfl rfl) rfl ?_
  refine dt (d_lb2 (i := 5) rfl rfl rfl Tryz.isAgg28 Tryz.sizeOf28 rfl rfl) rfl ?_
  refine tt (t_call (n := 5) (wide_gcd (pcont (xs.take k)) (xs.getD k 0) (hcb _) (hv.sz.getD _)) rfl rfl rfl ⟨rfl, rfl, trivial⟩ Tryz.call147 pre_nil rfl hw) rfl (fun _ _ => ?_)
  refine dt (d_ex rfl rfl rfl) rfl ?_
  refine dt (d_ex rfl rfl rfl) rfl ?_
  refine tt (t_callb (n := 5) (i := 3) (f_note _ _ _ _ _ _) rfl rfl rfl ⟨rfl, rfl, rfl, trivial⟩ Tryz.call144 rfl (by decide) pre_nil rfl hw trivial) rfl (fun _ _ => ?_)
  refine tt (t_stw (i := 4) rfl rfl rfl rfl rfl (by decide) rfl Tryz.sizeOf28 rfl rfl ⟨(one_rfl rfl), (one_rfl rfl), trivial⟩ rfl hw trivial) rfl (fun _ _ => ?_)
  refine l_nil (x_bn ?_)
  refine x_then (e_reg (dt (d_add rfl rfl rfl ⟨by omega, by omega⟩) rfl ?_))
  refine mv rfl rfl (l_nil ?_)
  have hc1 := hcb (k + 1)
  rw [hgc (by omega)] at hc1
  exact x_rnd (k + 1) (by first | omega | (dsimp only <;> omega)) (by first | omega | (dsimp only <;> omega)) ⟨rfl, rfl, rfl, rfl, rfl, rfl, trivial⟩ ⟨by rw [hgc (by omega)]; simp only [clip_ok hc1]; rfl, by simp only [full_ok hc1]; rfl, rfl, rfl, rfl, trivial⟩
 ·refine e_exit ?_
  refine x_exit (x_exit (x_be ?_))
  refine x_then (e_seq (e_dregf [3, 4] [5] (by kernel_rfl) ?_))
  refine a_lin' (n := 0) [(0, 0), (1, 0), (2, 0), (3, 0), (4, 1), (5, 3)] (by kernel_rfl) ?_
  refine r0' rfl rfl rfl rfl (stf (d_lb2 (i := 4) rfl rfl rfl Tryz.isAgg28 Tryz.sizeOf28 rfl rfl) ⟨rfl, rfl, trivial⟩) ?_
  refine r0' rfl rfl rfl rfl (stf (d_fa rfl rfl Tryz.underlying146 rfl Tryz.sizeOf144 rfl rfl) ⟨rfl, rfl, trivial⟩) ?_
  refine r0' rfl rfl rfl rfl (stf (d_fa rfl rfl Tryz.underlying144 rfl Tryz.sizeOf29 rfl rfl) ⟨rfl, rfl, trivial⟩) ?_
  refine r0' rfl rfl rfl rfl (stf (d_lb (i := 3) rfl rfl rfl Tryz.isAgg29 rfl) ⟨rfl, rfl, trivial⟩) ?_
  refine r1' rfl rfl (t_off 2 rfl rfl ⟨rfl, rfl, trivial⟩ (fun hoffb => (t_stw (i := 2) rfl rfl rfl rfl rfl (by decide) rfl Tryz.sizeOf28 rfl rfl ⟨(one_rfl rfl), (one_rfl rfl), trivial⟩ rfl hw hoffb))) (fun _ _ => ?_)
  refine r3' rfl rfl (t_det (d_as rfl rfl) rfl rfl) (fun _ _ => ?_)
  refine r_fin ?_
  refine a_done (by kernel_rfl) ?_
  refine x_then (e_ret ?_)
  exact x_end (.inl rfl) hsc () _ (fun a w hs => res2 hs Tryz.results121 (rv_cell (i := 2) rfl rfl Tryz.isAgg28 Tryz.sizeOf28 rfl) rfl) (by rw [show k = xs.length by omega, List.take_length] <;> rfl) trivial rfl give_nil
theorem poly_quotient (v : Value) (xs : List Int) (c : Int) (hv : Sz 65536 xs) (hlen : xs.length ≤ 1000) (hc : bl c.natAbs ≤ 65536) (hd : ∀ i, c ∣ cf xs i) (hc0 : xs ≠ [] → c ≠ 0) : Cal Tryz.prog 122 #[v, wv c] [slp 2 wv v xs] true (G := Value) (fun r => True) (fun r => .tuple #[r, .int .i64 0]) (fun r => [slp 2 wv r (xs.map (· / c))]) := by
 refine cal_in Tryz.func122 rfl Tryz.ntmps122 rfl ⟨rfl, trivial⟩ ?_
 intro w0 sc hw hsc
 simp only [enumEnv, enumPre]
 refine e_seq (e_reg (tt (t_box (i := 2) rfl rfl rfl rfl rfl rfl hw) rfl (fun b _ => ?_)))
 refine as_ rfl rfl (as_ rfl rfl (l_nil (x_then (e_seq (e_reg (mv rfl rfl (dt (d_len rfl rfl (i := 1) rfl rd_slp Tryz.underlying23) rfl ?_)))))))
 refine tt (t_mkn (i := 3) (n := _) (by_ := 24) (enc := wv) 0 rfl rfl rfl rfl rfl rfl Tryz.underlying23 Tryz.ti28 rfl pV.cells pV.pos rfl rfl (by omega) (by decide) rfl hw) rfl (fun v _ => ?_)
 refine as_ rfl rfl (l_nil (x_then (e_seq (e_seq (e_reg (mv rfl rfl (dt (d_len rfl rfl (i := 1) rfl rd_slp Tryz.underlying23) rfl ?_)))))))
 refine mv rfl rfl (l_nil (x_then (e_block (e_lp [(3, _), (6, _), (15, _), (16, _)] [(0, _), (1, _), (2, _)] (fun (k : Nat) => [(17, .int .i64 (k : Int))]) (fun (k : Nat) => [(3, osl 2 28 wv v (fill xs.length k (fun i => cf xs i / c)))]) (fun (k : Nat) => (k ≤ xs.length)) (fun (k : Nat) => xs.length - k) 0 (by first | omega | (dsimp only <;> omega)) ⟨rfl, rfl, rfl, rfl, rfl, trivial⟩ ⟨by rw [fill_zero xs.length (fun i => cf xs i / c)]; rfl, rfl, rfl, rfl, trivial⟩ ?_))))
 rintro k hk
 simp only [List.cons_append, List.nil_append]
 have hcl : clip (xs.getD k 0 / c) = cf xs k / c := clip_ok (ediv_bl_le (hd k) (hv k))
 refine e_seq (e_reg (dt (d_lss rfl rfl rfl) rfl ?_))
 refine l_nil (x_then (e_seq (e_cond rfl (fun h273 => ?_) (fun h273 => ?_))))
 ·refine e_skip ?_
  refine x_then (e_seq (e_block (e_seq (e_reg (mv rfl rfl (dt (d_ixa (ii := 1) rfl rfl rfl rfl rd_slp Tryz.underlying23 Tryz.sizeOf28 rfl (by first | omega | (simp only [List.length_set]; omega))) rfl ?_))))))
  refine dt (d_lde (ii := 1) 0 rfl rfl rfl rd_slp pV (by first | omega | (simp only [List.length_set]; omega))) rfl ?_
  refine tt (t_alloc (i := 4) rfl rfl rfl Tryz.zeroValue28 rfl rfl hw) rfl (fun b_2 _ => ?_)
  refine as_ rfl rfl (tt (t_stw (i := 4) rfl rfl rfl rfl rfl (by decide) rfl Tryz.sizeOf28 rfl rfl ⟨(one_rfl rfl), (one_rfl rfl), trivial⟩ rfl hw trivial) rfl (fun _ _ => ?_))
  refine l_nil (x_then (e_seq (e_reg (dt (d_lb2 (i := 4) rfl rfl rfl Tryz.isAgg28 Tryz.sizeOf28 rfl rfl) rfl ?_))))
  refine dt (d_lb2 (i := 2) rfl rfl rfl Tryz.isAgg28 Tryz.sizeOf28 rfl rfl) rfl ?_
  refine tt (t_call (n := 4) (wide_quo _ _ (hv.getD _) hc (hc0 (by intro e; rw [e] at h273; simp at h273; omega))) rfl rfl rfl ⟨rfl, rfl, trivial⟩ Tryz.call53 pre_nil rfl hw) rfl (fun _ _ => ?_)
  refine mv rfl rfl (dt (d_ex rfl rfl rfl) rfl ?_)
  refine dt (d_ex rfl rfl rfl) rfl ?_
  refine dt (d_ex rfl rfl rfl) rfl ?_
  refine tt (t_alloc (i := 5) rfl rfl rfl Tryz.zeroValue28 rfl rfl hw) rfl (fun b_3 _ => ?_)
  refine tt (t_alloc (i := 6) rfl rfl rfl Tryz.zeroValue28 rfl rfl hw) rfl (fun b_4 _ => ?_)
  refine tt (t_stw (i := 5) rfl rfl rfl rfl rfl (by decide) rfl Tryz.sizeOf28 rfl rfl ⟨(one_rfl rfl), (one_rfl rfl), trivial⟩ rfl hw trivial) rfl (fun _ _ => ?_)
  refine tt (t_stw (i := 6) rfl rfl rfl rfl rfl (by decide) rfl Tryz.sizeOf28 rfl rfl ⟨(one_rfl rfl), (one_rfl rfl), trivial⟩ rfl hw trivial) rfl (fun _ _ => ?_)
  refine as_ rfl rfl (l_nil (x_then (e_seq (e_seq (e_reg (mv rfl rfl (dt (d_neq rfl rfl rfl) rfl ?_)))))))
  refine l_nil (x_then (e_cond rfl (fun h275 => ?_) (fun h275 => ?_)))
  ·exfalso; simp_all
  ·refine e_skip ?_
   refine x_then (e_reg (mv rfl rfl (mv rfl rfl (dt (d_lb2 (i := 5) rfl rfl rfl Tryz.isAgg28 Tryz.sizeOf28 rfl rfl) rfl ?_))))
   refine dt (d_ixa (ii := 3) (i := k) rfl rfl rfl rfl (rd_osl pV) Tryz.underlying23 Tryz.sizeOf28 rfl (by rw [length_fill]; omega)) rfl ?_
   refine tt (t_ste (i := 3) (enc := wv) _ rfl rfl rfl rfl rfl rfl (by decide) pV (by rw [length_fill]; omega) rfl hw) rfl (fun _ _ => ?_)
   refine l_nil (x_bn ?_)
   refine x_then (e_reg (dt (d_add rfl rfl rfl ⟨by omega, by omega⟩) rfl ?_))
   refine mv rfl rfl (l_nil ?_)
   exact x_rnd (k + 1) (by first | omega | (dsimp only <;> omega)) (by first | omega | (dsimp only <;> omega)) ⟨rfl, rfl, rfl, rfl, rfl, trivial⟩ ⟨by rw [← fill_set (by omega)]; simp only [hcl]; rfl, rfl, rfl, rfl, trivial⟩
 ·refine e_exit ?_
  refine x_exit (x_exit (x_be ?_))
  refine x_then (e_seq (e_reg (mv rfl rfl (as_ rfl rfl (as_ rfl rfl (l_nil (x_then (e_ret ?_))))))))
  obtain rfl : k = xs.length := by omega
  exact x_end (.inl rfl) hsc _ _ (fun a w hs => res2 hs Tryz.results122 rfl rfl) rfl trivial rfl (give_owne 3 rfl rfl pV (by rw [fill_all, mk_map xs (· / c)] <;> rfl) give_nil)
theorem poly_primitive (v : Value) (xs : List Int) (hv : Vp xs) : Cal Tryz.prog 68 #[v] [slp 2 wv v xs] true (G := Value) (fun r => True) (fun r => .tuple #[r, .int .i64 0]) (fun r => [slp 2 wv r (pprim xs)]) := by
 refine cal_in Tryz.func68 rfl Tryz.ntmps68 rfl ⟨rfl, trivial⟩ ?_
 intro w0 sc hw hsc
 simp only [enumEnv, enumPre]
 have hlen := hv.len
 refine e_seq (e_reg (as_ rfl rfl (as_ rfl rfl (l_nil (x_then (e_seq (e_reg (mv rfl rfl (tt (t_call (n := 1) (poly_content _ _ (by assumption)) rfl rfl rfl ⟨rfl, trivial⟩ Tryz.call121 (pre_same 1 rfl rfl rfl pre_nil) rfl hw) rfl (fun _ _ => ?_))))))))))
 refine mv rfl rfl (dt (d_ex rfl rfl rfl) rfl ?_)
 refine dt (d_ex rfl rfl rfl) rfl ?_
 refine tt (t_alloc (i := 2) rfl rfl rfl Tryz.zeroValue28 rfl rfl hw) rfl (fun b _ => ?_)
 refine tt (t_stw (i := 2) rfl rfl rfl rfl rfl (by decide) rfl Tryz.sizeOf28 rfl rfl ⟨(one_rfl rfl), (one_rfl rfl), trivial⟩ rfl hw trivial) rfl (fun _ _ => ?_)
 refine as_ rfl rfl (l_nil (x_then (e_seq (e_seq (e_reg (mv rfl rfl (dt (d_neq rfl rfl rfl) rfl ?_)))))))
 refine l_nil (x_then (e_cond rfl (fun h286 => ?_) (fun h286 => ?_)))
 ·exfalso; simp_all
 ·refine e_skip ?_
  refine x_then (e_seq (e_reg (mv rfl rfl (dt (d_lb2 (i := 2) rfl rfl rfl Tryz.isAgg28 Tryz.sizeOf28 rfl rfl) rfl ?_))))
  refine tt (t_call (n := 3) (poly_quotient _ _ _ hv.sz (by omega) (pcont_bl _ hv.sz) (pcont_dvd _) hv.ne) rfl rfl rfl ⟨rfl, rfl, trivial⟩ Tryz.call122 (pre_same 1 rfl rfl rfl pre_nil) rfl hw) rfl (fun _ _ => ?_)
  refine dt (d_ex rfl rfl rfl) rfl ?_
  refine dt (d_ex rfl rfl rfl) rfl ?_
  refine as_ rfl rfl (as_ rfl rfl (l_nil (x_then (e_ret ?_))))
  exact x_end (.inl rfl) hsc _ _ (fun a w hs => res2 hs Tryz.results68 rfl rfl) rfl trivial rfl (give_samee 3 rfl rfl rfl rfl give_nil)
theorem poly_eval (v : Value) (xs : List Int) (x y : Int) (hv : Vp xs) (hx : bl x.natAbs ≤ 65536) (hy : bl y.natAbs ≤ 65536) (hy0 : 0 < y) : Cal Tryz.prog 150 #[v, .agg #[.bool (decide (x < 0)), .string (bstr x.natAbs), .bool (decide (y < 0)), .string (bstr y.natAbs)]] [slp 2 wv v xs] false (G := Unit) (fun _ => True) (fun _ => .tuple #[wv (evv xs x y), .int .i64 (eve xs x y)]) (fun _ => []) := by
 refine cal_in Tryz.func150 rfl Tryz.ntmps150 rfl ⟨rfl, trivial⟩ ?_
 intro w0 sc hw hsc
 simp only [enumEnv, enumPre]
 have hlen := hv.len
 refine e_seq (e_reg (tt (t_box (i := 2) rfl rfl rfl rfl rfl rfl hw) rfl (fun b _ => ?_)))
 refine tt (t_alloc (i := 3) rfl rfl rfl Tryz.zeroValue28 rfl rfl hw) rfl (fun b_2 _ => ?_)
 refine as_ rfl rfl (l_nil (x_then (e_seq (e_seq (e_reg (mv rfl rfl (tt (t_call (n := 3) (poly_valid_ok _ _ (by assumption)) rfl rfl rfl ⟨rfl, trivial⟩ Tryz.call56 (pre_same 1 rfl rfl rfl pre_nil) rfl hw) rfl (fun _ _ => ?_))))))))
 refine dt (d_notb rfl rfl) rfl ?_
 refine mv rfl rfl (gdt (d_lb4 (i := 2) rfl rfl rfl Tryz.isAgg49 Tryz.sizeOf49 rfl rfl rfl rfl) rfl rfl rfl rfl ?_)
 refine gtt (t_call (n := 3) (wide_validratio_ok _ _ (by assumption) (by assumption) (by assumption)) rfl rfl rfl ⟨rfl, trivial⟩ Tryz.call98 pre_nil rfl hw) rfl rfl rfl rfl (fun _ _ => ?_)
 refine gdt (d_notb rfl rfl) rfl rfl rfl rfl ?_
 refine dt (d_pickf rfl rfl rfl) rfl ?_
 refine l_nil (x_then (e_condf rfl ?_))
 refine e_skip ?_
 refine x_then (e_seq (e_seq (e_reg (mv rfl rfl (dt (d_len rfl rfl (i := 1) rfl rd_slp Tryz.underlying23) rfl ?_)))))
 refine dt (d_eql rfl rfl rfl) rfl ?_
 refine l_nil (x_then (e_cond rfl (fun h186 => ?_) (fun h186 => ?_)))
 ·refine e_seq (e_reg (dt (d_bld (ivs := []) rfl trivial (fun a w hs => b28_)) rfl ?_))
  refine tt (t_stw (i := 3) rfl rfl rfl rfl rfl (by decide) rfl Tryz.sizeOf28 rfl rfl ⟨(one_rfl rfl), (one_rfl rfl), trivial⟩ rfl hw trivial) rfl (fun _ _ => ?_)
  refine as_ rfl rfl (l_nil (x_then (e_ret (x_ret ?_))))
  exact x_end (.inl rfl) hsc () _ (fun a w hs => res2 hs Tryz.results150 (rv_cell (i := 3) rfl rfl Tryz.isAgg28 Tryz.sizeOf28 rfl) rfl) (by rw [List.eq_nil_of_length_eq_zero (l := xs) (by omega)]; rfl) trivial rfl give_nil
 ·have hne : xs ≠ [] := fun e => by rw [e] at h186; simp at h186
  have hm1 := msz_le hv.sz
  have hsxy : Sz 65536 [x, y] := Sz.of_mem (by intro z hz; simp at hz; rcases hz with rfl | rfl <;> assumption)
  have hm2 := msz_le hsxy
  have hm3 : (xs.length - 1) * msz [x, y] ≤ 24 * 65536 := Nat.mul_le_mul (by omega) hm2
  have hm4 : ((xs.length : Int) - 1) * (msz [x, y] : Int) = (((xs.length - 1) * msz [x, y] : Nat) : Int) := by rw [Int.natCast_mul]; congr 1; omega
  refine e_skip ?_
  refine x_then (e_seq (e_jn [(0, _), (3, _), (4, _)] [(0, _), (1, _), (2, _), (3, _)] (fun (_ : Unit) => [(37, .bool (decide ((65536 : Int) < (msz xs : Int) + ((xs.length : Int) - 1) * (msz [x, y] : Int) + 8)))]) (fun (_ : Unit) => []) (fun (_ : Unit) => True) ⟨rfl, rfl, rfl, trivial⟩ ⟨rfl, rfl, rfl, rfl, trivial⟩ ?_ ?_))
  ·refine e_drega (fun _ => False) [] (by kernel_rfl) ?_
   refine a_lin' (n := 7) [(0, 0), (2, 0), (3, 0), (4, 0), (5, 0), (6, 0), (7, 0), (8, 0)] (by kernel_rfl) ?_
   refine r0' rfl rfl rfl rfl (st0 (d_mv rfl rfl)) ?_
   refine r0' rfl rfl rfl rfl (st0 (d_mv rfl rfl)) ?_
   refine r0' rfl rfl rfl rfl (st0 (d_len rfl rfl (i := 1) rfl rd_slp Tryz.underlying23)) ?_
   refine r0' rfl rfl rfl rfl (st0 (d_sub rfl rfl rfl ⟨by omega, by omega⟩)) ?_
   refine r0' rfl rfl rfl rfl (st0 (d_fa rfl rfl Tryz.underlying49 rfl Tryz.sizeOf28 rfl rfl)) ?_
   refine r0' rfl rfl rfl rfl (st0 (d_lb2 (i := 2) rfl rfl rfl Tryz.isAgg28 Tryz.sizeOf28 rfl rfl)) ?_
   refine r0' rfl rfl rfl rfl (st0 (d_fa rfl rfl Tryz.underlying49 rfl Tryz.sizeOf28 rfl rfl)) ?_
   refine r0' rfl rfl rfl rfl (st0 (d_lb2 (i := 2) rfl rfl rfl Tryz.isAgg28 Tryz.sizeOf28 rfl rfl)) ?_
   refine r_fin ?_
   refine a_br2 (n := 6) 1 9 (by kernel_rfl) ?_ ?_
   ·refine aact' rfl rfl (t_call (n := 3) (poly_size _ _ (by first | exact hv.sz | exact hsxy)) rfl rfl rfl ⟨rfl, trivial⟩ Tryz.call110 (pre_same 1 rfl rfl rfl pre_nil) rfl hw) (fun _ _ => ?_)
    refine a_lin' (n := 0) [(9, 1), (10, 1), (11, 0), (12, 0), (13, 0), (14, 0)] (by kernel_rfl) ?_
    refine r1' rfl rfl (t_bsg (i := 90) (ivs := [(0, _), (1, _)]) (enc := wv) [x, y] rfl rfl rfl ⟨rfl, rfl, rfl, rfl, trivial⟩ Tryz.underlying22 Tryz.ti28 rfl rfl rfl rfl rfl rfl pV.cells rfl rfl hw) (fun v _ => ?_)
    refine r1' rfl rfl (t_call (n := 3) (poly_size _ _ (by first | exact hv.sz | exact hsxy)) rfl rfl rfl ⟨rfl, trivial⟩ Tryz.call110 (pre_lend 90 rfl rfl pV pre_nil) rfl hw) (fun _ _ => ?_)
    refine r0' rfl rfl rfl rfl (st0 (d_mul rfl rfl rfl (by rw [hm4]; exact ⟨by omega, by omega⟩))) ?_
    refine r0' rfl rfl rfl rfl (st0 (d_add rfl rfl rfl (by rw [hm4]; exact ⟨by omega, by omega⟩))) ?_
    refine r0' rfl rfl rfl rfl (st0 (d_add rfl rfl rfl (by rw [hm4]; exact ⟨by omega, by omega⟩))) ?_
    refine r0' rfl rfl rfl rfl (st0 (d_gtr rfl rfl rfl)) ?_
    refine r_fin ?_
    refine a_done (by kernel_rfl) ?_
    exact x_jn () trivial ⟨rfl, rfl, rfl, rfl, trivial⟩ ⟨rfl, rfl, rfl, rfl, trivial⟩
   ·refine aact' rfl rfl (t_bsg (i := 90) (ivs := [(0, _), (1, _)]) (enc := wv) [x, y] rfl rfl rfl ⟨rfl, rfl, rfl, rfl, trivial⟩ Tryz.underlying22 Tryz.ti28 rfl rfl rfl rfl rfl rfl pV.cells rfl rfl hw) (fun v_2 _ => ?_)
    refine a_lin' (n := 0) [(1, 1), (10, 1), (11, 0), (12, 0), (13, 0), (14, 0)] (by kernel_rfl) ?_
    refine r1' rfl rfl (t_call (n := 3) (poly_size _ _ (by first | exact hv.sz | exact hsxy)) rfl rfl rfl ⟨rfl, trivial⟩ Tryz.call110 (pre_same 1 rfl rfl rfl pre_nil) rfl hw) (fun _ _ => ?_)
    refine r1' rfl rfl (t_call (n := 3) (poly_size _ _ (by first | exact hv.sz | exact hsxy)) rfl rfl rfl ⟨rfl, trivial⟩ Tryz.call110 (pre_lend 90 rfl rfl pV pre_nil) rfl hw) (fun _ _ => ?_)
    refine r0' rfl rfl rfl rfl (st0 (d_mul rfl rfl rfl (by rw [hm4]; exact ⟨by omega, by omega⟩))) ?_
    refine r0' rfl rfl rfl rfl (st0 (d_add rfl rfl rfl (by rw [hm4]; exact ⟨by omega, by omega⟩))) ?_
    refine r0' rfl rfl rfl rfl (st0 (d_add rfl rfl rfl (by rw [hm4]; exact ⟨by omega, by omega⟩))) ?_
    refine r0' rfl rfl rfl rfl (st0 (d_gtr rfl rfl rfl)) ?_
    refine r_fin ?_
    refine a_done (by kernel_rfl) ?_
    exact x_jn () trivial ⟨rfl, rfl, rfl, rfl, trivial⟩ ⟨rfl, rfl, rfl, rfl, trivial⟩
  ·rintro _ -
   simp only [List.cons_append, List.nil_append]
   refine e_cond rfl (fun h189 => ?_) (fun h189 => ?_)
   ·have hE : evfull xs x y := ⟨hne, by rw [hm4] at h189; omega⟩
    refine e_seq (e_reg (dt (d_bld (ivs := []) rfl trivial (fun a w hs => b28_)) rfl ?_))
    refine tt (t_stw (i := 3) rfl rfl rfl rfl rfl (by decide) rfl Tryz.sizeOf28 rfl rfl ⟨(one_rfl rfl), (one_rfl rfl), trivial⟩ rfl hw trivial) rfl (fun _ _ => ?_)
    refine as_ rfl rfl (l_nil (x_then (e_ret (x_ret ?_))))
    exact x_end (.inl rfl) hsc () _ (fun a w hs => res2 hs Tryz.results150 (rv_cell (i := 3) rfl rfl Tryz.isAgg28 Tryz.sizeOf28 rfl) rfl) (by unfold evv eve; rw [if_pos hE, if_pos hE] <;> rfl) trivial rfl give_nil
   ·have hF : msz xs + (xs.length - 1) * msz [x, y] + 8 ≤ 65536 := by rw [hm4] at h189; omega
    refine e_skip ?_
    refine x_then (e_seq (e_reg (tt (t_alloc (i := 4) rfl rfl rfl Tryz.zeroValue146 rfl rfl hw) rfl (fun b_3 _ => ?_))))
    refine l_nil (x_then (e_jn [(0, _), (3, _), (4, _), (6, _)] [(0, _), (1, _), (2, _), (3, _), (4, _)] (fun (q : Nat × Nat) => [(7, .pointer (some ⟨q.1, 0, none⟩)), (8, .pointer (some ⟨q.2, 0, none⟩))]) (fun (q : Nat × Nat) => [(97, box q.1 28 (wc (xs.getD (xs.length - 1) 0))), (98, box q.2 28 (wc 1))]) (fun (q : Nat × Nat) => True) ⟨rfl, rfl, rfl, rfl, trivial⟩ ⟨rfl, rfl, rfl, rfl, rfl, trivial⟩ ?_ ?_))
    ·refine e_drega (fun _ => False) [9, 10] (by kernel_rfl) ?_
     refine a_lin' (n := 5) [(0, 0), (1, 0), (2, 0), (3, 0), (4, 0), (5, 0)] (by kernel_rfl) ?_
     refine r0' rfl rfl rfl rfl (st0 (d_mv rfl rfl)) ?_
     refine r0' rfl rfl rfl rfl (st0 (d_mv rfl rfl)) ?_
     refine r0' rfl rfl rfl rfl (st0 (d_len rfl rfl (i := 1) rfl rd_slp Tryz.underlying23)) ?_
     refine r0' rfl rfl rfl rfl (st0 (d_sub rfl rfl rfl ⟨by omega, by omega⟩)) ?_
     refine r0' rfl rfl rfl rfl (st0 (d_ixa (ii := 1) (i := (xs.length - 1)) rfl rfl rfl rfl rd_slp Tryz.underlying23 Tryz.sizeOf28 (by omega) (by omega))) ?_
     refine r0' rfl rfl rfl rfl (st0 (d_lde (ii := 1) 0 rfl rfl rfl rd_slp pV (by omega))) ?_
     refine r_fin ?_
     refine a_br3 (n := 4) 6 7 8 (by kernel_rfl) ?_ ?_ ?_
     ·refine aact' rfl rfl (t_call (n := 4) (wide_of_int _ (by first | assumption | exact ⟨by omega, by omega⟩)) rfl rfl rfl ⟨rfl, trivial⟩ Tryz.call55 pre_nil rfl hw) (fun _ _ => ?_)
      refine a_br2 (n := 3) 7 8 (by kernel_rfl) ?_ ?_
      ·refine aact' rfl rfl (t_alloc (i := 97) rfl rfl rfl Tryz.zeroValue28 rfl rfl hw) (fun b_4 _ => ?_)
       refine a_lin' (n := 0) [(8, 1), (9, 3), (10, 3)] (by kernel_rfl) ?_
       refine r1' rfl rfl (t_alloc (i := 98) rfl rfl rfl Tryz.zeroValue28 rfl rfl hw) (fun b_5 _ => ?_)
       refine r3' rfl rfl (t_stw (i := 97) rfl rfl rfl rfl rfl (by decide) rfl Tryz.sizeOf28 rfl rfl ⟨(one_rfl rfl), (one_rfl rfl), trivial⟩ rfl hw trivial) (fun _ _ => ?_)
       refine r3' rfl rfl (t_stw (i := 98) rfl rfl rfl rfl rfl (by decide) rfl Tryz.sizeOf28 rfl rfl ⟨(one_rfl rfl), (one_rfl rfl), trivial⟩ rfl hw trivial) (fun _ _ => ?_)
       refine r_fin ?_
       refine a_done (by kernel_rfl) ?_
       exact x_jn (_, _) trivial ⟨rfl, rfl, rfl, rfl, rfl, rfl, trivial⟩ ⟨rfl, rfl, rfl, rfl, rfl, rfl, rfl, trivial⟩
      ·refine aact' rfl rfl (t_alloc (i := 98) rfl rfl rfl Tryz.zeroValue28 rfl rfl hw) (fun b_6 _ => ?_)
       refine a_lin' (n := 0) [(7, 1), (9, 3), (10, 3)] (by kernel_rfl) ?_
       refine r1' rfl rfl (t_alloc (i := 97) rfl rfl rfl Tryz.zeroValue28 rfl rfl hw) (fun b_7 _ => ?_)
       refine r3' rfl rfl (t_stw (i := 97) rfl rfl rfl rfl rfl (by decide) rfl Tryz.sizeOf28 rfl rfl ⟨(one_rfl rfl), (one_rfl rfl), trivial⟩ rfl hw trivial) (fun _ _ => ?_)
       refine r3' rfl rfl (t_stw (i := 98) rfl rfl rfl rfl rfl (by decide) rfl Tryz.sizeOf28 rfl rfl ⟨(one_rfl rfl), (one_rfl rfl), trivial⟩ rfl hw trivial) (fun _ _ => ?_)
       refine r_fin ?_
       refine a_done (by kernel_rfl) ?_
       exact x_jn (_, _) trivial ⟨rfl, rfl, rfl, rfl, rfl, rfl, trivial⟩ ⟨rfl, rfl, rfl, rfl, rfl, rfl, rfl, trivial⟩
     ·refine aact' rfl rfl (t_alloc (i := 97) rfl rfl rfl Tryz.zeroValue28 rfl rfl hw) (fun b_8 _ => ?_)
      refine a_br2 (n := 3) 6 8 (by kernel_rfl) ?_ ?_
      ·refine aact' rfl rfl (t_call (n := 4) (wide_of_int _ (by first | assumption | exact ⟨by omega, by omega⟩)) rfl rfl rfl ⟨rfl, trivial⟩ Tryz.call55 pre_nil rfl hw) (fun _ _ => ?_)
       refine a_lin' (n := 0) [(8, 1), (9, 3), (10, 3)] (by kernel_rfl) ?_
       refine r1' rfl rfl (t_alloc (i := 98) rfl rfl rfl Tryz.zeroValue28 rfl rfl hw) (fun b_9 _ => ?_)
       refine r3' rfl rfl (t_stw (i := 97) rfl rfl rfl rfl rfl (by decide) rfl Tryz.sizeOf28 rfl rfl ⟨(one_rfl rfl), (one_rfl rfl), trivial⟩ rfl hw trivial) (fun _ _ => ?_)
       refine r3' rfl rfl (t_stw (i := 98) rfl rfl rfl rfl rfl (by decide) rfl Tryz.sizeOf28 rfl rfl ⟨(one_rfl rfl), (one_rfl rfl), trivial⟩ rfl hw trivial) (fun _ _ => ?_)
       refine r_fin ?_
       refine a_done (by kernel_rfl) ?_
       exact x_jn (_, _) trivial ⟨rfl, rfl, rfl, rfl, rfl, rfl, trivial⟩ ⟨rfl, rfl, rfl, rfl, rfl, rfl, rfl, trivial⟩
      ·refine aact' rfl rfl (t_alloc (i := 98) rfl rfl rfl Tryz.zeroValue28 rfl rfl hw) (fun b_10 _ => ?_)
       refine a_lin' (n := 0) [(6, 1), (9, 3), (10, 3)] (by kernel_rfl) ?_
       refine r1' rfl rfl (t_call (n := 4) (wide_of_int _ (by first | assumption | exact ⟨by omega, by omega⟩)) rfl rfl rfl ⟨rfl, trivial⟩ Tryz.call55 pre_nil rfl hw) (fun _ _ => ?_)
       refine r3' rfl rfl (t_stw (i := 97) rfl rfl rfl rfl rfl (by decide) rfl Tryz.sizeOf28 rfl rfl ⟨(one_rfl rfl), (one_rfl rfl), trivial⟩ rfl hw trivial) (fun _ _ => ?_)
       refine r3' rfl rfl (t_stw (i := 98) rfl rfl rfl rfl rfl (by decide) rfl Tryz.sizeOf28 rfl rfl ⟨(one_rfl rfl), (one_rfl rfl), trivial⟩ rfl hw trivial) (fun _ _ => ?_)
       refine r_fin ?_
       refine a_done (by kernel_rfl) ?_
       exact x_jn (_, _) trivial ⟨rfl, rfl, rfl, rfl, rfl, rfl, trivial⟩ ⟨rfl, rfl, rfl, rfl, rfl, rfl, rfl, trivial⟩
     ·refine aact' rfl rfl (t_alloc (i := 98) rfl rfl rfl Tryz.zeroValue28 rfl rfl hw) (fun b_11 _ => ?_)
      refine a_br2 (n := 3) 6 7 (by kernel_rfl) ?_ ?_
      ·refine aact' rfl rfl (t_call (n := 4) (wide_of_int _ (by first | assumption | exact ⟨by omega, by omega⟩)) rfl rfl rfl ⟨rfl, trivial⟩ Tryz.call55 pre_nil rfl hw) (fun _ _ => ?_)
       refine a_lin' (n := 0) [(7, 1), (9, 3), (10, 3)] (by kernel_rfl) ?_
       refine r1' rfl rfl (t_alloc (i := 97) rfl rfl rfl Tryz.zeroValue28 rfl rfl hw) (fun b_12 _ => ?_)
       refine r3' rfl rfl (t_stw (i := 97) rfl rfl rfl rfl rfl (by decide) rfl Tryz.sizeOf28 rfl rfl ⟨(one_rfl rfl), (one_rfl rfl), trivial⟩ rfl hw trivial) (fun _ _ => ?_)
       refine r3' rfl rfl (t_stw (i := 98) rfl rfl rfl rfl rfl (by decide) rfl Tryz.sizeOf28 rfl rfl ⟨(one_rfl rfl), (one_rfl rfl), trivial⟩ rfl hw trivial) (fun _ _ => ?_)
       refine r_fin ?_
       refine a_done (by kernel_rfl) ?_
       exact x_jn (_, _) trivial ⟨rfl, rfl, rfl, rfl, rfl, rfl, trivial⟩ ⟨rfl, rfl, rfl, rfl, rfl, rfl, rfl, trivial⟩
      ·refine aact' rfl rfl (t_alloc (i := 97) rfl rfl rfl Tryz.zeroValue28 rfl rfl hw) (fun b_13 _ => ?_)
       refine a_lin' (n := 0) [(6, 1), (9, 3), (10, 3)] (by kernel_rfl) ?_
       refine r1' rfl rfl (t_call (n := 4) (wide_of_int _ (by first | assumption | exact ⟨by omega, by omega⟩)) rfl rfl rfl ⟨rfl, trivial⟩ Tryz.call55 pre_nil rfl hw) (fun _ _ => ?_)
       refine r3' rfl rfl (t_stw (i := 97) rfl rfl rfl rfl rfl (by decide) rfl Tryz.sizeOf28 rfl rfl ⟨(one_rfl rfl), (one_rfl rfl), trivial⟩ rfl hw trivial) (fun _ _ => ?_)
       refine r3' rfl rfl (t_stw (i := 98) rfl rfl rfl rfl rfl (by decide) rfl Tryz.sizeOf28 rfl rfl ⟨(one_rfl rfl), (one_rfl rfl), trivial⟩ rfl hw trivial) (fun _ _ => ?_)
       refine r_fin ?_
       refine a_done (by kernel_rfl) ?_
       exact x_jn (_, _) trivial ⟨rfl, rfl, rfl, rfl, rfl, rfl, trivial⟩ ⟨rfl, rfl, rfl, rfl, rfl, rfl, rfl, trivial⟩
    ·rintro ⟨b7, b8⟩ -
     simp only [List.cons_append, List.nil_append]
     refine e_seq (e_seq (e_reg (mv rfl rfl (dt (d_len rfl rfl (i := 1) rfl rd_slp Tryz.underlying23) rfl ?_))))
     refine dt (d_sub rfl rfl rfl ⟨by omega, by omega⟩) rfl ?_
     refine as_ rfl rfl (l_nil (x_then (e_block (e_lp [(0, _), (3, _), (4, _), (6, _), (7, _), (8, _)] [(0, _), (1, _), (2, _), (3, _), (4, _)] (fun (k : Nat) => [(9, .int .i64 ((k : Int) - 1))]) (fun (k : Nat) => [(97, box b7 28 (wc (hor xs x y k))), (98, box b8 28 (wc (y ^ (xs.length - 1 - k))))]) (fun (k : Nat) => (k ≤ xs.length - 1)) (fun (k : Nat) => k) (xs.length - 1) (by first | omega | (dsimp only <;> omega)) ⟨by rw [show ((xs.length - 1 : Nat) : Int) - 1 = (xs.length : Int) - 2 by omega]; rfl, rfl, rfl, rfl, rfl, rfl, rfl, trivial⟩ ⟨by rw [hor_top x y (by omega)]; rfl, by rw [Nat.sub_self, Int.pow_zero]; rfl, rfl, rfl, rfl, rfl, rfl, trivial⟩ ?_))))
     rintro k hk
     simp only [List.cons_append, List.nil_append]
     refine e_seq (e_seq (e_reg (mv rfl rfl (dt (d_geq rfl rfl rfl) rfl ?_))))
     refine l_nil (x_then (e_cond rfl (fun h194 => ?_) (fun h194 => ?_)))
     ·have hpw : y ^ (xs.length - 1 - k) * y = y ^ (xs.length - 1 - (k - 1)) := pow_step y (by omega) hk
      have hst : hor xs x y k * x + xs.getD (k - 1) 0 * y ^ (xs.length - 1 - (k - 1)) = hor xs x y (k - 1) := hor_step' x y (by omega) hk
      refine e_skip ?_
      refine x_then (e_seq (e_block (e_seq (e_reg (dt (d_lb2 (i := 98) rfl rfl rfl Tryz.isAgg28 Tryz.sizeOf28 rfl rfl) rfl ?_)))))
      refine dt (d_fa rfl rfl Tryz.underlying49 rfl Tryz.sizeOf28 rfl rfl) rfl ?_
      refine dt (d_lb2 (i := 2) rfl rfl rfl Tryz.isAgg28 Tryz.sizeOf28 rfl rfl) rfl ?_
      refine tt (t_callb (n := 4) (i := 4) (dk_mul _ _ _ (ev_pow hF) hy (by rw [hpw]; exact ev_pow hF)) rfl rfl rfl ⟨rfl, rfl, rfl, trivial⟩ Tryz.call114 rfl (by decide) pre_nil rfl hw trivial) rfl (fun _ _ => ?_)
      refine tt (t_stw (i := 98) rfl rfl rfl rfl rfl (by decide) rfl Tryz.sizeOf28 rfl rfl ⟨(one_rfl rfl), (one_rfl rfl), trivial⟩ rfl hw trivial) rfl (fun _ _ => ?_)
      refine l_nil (x_then (e_dreg (fun x => x = b_3) [(0, 0), (1, 0), (2, 0), (4, 0), (5, 0), (6, 0), (7, 0), (8, 0), (3, 1), (9, 1), (10, 1), (11, 3)] (by kernel_rfl) ?_ ?_))
      ·kernel_rfl
      refine r0' rfl rfl rfl rfl (st1 4 rfl (d_lb2 (i := 97) rfl rfl rfl Tryz.isAgg28 Tryz.sizeOf28 rfl rfl)) ?_
      refine r0' rfl rfl rfl rfl (st1 4 rfl (d_fa rfl rfl Tryz.underlying49 rfl Tryz.sizeOf28 rfl rfl)) ?_
      refine r0' rfl rfl rfl rfl (st1 4 rfl (d_lb2 (i := 2) rfl rfl rfl Tryz.isAgg28 Tryz.sizeOf28 rfl rfl)) ?_
      refine r0' rfl rfl rfl rfl (st1 4 rfl (d_mv rfl rfl)) ?_
      refine r0' rfl rfl rfl rfl (st1 4 rfl (d_mv rfl rfl)) ?_
      refine r0' rfl rfl rfl rfl (st1 4 rfl (d_ixa (ii := 1) (i := (k - 1)) rfl rfl rfl rfl rd_slp Tryz.underlying23 Tryz.sizeOf28 (by omega) (by omega))) ?_
      refine r0' rfl rfl rfl rfl (st1 4 rfl (d_lde (ii := 1) 0 rfl rfl rfl rd_slp pV (by omega))) ?_
      refine r0' rfl rfl rfl rfl (st1 4 rfl (d_lb2 (i := 98) rfl rfl rfl Tryz.isAgg28 Tryz.sizeOf28 rfl rfl)) ?_
      refine r1' rfl rfl (t_callb (n := 4) (i := 4) (dk_mul _ _ _ (by first | exact ev_hor hF hlen _ | exact hv.sz.getD _) (by first | exact hx | (rw [hpw]; exact ev_pow hF)) (by first | exact ev_mul hF hlen (by omega) hk | (rw [hpw]; exact ev_term hF))) rfl rfl rfl ⟨rfl, rfl, rfl, trivial⟩ Tryz.call114 rfl (by decide) pre_nil rfl hw rfl) (fun _ _ => ?_)
      refine r1' rfl rfl (t_callb (n := 4) (i := 4) (dk_mul _ _ _ (by first | exact ev_hor hF hlen _ | exact hv.sz.getD _) (by first | exact hx | (rw [hpw]; exact ev_pow hF)) (by first | exact ev_mul hF hlen (by omega) hk | (rw [hpw]; exact ev_term hF))) rfl rfl rfl ⟨rfl, rfl, rfl, trivial⟩ Tryz.call114 rfl (by decide) pre_nil rfl hw rfl) (fun _ _ => ?_)
      refine r1' rfl rfl (t_callb (n := 4) (i := 4) (dk_add _ _ _ (ev_mul hF hlen (by omega) hk) (by rw [hpw]; exact ev_term hF) (by rw [hpw, hst]; exact ev_hor hF hlen _)) rfl rfl rfl ⟨rfl, rfl, rfl, trivial⟩ Tryz.call163 rfl (by decide) pre_nil rfl hw rfl) (fun _ _ => ?_)
      refine r3' rfl rfl (t_stw (i := 97) rfl rfl rfl rfl rfl (by decide) rfl Tryz.sizeOf28 rfl rfl ⟨(one_rfl rfl), (one_rfl rfl), trivial⟩ rfl hw trivial) (fun _ _ => ?_)
      refine r_end ?_
      refine x_bn ?_
      refine x_then (e_reg (mv rfl rfl (dt (d_sub rfl rfl rfl ⟨by omega, by omega⟩) rfl ?_)))
      refine as_ rfl rfl (l_nil ?_)
      exact x_rnd (k - 1) (by first | omega | (dsimp only <;> omega)) (by first | omega | (dsimp only <;> omega)) ⟨by rw [show ((k - 1 : Nat) : Int) - 1 = (k : Int) - 1 - 1 by omega]; rfl, rfl, rfl, rfl, rfl, rfl, rfl, trivial⟩ ⟨by rw [hpw, hst]; rfl, by rw [hpw]; rfl, rfl, rfl, rfl, rfl, rfl, trivial⟩
     ·refine e_exit ?_
      refine x_exit (x_exit (x_be ?_))
      refine x_then (e_seq (e_seq (e_reg (dt (d_fa rfl rfl Tryz.underlying146 rfl Tryz.sizeOf144 rfl rfl) rfl ?_))))
      refine dt (d_fa rfl rfl Tryz.underlying144 rfl Tryz.sizeOf29 rfl rfl) rfl ?_
      refine dt (d_lb (i := 4) rfl rfl rfl Tryz.isAgg29 rfl) rfl ?_
      refine dt (d_neq rfl rfl rfl) rfl ?_
      refine l_nil (x_then (e_cond rfl (fun h198 => ?_) (fun h198 => ?_)))
      ·exfalso; simp_all
      ·refine e_skip ?_
       refine x_then (e_seq (e_reg (dt (d_lb2 (i := 97) rfl rfl rfl Tryz.isAgg28 Tryz.sizeOf28 rfl rfl) rfl ?_)))
       refine tt (t_stw (i := 3) rfl rfl rfl rfl rfl (by decide) rfl Tryz.sizeOf28 rfl rfl ⟨(one_rfl rfl), (one_rfl rfl), trivial⟩ rfl hw trivial) rfl (fun _ _ => ?_)
       refine as_ rfl rfl (l_nil (x_then (e_ret ?_)))
       obtain rfl : k = 0 := by omega
       have hE : ¬ evfull xs x y := fun h => by have := h.2; omega
       exact x_end (.inl rfl) hsc () _ (fun a w hs => res2 hs Tryz.results150 (rv_cell (i := 3) rfl rfl Tryz.isAgg28 Tryz.sizeOf28 rfl) rfl) (by unfold evv eve; rw [if_neg hE, if_neg hE, ← hor_zero] <;> rfl) trivial rfl give_nil
theorem poly_signat (v : Value) (xs : List Int) (x y : Int) (hv : Vp xs) (hx : bl x.natAbs ≤ 65536) (hy : bl y.natAbs ≤ 65536) (hy0 : 0 < y) : Cal Tryz.prog 127 #[v, .agg #[.bool (decide (x < 0)), .string (bstr x.natAbs), .bool (decide (y < 0)), .string (bstr y.natAbs)]] [slp 2 wv v xs] false (G := Unit) (fun _ => True) (fun _ => .tuple #[.int .i64 (evv xs x y).sign, .int .i64 (eve xs x y)]) (fun _ => []) := by
 refine cal_in Tryz.func127 rfl Tryz.ntmps127 rfl ⟨rfl, trivial⟩ ?_
 intro w0 sc hw hsc
 simp only [enumEnv, enumPre]
 have hlen := hv.len
 refine e_seq (e_reg (tt (t_box (i := 2) rfl rfl rfl rfl rfl rfl hw) rfl (fun b _ => ?_)))
 refine as_ rfl rfl (as_ rfl rfl (l_nil (x_then (e_seq (e_reg (mv rfl rfl (dt (d_lb4 (i := 2) rfl rfl rfl Tryz.isAgg49 Tryz.sizeOf49 rfl rfl rfl rfl) rfl ?_)))))))
 refine tt (t_call (n := 2) (poly_eval _ _ _ _ hv hx hy hy0) rfl rfl rfl ⟨rfl, rfl, trivial⟩ Tryz.call150 (pre_same 1 rfl rfl rfl pre_nil) rfl hw) rfl (fun _ _ => ?_)
 refine mv rfl rfl (dt (d_ex rfl rfl rfl) rfl ?_)
 refine dt (d_ex rfl rfl rfl) rfl ?_
 refine tt (t_alloc (i := 3) rfl rfl rfl Tryz.zeroValue28 rfl rfl hw) rfl (fun b_2 _ => ?_)
 refine tt (t_stw (i := 3) rfl rfl rfl rfl rfl (by decide) rfl Tryz.sizeOf28 rfl rfl ⟨(one_rfl rfl), (one_rfl rfl), trivial⟩ rfl hw trivial) rfl (fun _ _ => ?_)
 refine as_ rfl rfl (l_nil (x_then (e_seq (e_reg (dt (d_lb2 (i := 3) rfl rfl rfl Tryz.isAgg28 Tryz.sizeOf28 rfl rfl) rfl ?_)))))
 refine tt (t_call (n := 3) (wide_sign _ (evv_bl hlen)) rfl rfl rfl ⟨rfl, trivial⟩ Tryz.call80 pre_nil rfl hw) rfl (fun _ _ => ?_)
 refine mv rfl rfl (as_ rfl rfl (as_ rfl rfl (l_nil (x_then (e_ret ?_)))))
 exact x_end (.inl rfl) hsc () _ (fun a w hs => res2 hs Tryz.results127 rfl rfl) rfl trivial rfl give_nil
end Go.Sky
namespace Go.Sky
open Go.Proofs
set_option maxRecDepth 20000
set_option maxHeartbeats 4000000
set_option linter.unusedVariables false
set_option linter.unusedSimpArgs false
theorem d_done_b (bd : Nat) (v : Value) (xs : List Int) (hs : Sz 65536 xs) : CalB Tryz.prog 115 #[.pointer (some ⟨bd, 0, none⟩), v] [slp 2 wv v xs] true bd 146 #[.int .i64 0] (G := Unit) (fun _ => True) (fun _ => .tuple #[preV v (tzl xs).length, .int .i64 0]) (fun _ => #[.int .i64 0]) (fun _ => [slp 2 wv (preV v (tzl xs).length) (tzl xs)]) := by
 refine calb_in Tryz.func115 rfl Tryz.ntmps115 rfl ⟨rfl, trivial⟩ ?_
 intro w0 sc hw hsc
 simp only [enumEnv, enumPre]
 refine e_seq (e_reg (as_ rfl rfl (as_ rfl rfl (l_nil (x_then (e_seq (e_seq (e_reg (mv rfl rfl (dt (d_nc rfl rfl) rfl ?_))))))))))
 refine dt (d_fa rfl rfl Tryz.underlying146 rfl Tryz.sizeOf144 rfl rfl) rfl ?_
 refine dt (d_fa rfl rfl Tryz.underlying144 rfl Tryz.sizeOf29 rfl rfl) rfl ?_
 refine dt (d_lb (i := 1) rfl rfl rfl Tryz.isAgg29 rfl) rfl ?_
 refine dt (d_neq rfl rfl rfl) rfl ?_
 refine l_nil (x_then (e_cond rfl (fun h43 => ?_) (fun h43 => ?_)))
 ·exfalso; simp_all
 ·refine e_skip ?_
  refine x_then (e_seq (e_reg (mv rfl rfl (tt (t_call (n := 3) (poly_trim _ _ (by assumption)) rfl rfl rfl ⟨rfl, trivial⟩ Tryz.call120 (pre_same 2 rfl rfl rfl pre_nil) rfl hw) rfl (fun _ _ => ?_)))))
  refine as_ rfl rfl (as_ rfl rfl (l_nil (x_then (e_ret ?_))))
  exact x_endb (.inl rfl) hsc () _ (fun a w hs => res2 hs Tryz.results115 rfl rfl) rfl trivial 1 rfl rfl rfl rfl (give_same 3 rfl rfl rfl give_nil)
theorem clone_p (v : Value) (xs : List Int) (hx : xs.length * 24 ≤ 140737488355328) : CalO Tryz.prog 118 #[v] [slp 2 wv v xs] (G := Value) (fun r => True) (fun r => r) (fun r => osl 2 28 wv r xs) := by
 refine calo_in Tryz.func118 rfl Tryz.ntmps118 rfl ⟨rfl, trivial⟩ ?_
 intro w0 sc hw hsc
 simp only [enumEnv, enumPre]
 refine e_fact (f_nil (i := 1) rfl rd_slp) (fun hnil => ?_)
 refine e_seq (e_reg (as_ rfl rfl (l_nil (x_then (e_seq (e_seq (e_reg (mv rfl rfl (dt (d_isnil rfl rfl rfl (i := 1) rfl rd_slp Tryz.underlying23) rfl ?_)))))))))
 refine l_nil (x_then (e_condb rfl (fun h357 => ?_) (fun h357 => ?_)))
 ·refine e_seq (e_reg (as_ rfl rfl (l_nil (x_then (e_ret (x_ret ?_))))))
  obtain rfl : xs = [] := hnil (by simpa using h357)
  refine x_imp (s_nil 9 2 28 wv) ?_
  exact x_endo (.inl rfl) (.slice none 0 0) _ (fun a w hs => res1 hs Tryz.results118 rfl) rfl trivial rfl 9 rfl rfl rfl
 ·refine e_skip ?_
  refine x_then (e_seq (e_reg (tt (t_bs0 (i := 2) (enc := wv) rfl rfl rfl Tryz.underlying23 pV rfl hw) rfl (fun v _ => ?_))))
  refine mv rfl rfl (tt (t_appa (i := 2) (j := 1) (by_ := 24) rfl rfl rfl rfl rfl rfl (by decide) rfl rd_slp Tryz.underlying23 Tryz.ti28 rfl pV rfl rfl rfl (by simp; omega) (by decide) rfl hw) rfl (fun v_2 _ => ?_))
  refine as_ rfl rfl (l_nil (x_then (e_ret ?_)))
  exact x_endo (.inl rfl) _ _ (fun a w hs => res1 hs Tryz.results118 rfl) rfl trivial rfl 2 rfl (by rfl) rfl
theorem poly_degree (v : Value) (xs : List Int) (hv : Vp xs) : Cal Tryz.prog 57 #[v] [slp 2 wv v xs] false (G := Unit) (fun _ => True) (fun _ => .tuple #[.int .i64 ((xs.length : Int) - 1), .int .i64 0]) (fun _ => []) := by
 refine cal_in Tryz.func57 rfl Tryz.ntmps57 rfl ⟨rfl, trivial⟩ ?_
 intro w0 sc hw hsc
 simp only [enumEnv, enumPre]
 have hlen := hv.len
 refine e_seq (e_reg (as_ rfl rfl (as_ rfl rfl (l_nil (x_then (e_seq (e_seq (e_reg (mv rfl rfl (tt (t_call (n := 1) (poly_valid_ok _ _ (by assumption)) rfl rfl rfl ⟨rfl, trivial⟩ Tryz.call56 (pre_same 1 rfl rfl rfl pre_nil) rfl hw) rfl (fun _ _ => ?_)))))))))))
 refine dt (d_notb rfl rfl) rfl ?_
 refine l_nil (x_then (e_condf rfl ?_))
 refine e_skip ?_
 refine x_then (e_seq (e_reg (mv rfl rfl (dt (d_len rfl rfl (i := 1) rfl rd_slp Tryz.underlying23) rfl ?_))))
 refine dt (d_sub rfl rfl rfl ⟨by omega, by omega⟩) rfl ?_
 refine as_ rfl rfl (as_ rfl rfl (l_nil (x_then (e_ret ?_))))
 exact x_end (.inl rfl) hsc () _ (fun a w hs => res2 hs Tryz.results57 rfl rfl) rfl trivial rfl give_nil
theorem poly_bits (v : Value) (xs : List Int) (hv : Vp xs) : Cal Tryz.prog 58 #[v] [slp 2 wv v xs] false (G := Unit) (fun _ => True) (fun _ => .tuple #[.int .i64 (msz xs : Int), .int .i64 0]) (fun _ => []) := by
 refine cal_in Tryz.func58 rfl Tryz.ntmps58 rfl ⟨rfl, trivial⟩ ?_
 intro w0 sc hw hsc
 simp only [enumEnv, enumPre]
 refine e_seq (e_reg (as_ rfl rfl (as_ rfl rfl (l_nil (x_then (e_seq (e_seq (e_reg (mv rfl rfl (tt (t_call (n := 1) (poly_valid_ok _ _ (by assumption)) rfl rfl rfl ⟨rfl, trivial⟩ Tryz.call56 (pre_same 1 rfl rfl rfl pre_nil) rfl hw) rfl (fun _ _ => ?_)))))))))))
 refine dt (d_notb rfl rfl) rfl ?_
 refine l_nil (x_then (e_condf rfl ?_))
 refine e_skip ?_
 refine x_then (e_seq (e_reg (mv rfl rfl (tt (t_call (n := 1) (poly_size _ _ hv.sz) rfl rfl rfl ⟨rfl, trivial⟩ Tryz.call110 (pre_same 1 rfl rfl rfl pre_nil) rfl hw) rfl (fun _ _ => ?_)))))
 refine as_ rfl rfl (as_ rfl rfl (l_nil (x_then (e_ret ?_))))
 exact x_end (.inl rfl) hsc () _ (fun a w hs => res2 hs Tryz.results58 rfl rfl) rfl trivial rfl give_nil
end Go.Sky

