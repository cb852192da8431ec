/- rules, arithmetic and contracts: part 9
   Proved without conditions of its own: each theorem bears its own. -/
import Derived.Test.YtcegclhbeflgbaaGreatSc02
import Derived.Test.YtcegclhbeflgbaaGreatSc01
import Derived.Test.YtcegclhbeflgbaaGreatSc03
import Derived.Test.YtcegclhbeflgbaaGreatSc07
set_option linter.all false
namespace Go.Sky
open Go.Proofs
set_option maxRecDepth 20000
set_option maxHeartbeats 4000000
set_option linter.unusedVariables false
set_option linter.unusedSimpArgs false
theorem r_valid (b : Bool) (s : ByteArray) : Cal Tryz.prog 48 #[.agg #[.bool b, .string s]] [] false (G := Unit) (fun _ => True) (fun _ => .bool (okW b s)) (fun _ => []) := by
 refine cal_in Tryz.func48 rfl Tryz.ntmps48 rfl trivial ?_
 intro w0 sc hw hsc
 simp only [enumEnv, enumPre]
 refine e_seq (e_reg (tt (t_box (i := 1) rfl rfl rfl rfl rfl rfl hw) rfl (fun b _ => ?_)))
 refine as_ rfl rfl (l_nil (x_then (e_seq (e_seq (e_reg (dt (d_fa rfl rfl Tryz.underlying28 rfl Tryz.sizeOf9 rfl rfl) rfl ?_))))))
 refine dt (d_lb (i := 1) rfl rfl rfl Tryz.isAgg9 rfl) rfl ?_
 refine dt (d_lens rfl rfl Tryz.underlying9) rfl ?_
 refine dt (d_eql rfl rfl rfl) rfl ?_
 refine l_nil (x_then (e_cond rfl (fun h25 => ?_) (fun h25 => ?_)))
 ·refine e_seq (e_reg (dt (d_fa rfl rfl Tryz.underlying28 rfl Tryz.sizeOf4 rfl rfl) rfl ?_))
  refine dt (d_lb (i := 1) rfl rfl rfl Tryz.isAgg4 rfl) rfl ?_
  refine dt (d_notb rfl rfl) rfl ?_
  refine as_ rfl rfl (l_nil (x_then (e_ret (x_ret ?_))))
  exact x_end (.inl rfl) hsc () _ (fun a w hs => res1 hs Tryz.results48 rfl) (by unfold okW; rw [if_pos (by omega)]) trivial rfl give_nil
 ·refine e_skip ?_
  refine x_then (e_seq (e_reg (dt (d_fa rfl rfl Tryz.underlying28 rfl Tryz.sizeOf9 rfl rfl) rfl ?_)))
  refine dt (d_lb (i := 1) rfl rfl rfl Tryz.isAgg9 rfl) rfl ?_
  refine dt (d_lens rfl rfl Tryz.underlying9) rfl ?_
  refine dt (d_leq rfl rfl rfl) rfl ?_
  refine mv rfl rfl (l_split (d := 14) rfl (fun s28 => ?_) (fun s28 => ?_))
  ·refine gdt (d_fa rfl rfl Tryz.underlying28 rfl Tryz.sizeOf9 rfl rfl) rfl rfl rfl rfl ?_
   refine gdt (d_lb (i := 1) rfl rfl rfl Tryz.isAgg9 rfl) rfl rfl rfl rfl ?_
   refine gdt (d_ixs (i := 0) rfl rfl rfl Tryz.underlying9 rfl (by omega)) rfl rfl rfl rfl ?_
   refine gdt (d_neq rfl rfl rfl) rfl rfl rfl rfl ?_
   refine dt (d_pickt rfl rfl rfl) rfl ?_
   refine as_ rfl rfl (l_nil (x_then (e_ret ?_)))
   exact x_end (.inl rfl) hsc () _ (fun a w hs => res1 hs Tryz.results48 rfl) (by unfold okW; rw [if_neg (by omega)]; simp_all <;> omega) trivial rfl give_nil
  ·refine gsk rfl rfl rfl rfl rfl (gsk rfl rfl rfl rfl rfl (gsk rfl rfl rfl rfl rfl (gsk rfl rfl rfl rfl rfl (dt (d_pickf rfl rfl rfl) rfl ?_))))
   refine as_ rfl rfl (l_nil (x_then (e_ret ?_)))
   exact x_end (.inl rfl) hsc () _ (fun a w hs => res1 hs Tryz.results48 rfl) (by unfold okW; rw [if_neg (by omega)]; simp_all <;> omega) trivial rfl give_nil
theorem r_trim (v : Value) (xs : List Nat) : Cal Tryz.prog 60 #[v] [slp 1 encN v xs] true (G := Unit) (fun _ => True) (fun _ => preV v (tz xs).length) (fun _ => [slp 1 encN (preV v (tz xs).length) (tz xs)]) := by
 refine cal_in Tryz.func60 rfl Tryz.ntmps60 rfl ⟨rfl, trivial⟩ ?_
 intro w0 sc hw hsc
 simp only [enumEnv, enumPre]
 refine e_fact (f_self (i := 1) rfl rd_slp) (fun hself => ?_)
 refine e_fact (f_len (i := 1) rfl rd_slp) (fun hlen => ?_)
 refine e_seq (e_reg (as_ rfl rfl (l_nil (x_then (e_seq (e_block (e_lp [] [(0, _)] (fun (k : Nat) => [(0, preV v k)]) (fun (k : Nat) => [(1, slp 1 encN (preV v k) (xs.take k))]) (fun (k : Nat) => (k ≤ xs.length) ∧ (tz (xs.take k) = tz xs)) (fun (k : Nat) => k) xs.length ⟨Nat.le_refl _, by rw [List.take_length]⟩ ⟨by rw [hself]; rfl, trivial⟩ ⟨by rw [hself, List.take_length]; rfl, rfl, trivial⟩ ?_)))))))
 rintro k ⟨hk, ht⟩
 simp only [List.cons_append, List.nil_append]
 have hl : (xs.take k).length = k := by rw [List.length_take]; omega
 refine e_seq (e_seq (e_reg (mv rfl rfl (dt (d_len rfl rfl (i := 1) rfl rd_slp Tryz.underlying37) rfl ?_))))
 refine dt (d_gtr rfl rfl rfl) rfl ?_
 refine mv rfl rfl (l_split (d := 6) rfl (fun s33 => ?_) (fun s33 => ?_))
 ·refine gdt (d_mv rfl rfl) rfl rfl rfl rfl ?_
  refine gdt (d_mv rfl rfl) rfl rfl rfl rfl ?_
  refine gdt (d_len rfl rfl (i := 1) rfl rd_slp Tryz.underlying37) rfl rfl rfl rfl ?_
  refine gdt (d_sub rfl rfl rfl ⟨by omega, by omega⟩) rfl rfl rfl rfl ?_
  refine gdt (d_ixa (ii := 1) (i := k - 1) rfl rfl rfl rfl rd_slp Tryz.underlying37 Tryz.sizeOf3 (by omega) (by omega)) rfl rfl rfl rfl ?_
  refine gdt (d_lde (ii := 1) 0 rfl rfl rfl rd_slp pN (by omega)) rfl rfl rfl rfl ?_
  refine gdt (d_eql rfl rfl rfl) rfl rfl rfl rfl ?_
  refine dt (d_pickt rfl rfl rfl) rfl ?_
  refine l_nil (x_then (e_cond rfl (fun h33 => ?_) (fun h33 => ?_)))
  ·have hstep := tz_step hk (by omega) (by omega : (xs.take k).getD (k - 1) 0 = 0)
   refine e_skip ?_
   refine x_then (e_block (e_reg (mv rfl rfl (mv rfl rfl (dt (d_len rfl rfl (i := 1) rfl rd_slp Tryz.underlying37) rfl ?_)))))
   refine dt (d_sub rfl rfl rfl ⟨by omega, by omega⟩) rfl ?_
   refine dt (d_pre (ii := 1) (i := k - 1) rfl rfl rfl rfl rd_slp Tryz.underlying37 Tryz.sizeOf3 (by omega) (by omega)) rfl ?_
   refine as_ rfl rfl (l_nil (x_bn ?_))
   refine x_imp (s_pre 1 1 (k - 1) rfl rfl (by omega)) ?_
   exact x_rnd (k - 1) ⟨by first | omega | (dsimp only <;> omega), by rw [← ht, ← hstep]⟩ (by first | omega | (dsimp only <;> omega)) ⟨by rw [← preV_preV v k (k - 1)]; rfl, trivial⟩ ⟨by rw [preV_preV, List.take_take, Nat.min_eq_left (by omega)]; rfl, rfl, trivial⟩
  ·refine e_exit ?_
   refine x_exit (x_exit (x_be ?_))
   refine x_then (e_seq (e_reg (mv rfl rfl (as_ rfl rfl (l_nil (x_then (e_ret ?_)))))))
   have hx : tz xs = xs.take k := by rw [← ht]; exact tz_stop hk (by omega)
   exact x_end (.inl rfl) hsc () _ (fun a w hs => res1 hs Tryz.results60 rfl) (by rw [hx, hl]) trivial rfl (give_samee 1 rfl rfl rfl (by rw [hx, hl]) give_nil)
 ·refine gsk rfl rfl rfl rfl rfl (gsk rfl rfl rfl rfl rfl (gsk rfl rfl rfl rfl rfl (gsk rfl rfl rfl rfl rfl (gsk rfl rfl rfl rfl rfl (gsk rfl rfl rfl rfl rfl (gsk rfl rfl rfl rfl rfl (dt (d_pickf rfl rfl rfl) rfl ?_)))))))
  refine l_nil (x_then (e_condf rfl ?_))
  refine e_exit ?_
  refine x_exit (x_exit (x_be ?_))
  refine x_then (e_seq (e_reg (mv rfl rfl (as_ rfl rfl (l_nil (x_then (e_ret ?_)))))))
  have hx : tz xs = xs.take k := by rw [← ht]; exact tz_stop hk (by omega)
  exact x_end (.inl rfl) hsc () _ (fun a w hs => res1 hs Tryz.results60 rfl) (by rw [hx, hl]) trivial rfl (give_samee 1 rfl rfl rfl (by rw [hx, hl]) give_nil)
theorem r_trim_own (v : Value) (xs : List Nat) : Cal Tryz.prog 60 #[v] [slp 1 encN v xs] false (G := Unit) (fun _ => True) (fun _ => preV v (tz xs).length) (fun _ => []) := (r_trim v xs).bare
theorem r_order (v w : Value) (x y : Nat) (hx : bl x ≤ 4294967296) (hy : bl y ≤ 4294967296) : Cal Tryz.prog 93 #[v, w] [d9p v x, d9p w y] false (G := Unit) (fun _ => True) (fun _ => .int .i64 (cmpI x y)) (fun _ => []) := by
 refine cal_in Tryz.func93 rfl Tryz.ntmps93 rfl ⟨rfl, rfl, trivial⟩ ?_
 intro w0 sc hw hsc
 simp only [enumEnv, enumPre]
 have hX := len9_bl x
 have hY := len9_bl y
 refine e_seq (e_reg (as_ rfl rfl (l_nil (x_then (e_seq (e_seq (e_reg (mv rfl rfl (dt (d_len rfl rfl (i := 1) rfl rd_slp Tryz.underlying37) rfl ?_)))))))))
 refine mv rfl rfl (dt (d_len rfl rfl (i := 2) rfl rd_slp Tryz.underlying37) rfl ?_)
 refine dt (d_neq rfl rfl rfl) rfl ?_
 refine l_nil (x_then (e_cond rfl (fun h41 => ?_) (fun h41 => ?_)))
 ·refine e_seq (e_seq (e_reg (mv rfl rfl (dt (d_len rfl rfl (i := 1) rfl rd_slp Tryz.underlying37) rfl ?_))))
  refine mv rfl rfl (dt (d_len rfl rfl (i := 2) rfl rd_slp Tryz.underlying37) rfl ?_)
  refine dt (d_lss rfl rfl rfl) rfl ?_
  refine l_nil (x_then (e_cond rfl (fun h42 => ?_) (fun h42 => ?_)))
  ·have hlt : x < y := dg_len_lt two_D (by omega)
   refine e_seq (e_reg (as_ rfl rfl (l_nil (x_then (e_ret (x_ret ?_))))))
   refine x_ret ?_
   exact x_end (.inl rfl) hsc () _ (fun a w hs => res1 hs Tryz.results93 rfl) (by unfold cmpI; rw [if_pos hlt]) trivial rfl give_nil
  ·have hlt : y < x := dg_len_lt two_D (by omega)
   refine e_skip ?_
   refine x_then (e_seq (e_reg (as_ rfl rfl (l_nil (x_then (e_ret (x_ret ?_)))))))
   exact x_end (.inl rfl) hsc () _ (fun a w hs => res1 hs Tryz.results93 rfl) (by unfold cmpI; rw [if_neg (by omega), if_pos hlt]) trivial rfl give_nil
 ·have hlen : (dg 1000000000 x).length = (dg 1000000000 y).length := by omega
  refine e_skip ?_
  refine x_then (e_seq (e_seq (e_reg (mv rfl rfl (dt (d_len rfl rfl (i := 1) rfl rd_slp Tryz.underlying37) rfl ?_)))))
  refine dt (d_sub rfl rfl rfl ⟨by omega, by omega⟩) rfl ?_
  refine as_ rfl rfl (l_nil (x_then (e_block (e_lp [(0, _), (1, _)] [(0, _), (1, _), (2, _)] (fun (k : Nat) => [(5, .int .i64 ((k : Int) - 1))]) (fun (k : Nat) => []) (fun (k : Nat) => (k ≤ (dg 1000000000 x).length) ∧ ((dg 1000000000 x).drop k = (dg 1000000000 y).drop k)) (fun (k : Nat) => k) (dg 1000000000 x).length ⟨by first | omega | (dsimp only <;> omega), by rw [List.drop_length, hlen, List.drop_length]⟩ ⟨rfl, rfl, rfl, trivial⟩ ⟨rfl, rfl, rfl, trivial⟩ ?_))))
  rintro k ⟨hk, hd⟩
  simp only [List.cons_append, List.nil_append]
  refine e_seq (e_seq (e_reg (mv rfl rfl (dt (d_geq rfl rfl rfl) rfl ?_))))
  refine l_nil (x_then (e_cond rfl (fun h47 => ?_) (fun h47 => ?_)))
  ·refine e_skip ?_
   refine x_then (e_seq (e_block (e_seq (e_seq (e_dreg (fun _ => False) [(0, 0), (1, 0), (2, 0), (3, 0), (4, 0), (5, 0), (6, 0), (7, 0), (8, 0)] (by kernel_rfl) ?_ ?_)))))
   ·kernel_rfl
   refine r0' rfl rfl rfl rfl (st0 (d_mv rfl rfl)) ?_
   refine r0' rfl rfl rfl rfl (st0 (d_mv rfl rfl)) ?_
   refine r0' rfl rfl rfl rfl (st0 (d_ixa (ii := 1) (i := k - 1) rfl rfl rfl rfl rd_slp Tryz.underlying37 Tryz.sizeOf3 (by omega) (by omega))) ?_
   refine r0' rfl rfl rfl rfl (st0 (d_lde (ii := 1) 0 rfl rfl rfl rd_slp pN (by first | omega | (simp only [List.length_set]; omega)))) ?_
   refine r0' rfl rfl rfl rfl (st0 (d_mv rfl rfl)) ?_
   refine r0' rfl rfl rfl rfl (st0 (d_mv rfl rfl)) ?_
   refine r0' rfl rfl rfl rfl (st0 (d_ixa (ii := 2) (i := k - 1) rfl rfl rfl rfl rd_slp Tryz.underlying37 Tryz.sizeOf3 (by omega) (by omega))) ?_
   refine r0' rfl rfl rfl rfl (st0 (d_lde (ii := 2) 0 rfl rfl rfl rd_slp pN (by first | omega | (simp only [List.length_set]; omega)))) ?_
   refine r0' rfl rfl rfl rfl (st0 (d_lss rfl rfl rfl)) ?_
   refine r_end ?_
   refine x_then (e_cond rfl (fun h48 => ?_) (fun h48 => ?_))
   ·have hlt := cmp_lt D_pos (xs := (dg 1000000000 x)) (ys := (dg 1000000000 y)) (dg_lt two_D x) (k := k - 1) (by omega) (by omega) (by rw [show k - 1 + 1 = k by omega]; exact hd) (by omega)
    rw [val_dg two_D, val_dg two_D] at hlt
    refine e_seq (e_reg (as_ rfl rfl (l_nil (x_then (e_ret (x_ret ?_))))))
    refine x_br ?_
    refine x_ret ?_
    refine x_ret ?_
    refine x_br ?_
    refine x_ret ?_
    exact x_end (.inl rfl) hsc () _ (fun a w hs => res1 hs Tryz.results93 rfl) (by unfold cmpI; rw [if_pos hlt]) trivial rfl give_nil
   ·refine e_skip ?_
    refine x_then (e_seq (e_dreg (fun _ => False) [(0, 0), (1, 0), (2, 0), (3, 0), (4, 0), (5, 0), (6, 0), (7, 0), (8, 0)] (by kernel_rfl) ?_ ?_))
    ·kernel_rfl
    refine r0' rfl rfl rfl rfl (st0 (d_mv rfl rfl)) ?_
    refine r0' rfl rfl rfl rfl (st0 (d_mv rfl rfl)) ?_
    refine r0' rfl rfl rfl rfl (st0 (d_ixa (ii := 1) (i := k - 1) rfl rfl rfl rfl rd_slp Tryz.underlying37 Tryz.sizeOf3 (by omega) (by omega))) ?_
    refine r0' rfl rfl rfl rfl (st0 (d_lde (ii := 1) 0 rfl rfl rfl rd_slp pN (by first | omega | (simp only [List.length_set]; omega)))) ?_
    refine r0' rfl rfl rfl rfl (st0 (d_mv rfl rfl)) ?_
    refine r0' rfl rfl rfl rfl (st0 (d_mv rfl rfl)) ?_
    refine r0' rfl rfl rfl rfl (st0 (d_ixa (ii := 2) (i := k - 1) rfl rfl rfl rfl rd_slp Tryz.underlying37 Tryz.sizeOf3 (by omega) (by omega))) ?_
    refine r0' rfl rfl rfl rfl (st0 (d_lde (ii := 2) 0 rfl rfl rfl rd_slp pN (by first | omega | (simp only [List.length_set]; omega)))) ?_
    refine r0' rfl rfl rfl rfl (st0 (d_gtr rfl rfl rfl)) ?_
    refine r_end ?_
    refine x_then (e_cond rfl (fun h51 => ?_) (fun h51 => ?_))
    ·have hlt := cmp_lt D_pos (xs := (dg 1000000000 y)) (ys := (dg 1000000000 x)) (dg_lt two_D y) (k := k - 1) (by omega) (by omega) (by rw [show k - 1 + 1 = k by omega]; exact hd.symm) (by omega)
     rw [val_dg two_D, val_dg two_D] at hlt
     refine e_seq (e_reg (as_ rfl rfl (l_nil (x_then (e_ret (x_br ?_))))))
     refine x_ret ?_
     refine x_ret ?_
     refine x_br ?_
     refine x_ret ?_
     exact x_end (.inl rfl) hsc () _ (fun a w hs => res1 hs Tryz.results93 rfl) (by unfold cmpI; rw [if_neg (by omega), if_pos hlt]) trivial rfl give_nil
    ·refine e_skip ?_
     refine x_bn ?_
     refine x_then (e_reg (mv rfl rfl (dt (d_sub rfl rfl rfl ⟨by omega, by omega⟩) rfl ?_)))
     refine as_ rfl rfl (l_nil ?_)
     exact x_rnd (k - 1) ⟨by first | omega | (dsimp only <;> omega), by have := drop_eq_step (xs := (dg 1000000000 x)) (ys := (dg 1000000000 y)) (k := k - 1) (by omega) (by omega) (by rw [show k - 1 + 1 = k by omega]; exact hd) (by omega); exact this⟩ (by first | omega | (dsimp only <;> omega)) ⟨by rw [show (((k - 1 : Nat) : Int) - 1) = (k : Int) - 1 - 1 by omega]; rfl, rfl, rfl, trivial⟩ ⟨rfl, rfl, rfl, trivial⟩
  ·refine e_exit ?_
   refine x_exit (x_exit (x_be ?_))
   refine x_then (e_seq (e_reg (as_ rfl rfl (l_nil (x_then (e_ret ?_))))))
   obtain rfl : k = 0 := by omega
   have heq : x = y := (dg_eq_iff two_D).1 (by simpa using hd)
   exact x_end (.inl rfl) hsc () _ (fun a w hs => res1 hs Tryz.results93 rfl) (by unfold cmpI; rw [if_neg (by omega), if_neg (by omega)]) trivial rfl give_nil
theorem r_plus (v w : Value) (x y : Nat) (hx : bl x ≤ 4294967296) (hy : bl y ≤ 4294967296) : Cal Tryz.prog 92 #[v, w] [d9p v x, d9p w y] false (G := Value) (fun r => True) (fun r => r) (fun r => [d9p r (x + y)]) := by
 refine cal_in Tryz.func92 rfl Tryz.ntmps92 rfl ⟨rfl, rfl, trivial⟩ ?_
 intro w0 sc hw hsc
 simp only [enumEnv, enumPre]
 have hX := len9_bl x
 have hY := len9_bl y
 refine e_seq (e_reg (as_ rfl rfl (l_nil (x_then (e_seq (e_reg (as_ rfl rfl (l_nil (x_then (e_seq (e_reg (as_ rfl rfl (l_nil (x_then (e_seq (e_seq (e_reg (as_ rfl rfl (l_nil (x_then (e_block (e_imp (s_nil 70 1 3 encN) ?_))))))))))))))))))))))
 refine e_lp [(0, _), (1, _)] [(0, _), (1, _), (2, _)] (fun (q : Nat × List Nat × Nat × Value) => [(7, .int .i64 (q.1 : Int)), (6, .int .i64 (q.2.2.1 : Int)), (5, q.2.2.2)]) (fun (q : Nat × List Nat × Nat × Value) => [(70, osl 1 3 encN q.2.2.2 q.2.1)]) (fun (q : Nat × List Nat × Nat × Value) => (q.1 ≤ max (dg 1000000000 x).length (dg 1000000000 y).length + 1 ∧ (q.1 = max (dg 1000000000 x).length (dg 1000000000 y).length + 1 → q.2.2.1 = 0)) ∧ (q.2.1.length = q.1) ∧ (∀ d ∈ q.2.1, d < 1000000000) ∧ (q.2.2.1 ≤ 1) ∧ (val 1000000000 q.2.1 + q.2.2.1 * 1000000000 ^ q.1 = val 1000000000 ((dg 1000000000 x).take q.1) + val 1000000000 ((dg 1000000000 y).take q.1)) ∧ (q.1 = 0 ∨ 1000000000 ^ (q.1 - 1) ≤ x + y)) (fun (q : Nat × List Nat × Nat × Value) => max (dg 1000000000 x).length (dg 1000000000 y).length + 1 - q.1) (0, [], 0, .slice none 0 0) ⟨⟨by omega, by omega⟩, rfl, by simp, by first | omega | (dsimp only <;> omega), by simp [val], .inl rfl⟩ ⟨rfl, rfl, rfl, rfl, rfl, trivial⟩ ⟨rfl, rfl, rfl, rfl, trivial⟩ ?_
 rintro ⟨i, o, c, vo⟩ ⟨hi, hol, hoa, hc, hv, hge⟩
 dsimp only at hi hol hoa hc hv hge
 simp only [List.cons_append, List.nil_append]
 refine e_seq (e_jn [(0, _), (1, _), (5, _), (6, _), (7, _)] [(0, _), (70, _), (1, _), (2, _)] (fun (_ : Unit) => [(21, .bool (decide (i < (dg 1000000000 x).length ∨ i < (dg 1000000000 y).length ∨ 0 < c)))]) (fun (_ : Unit) => []) (fun (_ : Unit) => True) ⟨rfl, rfl, rfl, rfl, rfl, trivial⟩ ⟨rfl, rfl, rfl, rfl, trivial⟩ ?_ ?_)
 ·refine e_reg (mv rfl rfl (mv rfl rfl (dt (d_len rfl rfl (i := 1) rfl rd_slp Tryz.underlying37) rfl ?_)))
  refine dt (d_lss rfl rfl rfl) rfl ?_
  refine mv rfl rfl (l_split (d := 12) rfl (fun s62 => ?_) (fun s62 => ?_))
  ·refine gsk rfl rfl rfl rfl rfl (gsk rfl rfl rfl rfl rfl (gsk rfl rfl rfl rfl rfl (gsk rfl rfl rfl rfl rfl (dt (d_pickt rfl rfl rfl) rfl ?_))))
   refine mv rfl rfl (gsk rfl rfl rfl rfl rfl (gsk rfl rfl rfl rfl rfl (dt (d_pickt rfl rfl rfl) rfl ?_)))
   refine l_nil ?_
   exact x_jn () trivial ⟨by first | exact congrArg some (congrArg Value.bool (decide_eq_decide.2 (by omega))) | exact congrArg some (congrArg Value.bool (decide_eq_true (by omega)).symm), rfl, rfl, rfl, rfl, rfl, trivial⟩ ⟨rfl, rfl, rfl, rfl, trivial⟩
  ·refine gdt (d_mv rfl rfl) rfl rfl rfl rfl ?_
   refine gdt (d_mv rfl rfl) rfl rfl rfl rfl ?_
   refine gdt (d_len rfl rfl (i := 2) rfl rd_slp Tryz.underlying37) rfl rfl rfl rfl ?_
   refine gdt (d_lss rfl rfl rfl) rfl rfl rfl rfl ?_
   refine dt (d_pickf rfl rfl rfl) rfl ?_
   refine mv rfl rfl (l_split (d := 18) rfl (fun s62_2 => ?_) (fun s62_2 => ?_))
   ·refine gsk rfl rfl rfl rfl rfl (gsk rfl rfl rfl rfl rfl (dt (d_pickt rfl rfl rfl) rfl ?_))
    refine l_nil ?_
    exact x_jn () trivial ⟨by first | exact congrArg some (congrArg Value.bool (decide_eq_decide.2 (by omega))) | exact congrArg some (congrArg Value.bool (decide_eq_true (by omega)).symm), rfl, rfl, rfl, rfl, rfl, trivial⟩ ⟨rfl, rfl, rfl, rfl, trivial⟩
   ·refine gdt (d_mv rfl rfl) rfl rfl rfl rfl ?_
    refine gdt (d_gtr rfl rfl rfl) rfl rfl rfl rfl ?_
    refine dt (d_pickf rfl rfl rfl) rfl ?_
    refine l_nil ?_
    exact x_jn () trivial ⟨by first | exact congrArg some (congrArg Value.bool (decide_eq_decide.2 (by omega))) | exact congrArg some (congrArg Value.bool (decide_eq_true (by omega)).symm), rfl, rfl, rfl, rfl, rfl, trivial⟩ ⟨rfl, rfl, rfl, rfl, trivial⟩
 ·rintro _ -
  simp only [List.cons_append, List.nil_append]
  refine e_cond rfl (fun h62 => ?_) (fun h62 => ?_)
  ·have hgn : 1000000000 ^ i ≤ x + y := by
    rcases h62 with h1 | h1 | h1
    ·have := pow_le_dg two_D h1; omega
    ·have := pow_le_dg two_D h1; omega
    ·by_cases h2 : i < (dg 1000000000 x).length
     ·have := pow_le_dg two_D h2; omega
     ·by_cases h3 : i < (dg 1000000000 y).length
      ·have := pow_le_dg two_D h3; omega
      ·rw [take_dg_all two_D (by omega), take_dg_all two_D (by omega)] at hv
       have : 1000000000 ^ i ≤ c * 1000000000 ^ i := Nat.le_mul_of_pos_left _ h1
       omega
   refine e_skip ?_
   refine x_then (e_seq (e_block (e_jn [(0, _), (1, _), (5, _), (7, _)] [(0, _), (70, _), (1, _), (2, _)] (fun (_ : Unit) => [(6, .int .i64 ((c + (dg 1000000000 x).getD i 0 : Nat) : Int))]) (fun (_ : Unit) => []) (fun (_ : Unit) => True) ⟨rfl, rfl, rfl, rfl, trivial⟩ ⟨rfl, rfl, rfl, rfl, trivial⟩ ?_ ?_)))
   ·refine e_seq (e_reg (mv rfl rfl (mv rfl rfl (dt (d_len rfl rfl (i := 1) rfl rd_slp Tryz.underlying37) rfl ?_))))
    refine dt (d_lss rfl rfl rfl) rfl ?_
    refine l_nil (x_then (e_cond rfl (fun h63 => ?_) (fun h63 => ?_)))
    ·refine e_reg (mv rfl rfl (mv rfl rfl (mv rfl rfl (dt (d_ixa (ii := 1) rfl rfl rfl rfl rd_slp Tryz.underlying37 Tryz.sizeOf3 rfl (by first | omega | (simp only [List.length_set]; omega))) rfl ?_))))
     refine dt (d_lde (ii := 1) 0 rfl rfl rfl rd_slp pN (by first | omega | (simp only [List.length_set]; omega))) rfl ?_
     refine dt (n_add rfl rfl rfl (by have h1 := (getD_lt D_pos (dg_lt two_D x) i); omega)) rfl ?_
     refine as_ rfl rfl (l_nil ?_)
     try (have hz : (dg 1000000000 x).getD i 0 = 0 := by simp [List.getD, List.getElem?_eq_none (by omega : (dg 1000000000 x).length ≤ i)])
     exact x_jn () trivial ⟨by first | rfl | (rw [hz]; rfl), rfl, rfl, rfl, rfl, trivial⟩ ⟨rfl, rfl, rfl, rfl, trivial⟩
    ·refine e_skip ?_
     try (have hz : (dg 1000000000 x).getD i 0 = 0 := by simp [List.getD, List.getElem?_eq_none (by omega : (dg 1000000000 x).length ≤ i)])
     exact x_jn () trivial ⟨by first | rfl | (rw [hz]; rfl), rfl, rfl, rfl, rfl, trivial⟩ ⟨rfl, rfl, rfl, rfl, trivial⟩
   ·rintro _ -
    simp only [List.cons_append, List.nil_append]
    refine e_jn [(0, _), (1, _), (5, _), (7, _)] [(0, _), (70, _), (1, _), (2, _)] (fun (_ : Unit) => [(6, .int .i64 ((c + (dg 1000000000 x).getD i 0 + (dg 1000000000 y).getD i 0 : Nat) : Int))]) (fun (_ : Unit) => []) (fun (_ : Unit) => True) ⟨rfl, rfl, rfl, rfl, trivial⟩ ⟨rfl, rfl, rfl, rfl, trivial⟩ ?_ ?_
    ·refine e_seq (e_reg (mv rfl rfl (mv rfl rfl (dt (d_len rfl rfl (i := 2) rfl rd_slp Tryz.underlying37) rfl ?_))))
     refine dt (d_lss rfl rfl rfl) rfl ?_
     refine l_nil (x_then (e_cond rfl (fun h66 => ?_) (fun h66 => ?_)))
     ·refine e_reg (mv rfl rfl (mv rfl rfl (mv rfl rfl (dt (d_ixa (ii := 2) rfl rfl rfl rfl rd_slp Tryz.underlying37 Tryz.sizeOf3 rfl (by first | omega | (simp only [List.length_set]; omega))) rfl ?_))))
      refine dt (d_lde (ii := 2) 0 rfl rfl rfl rd_slp pN (by first | omega | (simp only [List.length_set]; omega))) rfl ?_
      refine dt (n_add rfl rfl rfl (by have h1 := (getD_lt D_pos (dg_lt two_D x) i); have h2 := (getD_lt D_pos (dg_lt two_D y) i); omega)) rfl ?_
      refine as_ rfl rfl (l_nil ?_)
      try (have hz : (dg 1000000000 y).getD i 0 = 0 := by simp [List.getD, List.getElem?_eq_none (by omega : (dg 1000000000 y).length ≤ i)])
      exact x_jn () trivial ⟨by first | rfl | (rw [hz]; rfl), rfl, rfl, rfl, rfl, trivial⟩ ⟨rfl, rfl, rfl, rfl, trivial⟩
     ·refine e_skip ?_
      try (have hz : (dg 1000000000 y).getD i 0 = 0 := by simp [List.getD, List.getElem?_eq_none (by omega : (dg 1000000000 y).length ≤ i)])
      exact x_jn () trivial ⟨by first | rfl | (rw [hz]; rfl), rfl, rfl, rfl, rfl, trivial⟩ ⟨rfl, rfl, rfl, rfl, trivial⟩
    ·rintro _ -
     simp only [List.cons_append, List.nil_append]
     refine e_seq (e_reg (mv rfl rfl (mv rfl rfl (dt (n_rem (n := 1000000000) rfl rfl rfl (by omega)) rfl ?_))))
     refine tt (t_bsg (i := 3) (ivs := [(0, _)]) (enc := encN) [(c + (dg 1000000000 x).getD i 0 + (dg 1000000000 y).getD i 0) % 1000000000] rfl rfl rfl ⟨rfl, rfl, trivial⟩ Tryz.underlying37 Tryz.ti3 rfl rfl rfl rfl rfl rfl pN.cells rfl rfl hw) rfl (fun v _ => ?_)
     refine tt (t_appa (i := 70) (j := 3) (by_ := 8) rfl rfl rfl rfl rfl rfl (by decide) rfl (rd_osl pN) Tryz.underlying37 Tryz.ti3 rfl pN rfl rfl rfl (by simp; omega) (by decide) rfl hw) rfl (fun v_2 _ => ?_)
     refine as_ rfl rfl (l_nil (x_then (e_reg (mv rfl rfl (dt (n_quo (n := 1000000000) rfl rfl rfl (by have h1 := (getD_lt D_pos (dg_lt two_D x) i); have h2 := (getD_lt D_pos (dg_lt two_D y) i); omega) (by omega)) rfl ?_)))))
     refine as_ rfl rfl (l_nil (x_bn ?_))
     refine x_then (e_reg (mv rfl rfl (dt (d_add rfl rfl rfl ⟨by omega, by omega⟩) rfl ?_)))
     refine as_ rfl rfl (l_nil ?_)
     exact x_rnd (i + 1, o ++ [(c + (dg 1000000000 x).getD i 0 + (dg 1000000000 y).getD i 0) % 1000000000], (c + (dg 1000000000 x).getD i 0 + (dg 1000000000 y).getD i 0) / 1000000000, _) ⟨⟨by dsimp only; omega, fun h => by dsimp only at h ⊢; rw [dg_getD0 (by omega : (dg 1000000000 x).length ≤ i), dg_getD0 (by omega : (dg 1000000000 y).length ≤ i)]; omega⟩, by simp [hol], all_snoc hoa (Nat.mod_lt _ D_pos), by have h1 := (getD_lt D_pos (dg_lt two_D x) i); have h2 := (getD_lt D_pos (dg_lt two_D y) i); dsimp only; omega, plus_step hol hv, .inr hgn⟩ (by first | omega | (dsimp only <;> omega)) ⟨rfl, rfl, rfl, rfl, rfl, trivial⟩ ⟨rfl, rfl, rfl, rfl, trivial⟩
  ·refine e_exit ?_
   refine x_exit (x_exit (x_be ?_))
   refine x_then (e_seq (e_reg (mv rfl rfl (as_ rfl rfl (l_nil (x_then (e_ret ?_)))))))
   have hc0 : c = 0 := by omega
   have hv2 : val 1000000000 o = x + y := by
    rw [take_dg_all two_D (by omega), take_dg_all two_D (by omega), hc0, Nat.zero_mul, Nat.add_zero] at hv
    exact hv
   have hx : o = dg 1000000000 (x + y) := tz_full two_D hoa hv2 (by rw [hol]; exact hge)
   exact x_end (.inl rfl) hsc _ _ (fun a w hs => res1 hs Tryz.results92 rfl) rfl trivial rfl (give_owne 70 rfl rfl pN (by rw [← hx] <;> rfl) give_nil)
theorem r_minus (v w : Value) (x y : Nat) (hx : bl x ≤ 4294967296) (hxy : y ≤ x) : Cal Tryz.prog 94 #[v, w] [d9p v x, d9p w y] false (G := Value) (fun r => True) (fun r => r) (fun r => [d9p r (x - y)]) := by
 refine cal_in Tryz.func94 rfl Tryz.ntmps94 rfl ⟨rfl, rfl, trivial⟩ ?_
 intro w0 sc hw hsc
 simp only [enumEnv, enumPre]
 have hX := len9_bl x
 have hm := bl_mono hxy
 have hY := len9_bl y
 have hly : (dg 1000000000 y).length ≤ (dg 1000000000 x).length := dg_len_mono two_D hxy
 refine e_seq (e_reg (as_ rfl rfl (l_nil (x_then (e_seq (e_reg (as_ rfl rfl (l_nil (x_then (e_seq (e_reg (as_ rfl rfl (l_nil (x_then (e_seq (e_seq (e_reg (as_ rfl rfl (l_nil (x_then (e_block (e_imp (s_nil 70 1 3 encN) ?_))))))))))))))))))))))
 refine e_lp [(0, _), (1, _)] [(0, _), (1, _), (2, _)] (fun (q : Nat × List Nat × Nat × Value) => [(7, .int .i64 (q.1 : Int)), (6, .int .i64 (q.2.2.1 : Int)), (5, q.2.2.2)]) (fun (q : Nat × List Nat × Nat × Value) => [(70, osl 1 3 encN q.2.2.2 q.2.1)]) (fun (q : Nat × List Nat × Nat × Value) => (q.1 ≤ (dg 1000000000 x).length) ∧ (q.2.1.length = q.1) ∧ (∀ d ∈ q.2.1, d < 1000000000) ∧ (q.2.2.1 ≤ 1) ∧ (val 1000000000 q.2.1 + val 1000000000 ((dg 1000000000 y).take q.1) = val 1000000000 ((dg 1000000000 x).take q.1) + q.2.2.1 * 1000000000 ^ q.1)) (fun (q : Nat × List Nat × Nat × Value) => (dg 1000000000 x).length - q.1) (0, [], 0, .slice none 0 0) ⟨by first | omega | (dsimp only <;> omega), rfl, by simp, by first | omega | (dsimp only <;> omega), by simp [val]⟩ ⟨rfl, rfl, rfl, rfl, rfl, trivial⟩ ⟨rfl, rfl, rfl, rfl, trivial⟩ ?_
 rintro ⟨i, o, c, vo⟩ ⟨hi, hol, hoa, hc, hv⟩
 dsimp only at hi hol hoa hc hv
 simp only [List.cons_append, List.nil_append]
 have hda := (getD_lt D_pos (dg_lt two_D x) i)
 have hdb := (getD_lt D_pos (dg_lt two_D y) i)
 refine e_seq (e_seq (e_reg (mv rfl rfl (mv rfl rfl (dt (d_len rfl rfl (i := 1) rfl rd_slp Tryz.underlying37) rfl ?_)))))
 refine dt (d_lss rfl rfl rfl) rfl ?_
 refine l_nil (x_then (e_cond rfl (fun h79 => ?_) (fun h79 => ?_)))
 ·refine e_skip ?_
  refine x_then (e_seq (e_block (e_seq (e_reg (mv rfl rfl (mv rfl rfl (dt (d_ixa (ii := 1) rfl rfl rfl rfl rd_slp Tryz.underlying37 Tryz.sizeOf3 rfl (by first | omega | (simp only [List.length_set]; omega))) rfl ?_)))))))
  refine dt (d_lde (ii := 1) 0 rfl rfl rfl rd_slp pN (by first | omega | (simp only [List.length_set]; omega))) rfl ?_
  refine mv rfl rfl (dt (d_sub rfl rfl rfl ⟨by omega, by omega⟩) rfl ?_)
  refine as_ rfl rfl (l_nil (x_then (e_jn [(0, _), (1, _), (5, _), (7, _)] [(0, _), (70, _), (1, _), (2, _)] (fun (_ : Unit) => [(8, .int .i64 (((dg 1000000000 x).getD i 0 : Int) - (c : Int) - ((dg 1000000000 y).getD i 0 : Int)))]) (fun (_ : Unit) => []) (fun (_ : Unit) => True) ⟨rfl, rfl, rfl, rfl, trivial⟩ ⟨rfl, rfl, rfl, rfl, trivial⟩ ?_ ?_)))
  ·refine e_seq (e_reg (mv rfl rfl (mv rfl rfl (dt (d_len rfl rfl (i := 2) rfl rd_slp Tryz.underlying37) rfl ?_))))
   refine dt (d_lss rfl rfl rfl) rfl ?_
   refine l_nil (x_then (e_cond rfl (fun h81 => ?_) (fun h81 => ?_)))
   ·refine e_reg (mv rfl rfl (mv rfl rfl (mv rfl rfl (dt (d_ixa (ii := 2) rfl rfl rfl rfl rd_slp Tryz.underlying37 Tryz.sizeOf3 rfl (by first | omega | (simp only [List.length_set]; omega))) rfl ?_))))
    refine dt (d_lde (ii := 2) 0 rfl rfl rfl rd_slp pN (by first | omega | (simp only [List.length_set]; omega))) rfl ?_
    refine dt (d_sub rfl rfl rfl ⟨by omega, by omega⟩) rfl ?_
    refine as_ rfl rfl (l_nil ?_)
    try (have hz : (dg 1000000000 y).getD i 0 = 0 := by simp [List.getD, List.getElem?_eq_none (by omega : (dg 1000000000 y).length ≤ i)])
    exact x_jn () trivial ⟨by first | rfl | (rw [hz]; exact congrArg some (i64_eq (by omega))), rfl, rfl, rfl, rfl, trivial⟩ ⟨rfl, rfl, rfl, rfl, trivial⟩
   ·refine e_skip ?_
    try (have hz : (dg 1000000000 y).getD i 0 = 0 := by simp [List.getD, List.getElem?_eq_none (by omega : (dg 1000000000 y).length ≤ i)])
    exact x_jn () trivial ⟨by first | rfl | (rw [hz]; exact congrArg some (i64_eq (by omega))), rfl, rfl, rfl, rfl, trivial⟩ ⟨rfl, rfl, rfl, rfl, trivial⟩
  ·rintro _ -
   simp only [List.cons_append, List.nil_append]
   refine e_seq (e_reg (as_ rfl rfl (l_nil (x_then (e_jn [(0, _), (1, _), (5, _), (7, _)] [(0, _), (70, _), (1, _), (2, _)] (fun (_ : Unit) => [(8, .int .i64 ((d9s ((dg 1000000000 x).getD i 0) ((dg 1000000000 y).getD i 0) c : Nat) : Int)), (6, .int .i64 ((brw ((dg 1000000000 x).getD i 0) ((dg 1000000000 y).getD i 0) c : Nat) : Int))]) (fun (_ : Unit) => []) (fun (_ : Unit) => True) ⟨rfl, rfl, rfl, rfl, trivial⟩ ⟨rfl, rfl, rfl, rfl, trivial⟩ ?_ ?_)))))
   ·refine e_seq (e_reg (mv rfl rfl (dt (d_lss rfl rfl rfl) rfl ?_)))
    refine l_nil (x_then (e_cond rfl (fun h85 => ?_) (fun h85 => ?_)))
    ·refine e_reg (mv rfl rfl (dt (d_add rfl rfl rfl ⟨by omega, by omega⟩) rfl ?_))
     refine as_ rfl rfl (as_ rfl rfl (l_nil ?_))
     exact x_jn () trivial ⟨by exact congrArg some (i64_eq (by unfold d9s; split <;> omega)), by exact congrArg some (i64_eq (by unfold brw; split <;> omega)), rfl, rfl, rfl, rfl, trivial⟩ ⟨rfl, rfl, rfl, rfl, trivial⟩
    ·refine e_skip ?_
     exact x_jn () trivial ⟨by exact congrArg some (i64_eq (by unfold d9s; split <;> omega)), by exact congrArg some (i64_eq (by unfold brw; split <;> omega)), rfl, rfl, rfl, rfl, trivial⟩ ⟨rfl, rfl, rfl, rfl, trivial⟩
   ·rintro _ -
    simp only [List.cons_append, List.nil_append]
    refine e_reg (mv rfl rfl (mv rfl rfl (tt (t_bsg (i := 3) (ivs := [(0, _)]) (enc := encN) [d9s ((dg 1000000000 x).getD i 0) ((dg 1000000000 y).getD i 0) c] rfl rfl rfl ⟨rfl, rfl, trivial⟩ Tryz.underlying37 Tryz.ti3 rfl rfl rfl rfl rfl rfl pN.cells rfl rfl hw) rfl (fun v _ => ?_))))
    refine tt (t_appa (i := 70) (j := 3) (by_ := 8) rfl rfl rfl rfl rfl rfl (by decide) rfl (rd_osl pN) Tryz.underlying37 Tryz.ti3 rfl pN rfl rfl rfl (by simp; omega) (by decide) rfl hw) rfl (fun v_2 _ => ?_)
    refine as_ rfl rfl (l_nil (x_bn ?_))
    refine x_then (e_reg (mv rfl rfl (dt (d_add rfl rfl rfl ⟨by omega, by omega⟩) rfl ?_)))
    refine as_ rfl rfl (l_nil ?_)
    exact x_rnd (i + 1, o ++ [d9s ((dg 1000000000 x).getD i 0) ((dg 1000000000 y).getD i 0) c], brw ((dg 1000000000 x).getD i 0) ((dg 1000000000 y).getD i 0) c, _) ⟨by first | omega | (dsimp only <;> omega), by simp [hol], all_snoc hoa (d9s_int hda hdb hc).1, brw_le _ _ _, minus_step hc hda hdb hol hv⟩ (by first | omega | (dsimp only <;> omega)) ⟨rfl, rfl, rfl, rfl, rfl, trivial⟩ ⟨rfl, rfl, rfl, rfl, trivial⟩
 ·refine e_exit ?_
  refine x_exit (x_exit (x_be ?_))
  refine x_then (e_seq (e_reg (mv rfl rfl (tt (t_call (n := 3) (r_trim_own _ _) rfl rfl rfl ⟨rfl, trivial⟩ Tryz.call60 (pre_lend 70 rfl rfl pN pre_nil) rfl hw) rfl (fun _ _ => ?_)))))
  refine l_imp (s_tz 70 rfl rfl pN) ?_
  refine as_ rfl rfl (l_nil (x_then (e_ret ?_)))
  obtain rfl : i = (dg 1000000000 x).length := by omega
  have hx : tz o = dg 1000000000 (x - y) := by
   rw [← dg_val two_D _ hoa]
   congr 1
   rw [val_take_all _ (dg 1000000000 y) _ hly, val_take_all _ (dg 1000000000 x) _ (Nat.le_refl _), val_dg two_D, val_dg two_D] at hv
   have h1 := val_lt D_pos o hoa
   rw [hol] at h1
   have h0 : c = 0 ∨ c = 1 := by omega
   rcases h0 with rfl | rfl <;> omega
  exact x_end (.inl rfl) hsc _ _ (fun a w hs => res1 hs Tryz.results94 rfl) rfl trivial rfl (give_owne 70 rfl rfl pN (by rw [hx] <;> rfl) give_nil)
set_option maxHeartbeats 4000000 in
theorem r_times (v w : Value) (x y : Nat) (hx : bl x ≤ 4294967296) (hy : bl y ≤ 4294967296) : Cal Tryz.prog 96 #[v, w] [d9p v x, d9p w y] false (G := Value) (fun r => True) (fun r => r) (fun r => [d9p r (x * y)]) := by
 refine cal_in Tryz.func96 rfl Tryz.ntmps96 rfl ⟨rfl, rfl, trivial⟩ ?_
 intro w0 sc hw hsc
 simp only [enumEnv, enumPre]
 have hX := len9_bl x
 have hY := len9_bl y
 refine e_seq (e_reg (as_ rfl rfl (l_nil (x_then (e_seq (e_reg (mv rfl rfl (dt (d_len rfl rfl (i := 1) rfl rd_slp Tryz.underlying37) rfl ?_))))))))
 refine mv rfl rfl (dt (d_len rfl rfl (i := 2) rfl rd_slp Tryz.underlying37) rfl ?_)
 refine dt (d_add rfl rfl rfl ⟨by omega, by omega⟩) rfl ?_
 refine tt (t_mkn (i := 3) (n := ((dg 1000000000 x).length + (dg 1000000000 y).length)) (by_ := 8) (enc := encN) 0 rfl rfl rfl rfl rfl (by omega) Tryz.underlying37 Tryz.ti3 rfl pN.cells pN.pos rfl rfl (by omega) (by decide) rfl hw) rfl (fun v _ => ?_)
 refine as_ rfl rfl (l_nil (x_then (e_seq (e_seq (e_reg (as_ rfl rfl (l_nil (x_then (e_block (e_lp [(0, _), (1, _), (5, _)] [(0, _), (1, _), (2, _)] (fun (q : Nat × List Nat) => [(6, .int .i64 (q.1 : Int))]) (fun (q : Nat × List Nat) => [(3, osl 1 3 encN v q.2)]) (fun (q : Nat × List Nat) => (q.1 ≤ (dg 1000000000 x).length) ∧ (q.2.length = ((dg 1000000000 x).length + (dg 1000000000 y).length)) ∧ (∀ d ∈ q.2, d < 1000000000) ∧ (∀ j, q.1 + (dg 1000000000 y).length ≤ j → q.2.getD j 0 = 0) ∧ (val 1000000000 q.2 = val 1000000000 ((dg 1000000000 x).take q.1) * y)) (fun (q : Nat × List Nat) => (dg 1000000000 x).length - q.1) (0, List.replicate ((dg 1000000000 x).length + (dg 1000000000 y).length) 0) ⟨by first | omega | (dsimp only <;> omega), by simp, all_replicate _ D_pos, fun j _ => getD_replicate _ j, by simp [val, val_replicate]⟩ ⟨rfl, rfl, rfl, rfl, trivial⟩ ⟨rfl, rfl, rfl, rfl, trivial⟩ ?_))))))))))
 rintro ⟨i, o⟩ ⟨hi, hol, hoa, hz0, hv⟩
 dsimp only at hi hol hoa hz0 hv
 simp only [List.cons_append, List.nil_append]
 refine e_seq (e_seq (e_reg (mv rfl rfl (mv rfl rfl (dt (d_len rfl rfl (i := 1) rfl rd_slp Tryz.underlying37) rfl ?_)))))
 refine dt (d_lss rfl rfl rfl) rfl ?_
 refine l_nil (x_then (e_cond rfl (fun h96 => ?_) (fun h96 => ?_)))
 ·refine e_skip ?_
  refine x_then (e_seq (e_block (e_seq (e_reg (as_ rfl rfl (l_nil (x_then (e_seq (e_reg (as_ rfl rfl (l_nil (x_then (e_block (e_lp [(0, _), (1, _), (5, _), (6, _)] [(0, _), (1, _), (2, _)] (fun (q : Nat × List Nat × Nat) => [(8, .int .i64 (q.1 : Int)), (7, .int .i64 (q.2.2 : Int))]) (fun (q : Nat × List Nat × Nat) => [(3, osl 1 3 encN v q.2.1)]) (fun (q : Nat × List Nat × Nat) => (q.1 ≤ (dg 1000000000 y).length + 1 ∧ (q.1 = (dg 1000000000 y).length + 1 → q.2.2 = 0)) ∧ (q.2.1.length = ((dg 1000000000 x).length + (dg 1000000000 y).length)) ∧ (∀ d ∈ q.2.1, d < 1000000000) ∧ (∀ j, i + q.1 ≤ j → i + (dg 1000000000 y).length ≤ j → q.2.1.getD j 0 = 0) ∧ (q.2.2 < 1000000000) ∧ (val 1000000000 q.2.1 + q.2.2 * 1000000000 ^ (i + q.1) = val 1000000000 ((dg 1000000000 x).take i) * y + (dg 1000000000 x).getD i 0 * 1000000000 ^ i * val 1000000000 ((dg 1000000000 y).take q.1))) (fun (q : Nat × List Nat × Nat) => (dg 1000000000 y).length + 1 - q.1) (0, o, 0) ⟨⟨by omega, by omega⟩, hol, hoa, fun j _ h => hz0 j h, by first | omega | (dsimp only <;> omega), by rw [hv]; simp [val]⟩ ⟨rfl, rfl, rfl, rfl, rfl, rfl, trivial⟩ ⟨rfl, rfl, rfl, rfl, trivial⟩ ?_))))))))))))))
  rintro ⟨k, p, c⟩ ⟨hk, hpl, hpa, hpz, hcU, hpv⟩
  dsimp only at hk hpl hpa hpz hcU hpv
  simp only [List.cons_append, List.nil_append]
  have hdig := times_digit (getD_lt D_pos (dg_lt two_D x) i) (getD_lt D_pos (dg_lt two_D y) k) (getD_lt D_pos hpa (i + k)) hcU
  refine e_seq (e_jn [(0, _), (1, _), (5, _), (6, _), (7, _), (8, _)] [(0, _), (3, _), (1, _), (2, _)] (fun (_ : Unit) => [(29, .bool (decide (k < (dg 1000000000 y).length ∨ 0 < c)))]) (fun (_ : Unit) => []) (fun (_ : Unit) => True) ⟨rfl, rfl, rfl, rfl, rfl, rfl, trivial⟩ ⟨rfl, rfl, rfl, rfl, trivial⟩ ?_ ?_)
  ·refine e_reg (mv rfl rfl (mv rfl rfl (dt (d_len rfl rfl (i := 2) rfl rd_slp Tryz.underlying37) rfl ?_)))
   refine dt (d_lss rfl rfl rfl) rfl ?_
   refine mv rfl rfl (l_split (d := 26) rfl (fun s98 => ?_) (fun s98 => ?_))
   ·refine gsk rfl rfl rfl rfl rfl (gsk rfl rfl rfl rfl rfl (dt (d_pickt rfl rfl rfl) rfl ?_))
    refine l_nil ?_
    exact x_jn () trivial ⟨by first | exact congrArg some (congrArg Value.bool (decide_eq_decide.2 (by omega))) | exact congrArg some (congrArg Value.bool (decide_eq_true (by omega)).symm), rfl, rfl, rfl, rfl, rfl, rfl, trivial⟩ ⟨rfl, rfl, rfl, rfl, trivial⟩
   ·refine gdt (d_mv rfl rfl) rfl rfl rfl rfl ?_
    refine gdt (d_gtr rfl rfl rfl) rfl rfl rfl rfl ?_
    refine dt (d_pickf rfl rfl rfl) rfl ?_
    refine l_nil ?_
    exact x_jn () trivial ⟨by first | exact congrArg some (congrArg Value.bool (decide_eq_decide.2 (by omega))) | exact congrArg some (congrArg Value.bool (decide_eq_true (by omega)).symm), rfl, rfl, rfl, rfl, rfl, rfl, trivial⟩ ⟨rfl, rfl, rfl, rfl, trivial⟩
  ·rintro _ -
   simp only [List.cons_append, List.nil_append]
   refine e_cond rfl (fun h98 => ?_) (fun h98 => ?_)
   ·refine e_skip ?_
    refine x_then (e_seq (e_block (e_seq (e_reg (mv rfl rfl (mv rfl rfl (mv rfl rfl (dt (n_add rfl rfl rfl (by omega)) rfl ?_))))))))
    refine dt (d_ixa (ii := 3) (i := (i + k)) rfl rfl rfl rfl (rd_osl pN) Tryz.underlying37 Tryz.sizeOf3 (by omega) (by omega)) rfl ?_
    refine dt (d_lde (ii := 3) 0 rfl rfl rfl (rd_osl pN) pN (by omega)) rfl ?_
    refine mv rfl rfl (dt (n_add rfl rfl rfl (by have h1 := getD_lt D_pos hpa (i + k); omega)) rfl ?_)
    refine as_ rfl rfl (l_nil (x_then (e_jn [(0, _), (1, _), (5, _), (6, _), (8, _)] [(0, _), (3, _), (1, _), (2, _)] (fun (_ : Unit) => [(9, .int .i64 ((p.getD (i + k) 0 + c + (dg 1000000000 x).getD i 0 * (dg 1000000000 y).getD k 0 : Nat) : Int))]) (fun (_ : Unit) => []) (fun (_ : Unit) => True) ⟨rfl, rfl, rfl, rfl, rfl, trivial⟩ ⟨rfl, rfl, rfl, rfl, trivial⟩ ?_ ?_)))
    ·refine e_seq (e_reg (mv rfl rfl (mv rfl rfl (dt (d_len rfl rfl (i := 2) rfl rd_slp Tryz.underlying37) rfl ?_))))
     refine dt (d_lss rfl rfl rfl) rfl ?_
     refine l_nil (x_then (e_cond rfl (fun h100 => ?_) (fun h100 => ?_)))
     ·refine e_dreg (fun _ => False) [(0, 0), (1, 0), (2, 0), (3, 0), (4, 0), (5, 0), (6, 0), (7, 0), (8, 0), (9, 0), (10, 0), (11, 3)] (by kernel_rfl) ?_ ?_
      ·kernel_rfl
      refine r0' rfl rfl rfl rfl (st0 (d_mv rfl rfl)) ?_
      refine r0' rfl rfl rfl rfl (st0 (d_mv rfl rfl)) ?_
      refine r0' rfl rfl rfl rfl (st0 (d_mv rfl rfl)) ?_
      refine r0' rfl rfl rfl rfl (st0 (d_ixa (ii := 1) rfl rfl rfl rfl rd_slp Tryz.underlying37 Tryz.sizeOf3 rfl (by first | omega | (simp only [List.length_set]; omega)))) ?_
      refine r0' rfl rfl rfl rfl (st0 (d_lde (ii := 1) 0 rfl rfl rfl rd_slp pN (by first | omega | (simp only [List.length_set]; omega)))) ?_
      refine r0' rfl rfl rfl rfl (st0 (d_mv rfl rfl)) ?_
      refine r0' rfl rfl rfl rfl (st0 (d_mv rfl rfl)) ?_
      refine r0' rfl rfl rfl rfl (st0 (d_ixa (ii := 2) rfl rfl rfl rfl rd_slp Tryz.underlying37 Tryz.sizeOf3 rfl (by first | omega | (simp only [List.length_set]; omega)))) ?_
      refine r0' rfl rfl rfl rfl (st0 (d_lde (ii := 2) 0 rfl rfl rfl rd_slp pN (by first | omega | (simp only [List.length_set]; omega)))) ?_
      refine r0' rfl rfl rfl rfl (st0 (n_mul rfl rfl rfl (by have h1 := hdig.2; omega))) ?_
      refine r0' rfl rfl rfl rfl (st0 (n_add rfl rfl rfl hdig.2)) ?_
      refine r3' rfl rfl (t_det (d_as rfl rfl) rfl rfl) (fun _ _ => ?_)
      refine r_end ?_
      try (have hz : (dg 1000000000 y).getD k 0 = 0 := dg_getD0 (by omega))
      exact x_jn () trivial ⟨by first | rfl | (rw [hz, Nat.mul_zero]; rfl), rfl, rfl, rfl, rfl, rfl, trivial⟩ ⟨rfl, rfl, rfl, rfl, trivial⟩
     ·refine e_skip ?_
      try (have hz : (dg 1000000000 y).getD k 0 = 0 := dg_getD0 (by omega))
      exact x_jn () trivial ⟨by first | rfl | (rw [hz, Nat.mul_zero]; rfl), rfl, rfl, rfl, rfl, rfl, trivial⟩ ⟨rfl, rfl, rfl, rfl, trivial⟩
    ·rintro _ -
     simp only [List.cons_append, List.nil_append]
     refine e_seq (e_reg (mv rfl rfl (mv rfl rfl (mv rfl rfl (dt (n_add rfl rfl rfl (by omega)) rfl ?_)))))
     refine mv rfl rfl (dt (n_rem (n := 1000000000) rfl rfl rfl (by omega)) rfl ?_)
     refine dt (d_ixa (ii := 3) (i := (i + k)) rfl rfl rfl rfl (rd_osl pN) Tryz.underlying37 Tryz.sizeOf3 (by omega) (by omega)) rfl ?_
     refine tt (t_ste (i := 3) (enc := encN) _ rfl rfl rfl rfl rfl rfl (by decide) pN (by omega) rfl hw) rfl (fun _ _ => ?_)
     refine l_nil (x_then (e_reg (mv rfl rfl (dt (n_quo (n := 1000000000) rfl rfl rfl hdig.2 (by omega)) rfl ?_))))
     refine as_ rfl rfl (l_nil (x_bn ?_))
     refine x_then (e_reg (mv rfl rfl (dt (d_add rfl rfl rfl ⟨by omega, by omega⟩) rfl ?_)))
     refine as_ rfl rfl (l_nil ?_)
     exact x_rnd (k + 1, _, _) ⟨⟨by dsimp only; omega, fun h => by dsimp only at h ⊢; rw [dg_getD0 (by omega : (dg 1000000000 y).length ≤ k), hpz (i + k) (by omega) (by omega), Nat.mul_zero]; omega⟩, by simp; omega, all_set hpa _ _ (Nat.mod_lt _ D_pos), fun j hj hj2 => by dsimp only at hj ⊢; rw [getD_set _ _ _ _ _ (by omega), if_neg (by omega)]; exact hpz j (by omega) hj2, hdig.1, times_step hpv (by omega)⟩ (by first | omega | (dsimp only <;> omega)) ⟨rfl, rfl, rfl, rfl, rfl, rfl, trivial⟩ ⟨rfl, rfl, rfl, rfl, trivial⟩
   ·refine e_exit ?_
    refine x_exit (x_exit (x_be ?_))
    refine x_bn ?_
    refine x_then (e_reg (mv rfl rfl (dt (d_add rfl rfl rfl ⟨by omega, by omega⟩) rfl ?_)))
    refine as_ rfl rfl (l_nil ?_)
    have hc0 : c = 0 := by omega
    have hvf := hpv
    rw [hc0, Nat.zero_mul, Nat.add_zero, take_dg_all (x := y) (k := k) two_D (by omega)] at hvf
    exact x_rnd (i + 1, _) ⟨by first | omega | (dsimp only <;> omega), hpl, hpa, fun j hj => hpz j (by dsimp only at hj; omega) (by dsimp only at hj; omega), by dsimp only; rw [hvf, val_take_succ, Nat.add_mul]⟩ (by first | omega | (dsimp only <;> omega)) ⟨rfl, rfl, rfl, rfl, trivial⟩ ⟨rfl, rfl, rfl, rfl, trivial⟩
 ·refine e_exit ?_
  refine x_exit (x_exit (x_be ?_))
  refine x_then (e_seq (e_reg (mv rfl rfl (tt (t_call (n := 3) (r_trim_own _ _) rfl rfl rfl ⟨rfl, trivial⟩ Tryz.call60 (pre_lend 3 rfl rfl pN pre_nil) rfl hw) rfl (fun _ _ => ?_)))))
  refine l_imp (s_tz 3 rfl rfl pN) ?_
  refine as_ rfl rfl (l_nil (x_then (e_ret ?_)))
  obtain rfl : i = (dg 1000000000 x).length := by omega
  have hx : tz o = dg 1000000000 (x * y) := by
   rw [← dg_val two_D _ hoa, hv, take_dg_all two_D (Nat.le_refl _)]
  exact x_end (.inl rfl) hsc _ _ (fun a w hs => res1 hs Tryz.results96 rfl) rfl trivial rfl (give_owne 3 rfl rfl pN (by rw [hx] <;> rfl) give_nil)
theorem r_small (v : Value) (x n : Nat) (hx : bl x ≤ 4294967296) (hn : n < 1000000000) : Cal Tryz.prog 97 #[v, .int .i64 (n : Int)] [d9p v x] true (G := Value) (fun r => True) (fun r => r) (fun r => [d9p r (x * n)]) := by
 refine cal_in Tryz.func97 rfl Tryz.ntmps97 rfl ⟨rfl, trivial⟩ ?_
 intro w0 sc hw hsc
 simp only [enumEnv, enumPre]
 refine e_seq (e_reg (as_ rfl rfl (l_nil (x_then (e_seq (e_seq (e_reg (mv rfl rfl (dt (d_eql rfl rfl rfl) rfl ?_)))))))))
 refine l_nil (x_then (e_cond rfl (fun h112 => ?_) (fun h112 => ?_)))
 ·refine e_seq (e_reg (as_ rfl rfl (l_nil (x_then (e_ret (x_ret ?_))))))
  refine x_imp (s_nil 9 1 3 encN) ?_
  exact x_end (.inl rfl) hsc (.slice none 0 0) _ (fun a w hs => res1 hs Tryz.results97 rfl) rfl trivial rfl (give_owne 9 rfl rfl pN (by rw [show n = 0 by omega, Nat.mul_zero] <;> rfl) give_nil)
 ·have hn0 : n ≠ 0 := by omega
  refine e_skip ?_
  refine x_then (e_seq (e_reg (mv rfl rfl (mv rfl rfl (tt (t_bsg (i := 70) (ivs := [(0, _)]) (enc := encN) [n] rfl rfl rfl ⟨rfl, rfl, trivial⟩ Tryz.underlying37 Tryz.ti3 rfl rfl rfl rfl rfl rfl pN.cells rfl rfl hw) rfl (fun v _ => ?_))))))
  refine l_imp (s_oeq 70 (dg_digit two_D hn hn0).symm rfl rfl) ?_
  refine tt (t_call (n := 2) (r_times _ _ _ n hx (by have := (bl_le 30 n).2 (by omega); omega)) rfl rfl rfl ⟨rfl, rfl, trivial⟩ Tryz.call96 (pre_same 1 rfl rfl rfl (pre_lend 70 rfl rfl pN pre_nil)) rfl hw) rfl (fun v_2 _ => ?_)
  refine as_ rfl rfl (l_nil (x_then (e_ret ?_)))
  exact x_end (.inl rfl) hsc _ _ (fun a w hs => res1 hs Tryz.results97 rfl) rfl trivial rfl (give_same 2 rfl rfl rfl give_nil)
set_option maxHeartbeats 4000000 in
theorem r_over (v w : Value) (x y : Nat) (hx : bl x ≤ 4000000000) (hy : bl y ≤ 4000000000) (hy0 : 0 < y) : Cal Tryz.prog 112 #[v, w] [d9p v x, d9p w y] true (G := Value × Value) (fun r => True) (fun r => .tuple #[r.1, r.2]) (fun r => [d9p r.1 (x / y), d9p r.2 (x % y)]) := by
 refine cal_in Tryz.func112 rfl Tryz.ntmps112 rfl ⟨rfl, rfl, trivial⟩ ?_
 intro w0 sc hw hsc
 simp only [enumEnv, enumPre]
 have hX := len9_bl x
 have hY := len9_bl y
 refine e_seq (e_reg (as_ rfl rfl (as_ rfl rfl (l_nil (x_then (e_seq (e_reg (mv rfl rfl (dt (d_len rfl rfl (i := 1) rfl rd_slp Tryz.underlying37) rfl ?_)))))))))
 refine tt (t_mkn (i := 3) (n := (dg 1000000000 x).length) (by_ := 8) (enc := encN) 0 rfl rfl rfl rfl rfl (by omega) Tryz.underlying37 Tryz.ti3 rfl pN.cells pN.pos rfl rfl (by omega) (by decide) rfl hw) rfl (fun v _ => ?_)
 refine as_ rfl rfl (l_nil (x_then (e_seq (e_reg (as_ rfl rfl (l_nil (x_then (e_seq (e_seq (e_reg (mv rfl rfl (dt (d_len rfl rfl (i := 1) rfl rd_slp Tryz.underlying37) rfl ?_))))))))))))
 refine dt (d_sub rfl rfl rfl ⟨by omega, by omega⟩) rfl ?_
 refine as_ rfl rfl (l_nil (x_then (e_block (e_imp (s_nil 71 1 3 encN) ?_))))
 refine e_imp (s_pub 71 rfl rfl pN) ?_
 refine e_lp [(0, _), (1, _), (6, _)] [(0, _), (1, _), (2, _)] (fun (q : Nat × List Nat × Nat × Value) => [(8, .int .i64 ((q.1 : Int) - 1)), (7, q.2.2.2)]) (fun (q : Nat × List Nat × Nat × Value) => [(3, osl 1 3 encN v q.2.1), (71, d9p q.2.2.2 q.2.2.1)]) (fun (q : Nat × List Nat × Nat × Value) => (q.1 ≤ (dg 1000000000 x).length) ∧ (q.2.1.length = (dg 1000000000 x).length) ∧ (∀ d ∈ q.2.1, d < 1000000000) ∧ (∀ j, j < q.1 → q.2.1.getD j 0 = 0) ∧ (val 1000000000 (q.2.1.drop q.1) * y + q.2.2.1 = x / 1000000000 ^ q.1) ∧ (q.2.2.1 < y)) (fun (q : Nat × List Nat × Nat × Value) => q.1) ((dg 1000000000 x).length, List.replicate (dg 1000000000 x).length 0, 0, .slice none 0 0) ⟨Nat.le_refl _, by simp, all_replicate _ D_pos, fun j _ => getD_replicate _ j, by dsimp only; rw [Nat.div_eq_of_lt ((dg_length_le two_D _ x).1 (Nat.le_refl _))]; simp [val], hy0⟩ ⟨rfl, rfl, rfl, rfl, rfl, trivial⟩ ⟨rfl, rfl, rfl, rfl, rfl, trivial⟩ ?_
 rintro ⟨k, q, r, vr⟩ ⟨hk, hql, hqa, hqz, hv, hr⟩
 dsimp only at hk hql hqa hqz hv hr
 simp only [List.cons_append, List.nil_append]
 refine e_seq (e_seq (e_reg (mv rfl rfl (dt (d_geq rfl rfl rfl) rfl ?_))))
 refine l_nil (x_then (e_cond rfl (fun h122 => ?_) (fun h122 => ?_)))
 ·have hk0 : 0 < k := by omega
  have ha9 := getD_lt D_pos (dg_lt two_D x) (k - 1)
  have hdig : x / 1000000000 ^ (k - 1) = x / 1000000000 ^ k * 1000000000 + (dg 1000000000 x).getD (k - 1) 0 := by rw [dg_getD two_D]; exact (over_digit hk0).symm
  rw [← hv, Nat.add_mul] at hdig
  have hrb := bl_over hr ha9
  have hQ9 := over_Q hr ha9
  refine e_skip ?_
  refine x_then (e_seq (e_block (e_seq (e_reg (mv rfl rfl (mv rfl rfl (dt (d_ixa (ii := 1) (i := (k - 1)) rfl rfl rfl rfl rd_slp Tryz.underlying37 Tryz.sizeOf3 (by omega) (by omega)) rfl ?_)))))))
  refine dt (d_lde (ii := 1) 0 rfl rfl rfl rd_slp pN (by omega)) rfl ?_
  refine tt (t_bsg (i := 72) (ivs := [(0, _)]) (enc := encN) [(dg 1000000000 x).getD (k - 1) 0] rfl rfl rfl ⟨rfl, rfl, trivial⟩ Tryz.underlying37 Tryz.ti3 rfl rfl rfl rfl rfl rfl pN.cells rfl rfl hw) rfl (fun v_2 _ => ?_)
  refine mv rfl rfl (tt (t_appa (i := 72) (j := 71) (by_ := 8) rfl rfl rfl rfl rfl rfl (by decide) rfl rd_slp Tryz.underlying37 Tryz.ti3 rfl pN rfl rfl rfl (by have h8 := len9_bl r; have h9 := bl_mono (Nat.le_of_lt hr); simp; omega) (by decide) rfl hw) rfl (fun v_3 _ => ?_))
  refine tt (t_call (n := 3) (r_trim_own _ _) rfl rfl rfl ⟨rfl, trivial⟩ Tryz.call60 (pre_lend 72 rfl rfl pN pre_nil) rfl hw) rfl (fun _ _ => ?_)
  refine l_imp (s_tz 72 rfl rfl pN) ?_
  refine l_imp (s_oeq 72 (tz_cons two_D ha9) rfl rfl) ?_
  refine l_imp (s_pub 72 rfl rfl pN) ?_
  refine as_ rfl rfl (l_nil (x_then (e_seq (e_seq (e_reg (mv rfl rfl (mv rfl rfl (tt (t_call (n := 3) (r_order _ _ _ _ (by omega) (by omega)) rfl rfl rfl ⟨rfl, rfl, trivial⟩ Tryz.call93 (pre_same 72 rfl rfl rfl (pre_same 2 rfl rfl rfl pre_nil)) rfl hw) rfl (fun _ _ => ?_)))))))))
  refine dt (d_lss rfl rfl rfl) rfl ?_
  refine l_nil (x_then (e_cond rfl (fun h124 => ?_) (fun h124 => ?_)))
  ·have hlt : (r * 1000000000 + (dg 1000000000 x).getD (k - 1) 0) < y := cmpI_neg.1 h124
   refine e_exit ?_
   refine x_exit (x_be ?_)
   refine x_then (e_reg (mv rfl rfl (dt (d_sub rfl rfl rfl ⟨by omega, by omega⟩) rfl ?_)))
   refine as_ rfl rfl (l_nil (x_imp (s_dup 72 71 rfl rfl rfl) ?_))
   have h2 := drop_val0 hk0 (by omega : k ≤ q.length) (hqz (k - 1) (by omega))
   exact x_rnd (k - 1, q, (r * 1000000000 + (dg 1000000000 x).getD (k - 1) 0), _) ⟨by first | omega | (dsimp only <;> omega), by first | omega | (dsimp only <;> omega), by first | omega | (dsimp only <;> omega), fun j hj => hqz j (by dsimp only at hj; omega), by have h9 : 1000000000 * val 1000000000 (q.drop k) * y = val 1000000000 (q.drop k) * y * 1000000000 := (by rw [Nat.mul_assoc, Nat.mul_comm]); dsimp only; rw [h2, hdig, h9]; omega, hlt⟩ (by first | omega | (dsimp only <;> omega)) ⟨by rw [show (((k - 1 : Nat) : Int) - 1) = (k : Int) - 1 - 1 by omega]; rfl, rfl, rfl, rfl, rfl, trivial⟩ ⟨rfl, rfl, rfl, rfl, rfl, trivial⟩
  ·have hge : y ≤ (r * 1000000000 + (dg 1000000000 x).getD (k - 1) 0) := by have := mt cmpI_neg.2 h124; omega
   refine e_skip ?_
   refine x_then (e_seq (e_reg (as_ rfl rfl (as_ rfl rfl (l_nil (x_then (e_seq (e_block (e_lp [(0, _), (1, _), (6, _), (7, _), (8, _)] [(0, _), (3, _), (71, _), (1, _), (2, _), (72, _)] (fun (q : Nat × Nat) => [(9, .int .i64 (q.1 : Int)), (10, .int .i64 (q.2 : Int))]) (fun (q : Nat × Nat) => []) (fun (q : Nat × Nat) => (q.1 ≤ (r * 1000000000 + (dg 1000000000 x).getD (k - 1) 0) / y) ∧ ((r * 1000000000 + (dg 1000000000 x).getD (k - 1) 0) / y ≤ q.2) ∧ (q.2 < 1000000000)) (fun (q : Nat × Nat) => q.2 - q.1) (0, 999999999) ⟨Nat.zero_le _, by omega, by first | omega | (dsimp only <;> omega)⟩ ⟨rfl, rfl, rfl, rfl, rfl, rfl, rfl, trivial⟩ ⟨rfl, rfl, rfl, rfl, rfl, rfl, trivial⟩ ?_)))))))))
   rintro ⟨lo, hi⟩ ⟨hlo, hhi, hh9⟩
   dsimp only at hlo hhi hh9
   simp only [List.cons_append, List.nil_append]
   have hmid : (lo + hi + 1) / 2 < 1000000000 := by omega
   refine e_seq (e_seq (e_reg (mv rfl rfl (mv rfl rfl (dt (d_lss rfl rfl rfl) rfl ?_)))))
   refine l_nil (x_then (e_cond rfl (fun h128 => ?_) (fun h128 => ?_)))
   ·refine e_skip ?_
    refine x_then (e_block (e_seq (e_reg (mv rfl rfl (mv rfl rfl (dt (n_add rfl rfl rfl (by omega)) rfl ?_))))))
    refine dt (n_add (n := 1) rfl rfl rfl (by omega)) rfl ?_
    refine dt (n_quo (n := 2) rfl rfl rfl (by omega) (by omega)) rfl ?_
    refine as_ rfl rfl (l_nil (x_then (e_seq (e_reg (mv rfl rfl (mv rfl rfl (tt (t_call (n := 4) (r_small _ _ _ (by omega) (by omega)) rfl rfl rfl ⟨rfl, rfl, trivial⟩ Tryz.call97 (pre_same 2 rfl rfl rfl pre_nil) rfl hw) rfl (fun v_4 _ => ?_))))))))
    refine mv rfl rfl (tt (t_call (n := 4) (r_order _ _ _ _ (by have := bl_small (y := y) hmid; omega) (by omega)) rfl rfl rfl ⟨rfl, rfl, trivial⟩ Tryz.call93 (pre_same 4 rfl rfl rfl (pre_same 72 rfl rfl rfl pre_nil)) rfl hw) rfl (fun _ _ => ?_))
    refine dt (d_leq rfl rfl rfl) rfl ?_
    refine l_nil (x_then (e_cond rfl (fun h130 => ?_) (fun h130 => ?_)))
    ·have hcm : y * ((lo + hi + 1) / 2) ≤ (r * 1000000000 + (dg 1000000000 x).getD (k - 1) 0) := cmpI_le.1 h130
     refine e_reg (mv rfl rfl (as_ rfl rfl (l_nil (x_bn ?_))))
     exact x_rnd ((lo + hi + 1) / 2, hi) ⟨(Nat.le_div_iff_mul_le hy0).2 (by rw [Nat.mul_comm]; exact hcm), by first | omega | (dsimp only <;> omega), by first | omega | (dsimp only <;> omega)⟩ (by first | omega | (dsimp only <;> omega)) ⟨rfl, rfl, rfl, rfl, rfl, rfl, rfl, trivial⟩ ⟨rfl, rfl, rfl, rfl, rfl, rfl, trivial⟩
    ·have hcm : (r * 1000000000 + (dg 1000000000 x).getD (k - 1) 0) < y * ((lo + hi + 1) / 2) := by have := mt cmpI_le.2 h130; omega
     refine e_reg (mv rfl rfl (dt (d_sub rfl rfl rfl ⟨by omega, by omega⟩) rfl ?_))
     refine as_ rfl rfl (l_nil (x_bn ?_))
     exact x_rnd (lo, (lo + hi + 1) / 2 - 1) ⟨by first | omega | (dsimp only <;> omega), by have h7 := (Nat.div_lt_iff_lt_mul hy0).2 (show (r * 1000000000 + (dg 1000000000 x).getD (k - 1) 0) < (lo + hi + 1) / 2 * y by have h6 := Nat.mul_comm ((lo + hi + 1) / 2) y; omega); dsimp only; omega, by first | omega | (dsimp only <;> omega)⟩ (by first | omega | (dsimp only <;> omega)) ⟨rfl, by rw [show (((lo + hi + 1) / 2 - 1 : Nat) : Int) = (((lo + hi + 1) / 2 : Nat) : Int) - 1 by omega]; rfl, rfl, rfl, rfl, rfl, rfl, trivial⟩ ⟨rfl, rfl, rfl, rfl, rfl, rfl, trivial⟩
   ·have hloQ : lo = (r * 1000000000 + (dg 1000000000 x).getD (k - 1) 0) / y := by omega
    refine e_exit ?_
    refine x_exit (x_exit (x_be ?_))
    refine x_then (e_seq (e_reg (mv rfl rfl (mv rfl rfl (mv rfl rfl (dt (d_ixa (ii := 3) (i := (k - 1)) rfl rfl rfl rfl (rd_osl pN) Tryz.underlying37 Tryz.sizeOf3 (by omega) (by omega)) rfl ?_))))))
    refine tt (t_ste (i := 3) (enc := encN) _ rfl rfl rfl rfl rfl rfl (by decide) pN (by omega) rfl hw) rfl (fun _ _ => ?_)
    refine l_nil (x_then (e_reg (mv rfl rfl (mv rfl rfl (mv rfl rfl (tt (t_call (n := 5) (r_small _ _ _ (by omega) (by omega)) rfl rfl rfl ⟨rfl, rfl, trivial⟩ Tryz.call97 (pre_same 2 rfl rfl rfl pre_nil) rfl hw) rfl (fun v_5 _ => ?_)))))))
    refine tt (t_call (n := 6) (r_minus _ _ _ _ (by omega) (by rw [hloQ]; exact Nat.mul_div_le _ _)) rfl rfl rfl ⟨rfl, rfl, trivial⟩ Tryz.call94 (pre_same 72 rfl rfl rfl (pre_same 5 rfl rfl rfl pre_nil)) rfl hw) rfl (fun v_6 _ => ?_)
    refine as_ rfl rfl (l_nil (x_bn ?_))
    refine x_then (e_reg (mv rfl rfl (dt (d_sub rfl rfl rfl ⟨by omega, by omega⟩) rfl ?_)))
    refine as_ rfl rfl (l_nil (x_imp (s_dup 6 71 rfl rfl rfl) ?_))
    have h2 := drop_set_val (d := lo) hk0 (by omega : k ≤ q.length)
    have h16 : y * lo ≤ (r * 1000000000 + (dg 1000000000 x).getD (k - 1) 0) := by rw [hloQ]; exact Nat.mul_div_le _ _
    exact x_rnd (k - 1, _, (r * 1000000000 + (dg 1000000000 x).getD (k - 1) 0) - y * lo, _) ⟨by first | omega | (dsimp only <;> omega), by simp [hql], all_set hqa _ _ (by omega), fun j hj => by dsimp only at hj ⊢; rw [getD_set _ _ _ _ _ (by omega), if_neg (by omega)]; exact hqz j (by omega), by have h9 : 1000000000 * val 1000000000 (q.drop k) * y = val 1000000000 (q.drop k) * y * 1000000000 := (by rw [Nat.mul_assoc, Nat.mul_comm]); dsimp only; rw [h2, hdig, Nat.add_mul, h9]; have h5 : lo * y = y * lo := Nat.mul_comm _ _; omega, by dsimp only; rw [hloQ]; have h5 := Nat.div_add_mod (r * 1000000000 + (dg 1000000000 x).getD (k - 1) 0) y; have h6 := Nat.mod_lt (r * 1000000000 + (dg 1000000000 x).getD (k - 1) 0) hy0; omega⟩ (by first | omega | (dsimp only <;> omega)) ⟨by rw [show (((k - 1 : Nat) : Int) - 1) = (k : Int) - 1 - 1 by omega]; rfl, rfl, rfl, rfl, rfl, trivial⟩ ⟨rfl, rfl, rfl, rfl, rfl, trivial⟩
 ·refine e_exit ?_
  refine x_exit (x_exit (x_be ?_))
  refine x_then (e_seq (e_reg (mv rfl rfl (tt (t_call (n := 6) (r_trim_own _ _) rfl rfl rfl ⟨rfl, trivial⟩ Tryz.call60 (pre_lend 3 rfl rfl pN pre_nil) rfl hw) rfl (fun _ _ => ?_)))))
  refine l_imp (s_tz 3 rfl rfl pN) ?_
  refine mv rfl rfl (as_ rfl rfl (as_ rfl rfl (l_nil (x_then (e_ret ?_)))))
  obtain rfl : k = 0 := by omega
  rw [List.drop_zero, Nat.pow_zero, Nat.div_one] at hv
  have hq : val 1000000000 q = x / y := by rw [← hv, Nat.mul_comm, Nat.mul_add_div hy0, Nat.div_eq_of_lt hr, Nat.add_zero]
  have hr2 : r = x % y := by rw [← hv, Nat.mul_comm, Nat.mul_add_mod, Nat.mod_eq_of_lt hr]
  have hx : tz q = dg 1000000000 (x / y) := by rw [← dg_val two_D _ hqa, hq]
  exact x_end (.inl rfl) hsc (_, _) _ (fun a w hs => res2 hs Tryz.results112 rfl rfl) rfl trivial rfl (give_owne 3 rfl rfl pN (by rw [hx] <;> rfl) (give_samee 71 rfl rfl rfl (by rw [hr2] <;> rfl) give_nil))
theorem r_made (s : Bool) (v : Value) (n : Nat) (z : Int) (hn : n = z.natAbs) (hs : sg s z) (hb : bl n ≤ 4294967296) : Cal Tryz.prog 91 #[.bool s, v] [d9p v n] false (G := Unit) (fun _ => True) (fun _ => .agg #[.bool (decide (z < 0)), v]) (fun _ => []) := by
 refine cal_in Tryz.func91 rfl Tryz.ntmps91 rfl ⟨rfl, trivial⟩ ?_
 intro w0 sc hw hsc
 simp only [enumEnv, enumPre]
 have hl9 := len9_bl n
 refine e_seq (e_reg (tt (t_alloc (i := 2) rfl rfl rfl Tryz.zeroValue39 rfl rfl hw) rfl (fun b _ => ?_)))
 refine l_nil (x_then (e_seq (e_reg (mv rfl rfl (mv rfl rfl (l_splitb (d := 6) rfl (fun s143 => ?_) (fun s143 => ?_)))))))
 ·refine gdt (d_mv rfl rfl) rfl rfl rfl rfl ?_
  refine gdt (d_len rfl rfl (i := 1) rfl rd_slp Tryz.underlying37) rfl rfl rfl rfl ?_
  refine gdt (d_gtr rfl rfl rfl) rfl rfl rfl rfl ?_
  refine dt (d_pickt rfl rfl rfl) rfl ?_
  refine mv rfl rfl (dt (d_bld (ivs := [(0, _), (1, _)]) rfl ⟨rfl, rfl, rfl, rfl, trivial⟩ (fun a w hs => b39_01 ((one_rfl rfl) a w hs) ((one_rd (i := 1) rfl rd_slp) a w hs))) rfl ?_)
  refine tt (t_stw (i := 2) rfl rfl rfl rfl rfl (by decide) rfl Tryz.sizeOf39 rfl rfl ⟨(one_rfl rfl), (one_rd (i := 1) rfl rd_slp), trivial⟩ rfl hw trivial) rfl (fun _ _ => ?_)
  refine l_nil (x_then (e_ret ?_))
  exact x_end (.inl rfl) hsc () _ (fun a w hs => res1 hs Tryz.results91 (rv_cell (i := 2) rfl rfl Tryz.isAgg39 Tryz.sizeOf39 rfl)) (by rw [← made_b hn hs, ← len_pos9]; simp_all) trivial rfl give_nil
 ·refine gsk rfl rfl rfl rfl rfl (gsk rfl rfl rfl rfl rfl (gsk rfl rfl rfl rfl rfl (dt (d_pickf rfl rfl rfl) rfl ?_)))
  refine mv rfl rfl (dt (d_bld (ivs := [(0, _), (1, _)]) rfl ⟨rfl, rfl, rfl, rfl, trivial⟩ (fun a w hs => b39_01 ((one_rfl rfl) a w hs) ((one_rd (i := 1) rfl rd_slp) a w hs))) rfl ?_)
  refine tt (t_stw (i := 2) rfl rfl rfl rfl rfl (by decide) rfl Tryz.sizeOf39 rfl rfl ⟨(one_rfl rfl), (one_rd (i := 1) rfl rd_slp), trivial⟩ rfl hw trivial) rfl (fun _ _ => ?_)
  refine l_nil (x_then (e_ret ?_))
  exact x_end (.inl rfl) hsc () _ (fun a w hs => res1 hs Tryz.results91 (rv_cell (i := 2) rfl rfl Tryz.isAgg39 Tryz.sizeOf39 rfl)) (by rw [← made_b hn hs, ← len_pos9]; simp_all) trivial rfl give_nil
theorem r_neg (v : Value) (x : Int) (hx : bl x.natAbs ≤ 3000000000) : Cal Tryz.prog 41 #[.agg #[.bool (decide (x < 0)), v]] [d9p v x.natAbs] true (G := Value) (fun r => True) (fun r => .agg #[.bool (decide (-x < 0)), r]) (fun r => [d9p r (-x).natAbs]) := by
 refine cal_in Tryz.func41 rfl Tryz.ntmps41 rfl ⟨rfl, trivial⟩ ?_
 intro w0 sc hw hsc
 simp only [enumEnv, enumPre]
 refine e_seq (e_reg (tt (t_box (i := 2) rfl rfl rfl rfl rfl rfl hw) rfl (fun b _ => ?_)))
 refine tt (t_alloc (i := 3) rfl rfl rfl Tryz.zeroValue39 rfl rfl hw) rfl (fun b_2 _ => ?_)
 refine l_nil (x_then (e_seq (e_reg (dt (d_fa rfl rfl Tryz.underlying39 rfl Tryz.sizeOf4 rfl rfl) rfl ?_))))
 refine dt (d_lb (i := 2) rfl rfl rfl Tryz.isAgg4 rfl) rfl ?_
 refine dt (d_notb rfl rfl) rfl ?_
 refine dt (d_fa rfl rfl Tryz.underlying39 rfl Tryz.sizeOf37 rfl rfl) rfl ?_
 refine dt (d_lb (i := 2) rfl rfl rfl Tryz.isAgg37 rfl) rfl ?_
 refine tt (t_call (n := 3) (r_made _ _ _ (-x) (Int.natAbs_neg x).symm (sg_neg (sg_dec x)) (by omega)) rfl rfl rfl ⟨rfl, rfl, trivial⟩ Tryz.call91 (pre_same 1 rfl rfl rfl pre_nil) rfl hw) rfl (fun _ _ => ?_)
 refine tt (t_stw (i := 3) rfl rfl rfl rfl rfl (by decide) rfl Tryz.sizeOf39 rfl rfl ⟨(one_rfl rfl), (one_rd (i := 1) rfl rd_slp), trivial⟩ rfl hw trivial) rfl (fun _ _ => ?_)
 refine l_nil (x_then (e_ret ?_))
 exact x_end (.inl rfl) hsc _ _ (fun a w hs => res1 hs Tryz.results41 (rv_cell (i := 3) rfl rfl Tryz.isAgg39 Tryz.sizeOf39 rfl)) rfl trivial rfl (give_samee 1 rfl rfl rfl (by rw [Int.natAbs_neg] <;> rfl) give_nil)
theorem r_add (v w : Value) (x y : Int) (hx : bl x.natAbs ≤ 3000000000) (hy : bl y.natAbs ≤ 3000000000) : Cal Tryz.prog 42 #[.agg #[.bool (decide (x < 0)), v], .agg #[.bool (decide (y < 0)), w]] [d9p v x.natAbs, d9p w y.natAbs] true (G := Value) (fun r => True) (fun r => .agg #[.bool (decide (x + y < 0)), r]) (fun r => [d9p r (x + y).natAbs]) := by
 refine cal_in Tryz.func42 rfl Tryz.ntmps42 rfl ⟨rfl, rfl, trivial⟩ ?_
 intro w0 sc hw hsc
 simp only [enumEnv, enumPre]
 have hb := bl_iadd x y
 refine e_seq (e_reg (tt (t_box (i := 3) rfl rfl rfl rfl rfl rfl hw) rfl (fun b _ => ?_)))
 refine tt (t_box (i := 4) rfl rfl rfl rfl rfl rfl hw) rfl (fun b_2 _ => ?_)
 refine tt (t_alloc (i := 5) rfl rfl rfl Tryz.zeroValue39 rfl rfl hw) rfl (fun b_3 _ => ?_)
 refine l_nil (x_then (e_seq (e_seq (e_reg (dt (d_fa rfl rfl Tryz.underlying39 rfl Tryz.sizeOf4 rfl rfl) rfl ?_)))))
 refine dt (d_lb (i := 3) rfl rfl rfl Tryz.isAgg4 rfl) rfl ?_
 refine dt (d_fa rfl rfl Tryz.underlying39 rfl Tryz.sizeOf4 rfl rfl) rfl ?_
 refine dt (d_lb (i := 4) rfl rfl rfl Tryz.isAgg4 rfl) rfl ?_
 refine dt (d_eqb rfl rfl rfl Tryz.underlying4) rfl ?_
 refine l_nil (x_then (e_condb rfl (fun h189 => ?_) (fun h189 => ?_)))
 ·replace h189 := beq_dec h189
  refine e_seq (e_dreg (fun _ => False) [(0, 0), (1, 0), (2, 0), (3, 0), (4, 0), (5, 0), (6, 1), (7, 1), (8, 3)] (by kernel_rfl) ?_ ?_)
  ·kernel_rfl
  refine r0' rfl rfl rfl rfl (st0 (d_fa rfl rfl Tryz.underlying39 rfl Tryz.sizeOf4 rfl rfl)) ?_
  refine r0' rfl rfl rfl rfl (st0 (d_lb (i := 3) rfl rfl rfl Tryz.isAgg4 rfl)) ?_
  refine r0' rfl rfl rfl rfl (st0 (d_fa rfl rfl Tryz.underlying39 rfl Tryz.sizeOf37 rfl rfl)) ?_
  refine r0' rfl rfl rfl rfl (st0 (d_lb (i := 3) rfl rfl rfl Tryz.isAgg37 rfl)) ?_
  refine r0' rfl rfl rfl rfl (st0 (d_fa rfl rfl Tryz.underlying39 rfl Tryz.sizeOf37 rfl rfl)) ?_
  refine r0' rfl rfl rfl rfl (st0 (d_lb (i := 4) rfl rfl rfl Tryz.isAgg37 rfl)) ?_
  refine r1' rfl rfl (t_call (n := 6) (r_plus _ _ _ _ (by omega) (by omega)) rfl rfl rfl ⟨rfl, rfl, trivial⟩ Tryz.call92 (pre_same 1 rfl rfl rfl (pre_same 2 rfl rfl rfl pre_nil)) rfl hw) (fun v _ => ?_)
  refine r1' rfl rfl (t_call (n := 6) (r_made _ _ _ (x + y) (abs_add1 (sg_dec x) (h189 ▸ sg_dec y)).symm (sg_add1 (sg_dec x) (h189 ▸ sg_dec y)) (by rw [← abs_add1 (sg_dec x) (h189 ▸ sg_dec y)]; omega)) rfl rfl rfl ⟨rfl, rfl, trivial⟩ Tryz.call91 (pre_same 6 rfl rfl rfl pre_nil) rfl hw) (fun _ _ => ?_)
  refine r3' rfl rfl (t_stw (i := 5) rfl rfl rfl rfl rfl (by decide) rfl Tryz.sizeOf39 rfl rfl ⟨(one_rfl rfl), (one_rd (i := 6) rfl rd_slp), trivial⟩ rfl hw trivial) (fun _ _ => ?_)
  refine r_end ?_
  refine x_then (e_ret (x_ret ?_))
  exact x_end (.inl rfl) hsc _ _ (fun a w hs => res1 hs Tryz.results42 (rv_cell (i := 5) rfl rfl Tryz.isAgg39 Tryz.sizeOf39 rfl)) rfl trivial rfl (give_samee 6 rfl rfl rfl (by rw [abs_add1 (sg_dec x) (h189 ▸ sg_dec y)] <;> rfl) give_nil)
 ·have hne : decide (x < 0) ≠ decide (y < 0) := by simpa using h189
  refine e_skip ?_
  refine x_then (e_seq (e_seq (e_reg (dt (d_fa rfl rfl Tryz.underlying39 rfl Tryz.sizeOf37 rfl rfl) rfl ?_))))
  refine dt (d_lb (i := 3) rfl rfl rfl Tryz.isAgg37 rfl) rfl ?_
  refine dt (d_fa rfl rfl Tryz.underlying39 rfl Tryz.sizeOf37 rfl rfl) rfl ?_
  refine dt (d_lb (i := 4) rfl rfl rfl Tryz.isAgg37 rfl) rfl ?_
  refine tt (t_call (n := 6) (r_order _ _ _ _ (by omega) (by omega)) rfl rfl rfl ⟨rfl, rfl, trivial⟩ Tryz.call93 (pre_same 1 rfl rfl rfl (pre_same 2 rfl rfl rfl pre_nil)) rfl hw) rfl (fun _ _ => ?_)
  refine dt (d_geq rfl rfl rfl) rfl ?_
  refine l_nil (x_then (e_cond rfl (fun h192 => ?_) (fun h192 => ?_)))
  ·have hge : y.natAbs ≤ x.natAbs := cmpI_ge.1 h192
   refine e_seq (e_dreg (fun _ => False) [(0, 0), (1, 0), (2, 0), (3, 0), (4, 0), (5, 0), (6, 1), (7, 1), (8, 3)] (by kernel_rfl) ?_ ?_)
   ·kernel_rfl
   refine r0' rfl rfl rfl rfl (st0 (d_fa rfl rfl Tryz.underlying39 rfl Tryz.sizeOf4 rfl rfl)) ?_
   refine r0' rfl rfl rfl rfl (st0 (d_lb (i := 3) rfl rfl rfl Tryz.isAgg4 rfl)) ?_
   refine r0' rfl rfl rfl rfl (st0 (d_fa rfl rfl Tryz.underlying39 rfl Tryz.sizeOf37 rfl rfl)) ?_
   refine r0' rfl rfl rfl rfl (st0 (d_lb (i := 3) rfl rfl rfl Tryz.isAgg37 rfl)) ?_
   refine r0' rfl rfl rfl rfl (st0 (d_fa rfl rfl Tryz.underlying39 rfl Tryz.sizeOf37 rfl rfl)) ?_
   refine r0' rfl rfl rfl rfl (st0 (d_lb (i := 4) rfl rfl rfl Tryz.isAgg37 rfl)) ?_
   refine r1' rfl rfl (t_call (n := 7) (r_minus _ _ _ _ (by omega) hge) rfl rfl rfl ⟨rfl, rfl, trivial⟩ Tryz.call94 (pre_same 1 rfl rfl rfl (pre_same 2 rfl rfl rfl pre_nil)) rfl hw) (fun v_2 _ => ?_)
   refine r1' rfl rfl (t_call (n := 7) (r_made _ _ _ (x + y) (abs_add2 (sg_dec x) (sg_dec y) hne hge).symm (sg_add2 (sg_dec x) (sg_dec y) hne hge) (by have := bl_mono (Nat.sub_le x.natAbs y.natAbs); omega)) rfl rfl rfl ⟨rfl, rfl, trivial⟩ Tryz.call91 (pre_same 7 rfl rfl rfl pre_nil) rfl hw) (fun _ _ => ?_)
   refine r3' rfl rfl (t_stw (i := 5) rfl rfl rfl rfl rfl (by decide) rfl Tryz.sizeOf39 rfl rfl ⟨(one_rfl rfl), (one_rd (i := 7) rfl rd_slp), trivial⟩ rfl hw trivial) (fun _ _ => ?_)
   refine r_end ?_
   refine x_then (e_ret (x_ret ?_))
   exact x_end (.inl rfl) hsc _ _ (fun a w hs => res1 hs Tryz.results42 (rv_cell (i := 5) rfl rfl Tryz.isAgg39 Tryz.sizeOf39 rfl)) rfl trivial rfl (give_samee 7 rfl rfl rfl (by rw [abs_add2 (sg_dec x) (sg_dec y) hne hge] <;> rfl) give_nil)
  ·have hge : x.natAbs ≤ y.natAbs := by have := mt cmpI_ge.2 h192; omega
   refine e_skip ?_
   refine x_then (e_seq (e_dreg (fun _ => False) [(0, 0), (1, 0), (2, 0), (3, 0), (4, 0), (5, 0), (6, 1), (7, 1), (8, 3)] (by kernel_rfl) ?_ ?_))
   ·kernel_rfl
   refine r0' rfl rfl rfl rfl (st0 (d_fa rfl rfl Tryz.underlying39 rfl Tryz.sizeOf4 rfl rfl)) ?_
   refine r0' rfl rfl rfl rfl (st0 (d_lb (i := 4) rfl rfl rfl Tryz.isAgg4 rfl)) ?_
   refine r0' rfl rfl rfl rfl (st0 (d_fa rfl rfl Tryz.underlying39 rfl Tryz.sizeOf37 rfl rfl)) ?_
   refine r0' rfl rfl rfl rfl (st0 (d_lb (i := 4) rfl rfl rfl Tryz.isAgg37 rfl)) ?_
   refine r0' rfl rfl rfl rfl (st0 (d_fa rfl rfl Tryz.underlying39 rfl Tryz.sizeOf37 rfl rfl)) ?_
   refine r0' rfl rfl rfl rfl (st0 (d_lb (i := 3) rfl rfl rfl Tryz.isAgg37 rfl)) ?_
   refine r1' rfl rfl (t_call (n := 8) (r_minus _ _ _ _ (by omega) hge) rfl rfl rfl ⟨rfl, rfl, trivial⟩ Tryz.call94 (pre_same 2 rfl rfl rfl (pre_same 1 rfl rfl rfl pre_nil)) rfl hw) (fun v_3 _ => ?_)
   refine r1' rfl rfl (t_call (n := 8) (r_made _ _ _ (x + y) (by rw [Int.add_comm x]; exact (abs_add2 (sg_dec y) (sg_dec x) (Ne.symm hne) hge).symm) (by rw [Int.add_comm x]; exact sg_add2 (sg_dec y) (sg_dec x) (Ne.symm hne) hge) (by have := bl_mono (Nat.sub_le y.natAbs x.natAbs); omega)) rfl rfl rfl ⟨rfl, rfl, trivial⟩ Tryz.call91 (pre_same 8 rfl rfl rfl pre_nil) rfl hw) (fun _ _ => ?_)
   refine r3' rfl rfl (t_stw (i := 5) rfl rfl rfl rfl rfl (by decide) rfl Tryz.sizeOf39 rfl rfl ⟨(one_rfl rfl), (one_rd (i := 8) rfl rd_slp), trivial⟩ rfl hw trivial) (fun _ _ => ?_)
   refine r_end ?_
   refine x_then (e_ret ?_)
   exact x_end (.inl rfl) hsc _ _ (fun a w hs => res1 hs Tryz.results42 (rv_cell (i := 5) rfl rfl Tryz.isAgg39 Tryz.sizeOf39 rfl)) rfl trivial rfl (give_samee 8 rfl rfl rfl (by rw [Int.add_comm x, abs_add2 (sg_dec y) (sg_dec x) (Ne.symm hne) hge] <;> rfl) give_nil)
theorem r_sub (v w : Value) (x y : Int) (hx : bl x.natAbs ≤ 3000000000) (hy : bl y.natAbs ≤ 3000000000) : Cal Tryz.prog 95 #[.agg #[.bool (decide (x < 0)), v], .agg #[.bool (decide (y < 0)), w]] [d9p v x.natAbs, d9p w y.natAbs] true (G := Value) (fun r => True) (fun r => .agg #[.bool (decide (x - y < 0)), r]) (fun r => [d9p r (x - y).natAbs]) := by
 refine cal_in Tryz.func95 rfl Tryz.ntmps95 rfl ⟨rfl, rfl, trivial⟩ ?_
 intro w0 sc hw hsc
 simp only [enumEnv, enumPre]
 have hb := bl_isub x y
 have hn := bl_neg y
 refine e_seq (e_reg (tt (t_box (i := 3) rfl rfl rfl rfl rfl rfl hw) rfl (fun b _ => ?_)))
 refine tt (t_box (i := 4) rfl rfl rfl rfl rfl rfl hw) rfl (fun b_2 _ => ?_)
 refine tt (t_alloc (i := 5) rfl rfl rfl Tryz.zeroValue39 rfl rfl hw) rfl (fun b_3 _ => ?_)
 refine l_nil (x_then (e_seq (e_dreg (fun _ => False) [(0, 0), (1, 0), (2, 1), (3, 1), (4, 3)] (by kernel_rfl) ?_ ?_)))
 ·kernel_rfl
 refine r0' rfl rfl rfl rfl (st0 (d_lb2 (i := 3) rfl rfl rfl Tryz.isAgg39 Tryz.sizeOf39 rfl rfl)) ?_
 refine r0' rfl rfl rfl rfl (st0 (d_lb2 (i := 4) rfl rfl rfl Tryz.isAgg39 Tryz.sizeOf39 rfl rfl)) ?_
 refine r1' rfl rfl (t_call (n := 6) (r_neg _ _ (by omega)) rfl rfl rfl ⟨rfl, trivial⟩ Tryz.call41 (pre_same 2 rfl rfl rfl pre_nil) rfl hw) (fun v _ => ?_)
 refine r1' rfl rfl (t_call (n := 7) (r_add _ _ _ _ (by omega) (by omega)) rfl rfl rfl ⟨rfl, rfl, trivial⟩ Tryz.call42 (pre_same 1 rfl rfl rfl (pre_same 6 rfl rfl rfl pre_nil)) rfl hw) (fun v_2 _ => ?_)
 refine r3' rfl rfl (t_stw (i := 5) rfl rfl rfl rfl rfl (by decide) rfl Tryz.sizeOf39 rfl rfl ⟨(one_rfl rfl), (one_rd (i := 7) rfl rd_slp), trivial⟩ rfl hw trivial) (fun _ _ => ?_)
 refine r_end ?_
 refine x_then (e_ret ?_)
 exact x_end (.inl rfl) hsc _ _ (fun a w hs => res1 hs Tryz.results95 (rv_cell (i := 5) rfl rfl Tryz.isAgg39 Tryz.sizeOf39 rfl)) (by rw [Int.sub_eq_add_neg] <;> rfl) trivial rfl (give_samee 7 rfl rfl rfl (by rw [Int.sub_eq_add_neg] <;> rfl) give_nil)
theorem r_mul (v w : Value) (x y : Int) (hx : bl x.natAbs ≤ 1000000000) (hy : bl y.natAbs ≤ 1000000000) : Cal Tryz.prog 44 #[.agg #[.bool (decide (x < 0)), v], .agg #[.bool (decide (y < 0)), w]] [d9p v x.natAbs, d9p w y.natAbs] true (G := Value) (fun r => True) (fun r => .agg #[.bool (decide (x * y < 0)), r]) (fun r => [d9p r (x * y).natAbs]) := by
 refine cal_in Tryz.func44 rfl Tryz.ntmps44 rfl ⟨rfl, rfl, trivial⟩ ?_
 intro w0 sc hw hsc
 simp only [enumEnv, enumPre]
 have hb := bl_imul x y
 refine e_seq (e_reg (tt (t_box (i := 3) rfl rfl rfl rfl rfl rfl hw) rfl (fun b _ => ?_)))
 refine tt (t_box (i := 4) rfl rfl rfl rfl rfl rfl hw) rfl (fun b_2 _ => ?_)
 refine tt (t_alloc (i := 5) rfl rfl rfl Tryz.zeroValue39 rfl rfl hw) rfl (fun b_3 _ => ?_)
 refine l_nil (x_then (e_seq (e_dreg (fun _ => False) [(0, 0), (1, 0), (2, 0), (3, 0), (4, 0), (5, 0), (6, 0), (7, 0), (8, 0), (9, 1), (10, 1), (11, 3)] (by kernel_rfl) ?_ ?_)))
 ·kernel_rfl
 refine r0' rfl rfl rfl rfl (st0 (d_fa rfl rfl Tryz.underlying39 rfl Tryz.sizeOf4 rfl rfl)) ?_
 refine r0' rfl rfl rfl rfl (st0 (d_lb (i := 3) rfl rfl rfl Tryz.isAgg4 rfl)) ?_
 refine r0' rfl rfl rfl rfl (st0 (d_fa rfl rfl Tryz.underlying39 rfl Tryz.sizeOf4 rfl rfl)) ?_
 refine r0' rfl rfl rfl rfl (st0 (d_lb (i := 4) rfl rfl rfl Tryz.isAgg4 rfl)) ?_
 refine r0' rfl rfl rfl rfl (st0 (d_neb rfl rfl rfl Tryz.underlying4)) ?_
 refine r0' rfl rfl rfl rfl (st0 (d_fa rfl rfl Tryz.underlying39 rfl Tryz.sizeOf37 rfl rfl)) ?_
 refine r0' rfl rfl rfl rfl (st0 (d_lb (i := 3) rfl rfl rfl Tryz.isAgg37 rfl)) ?_
 refine r0' rfl rfl rfl rfl (st0 (d_fa rfl rfl Tryz.underlying39 rfl Tryz.sizeOf37 rfl rfl)) ?_
 refine r0' rfl rfl rfl rfl (st0 (d_lb (i := 4) rfl rfl rfl Tryz.isAgg37 rfl)) ?_
 refine r1' rfl rfl (t_call (n := 6) (r_times _ _ _ _ (by omega) (by omega)) rfl rfl rfl ⟨rfl, rfl, trivial⟩ Tryz.call96 (pre_same 1 rfl rfl rfl (pre_same 2 rfl rfl rfl pre_nil)) rfl hw) (fun v _ => ?_)
 refine r1' rfl rfl (t_call (n := 6) (r_made _ _ _ (x * y) (Int.natAbs_mul x y).symm (sg_mul (sg_dec x) (sg_dec y)) (by rw [← Int.natAbs_mul]; omega)) rfl rfl rfl ⟨rfl, rfl, trivial⟩ Tryz.call91 (pre_same 6 rfl rfl rfl pre_nil) rfl hw) (fun _ _ => ?_)
 refine r3' rfl rfl (t_stw (i := 5) rfl rfl rfl rfl rfl (by decide) rfl Tryz.sizeOf39 rfl rfl ⟨(one_rfl rfl), (one_rd (i := 6) rfl rd_slp), trivial⟩ rfl hw trivial) (fun _ _ => ?_)
 refine r_end ?_
 refine x_then (e_ret ?_)
 exact x_end (.inl rfl) hsc _ _ (fun a w hs => res1 hs Tryz.results44 (rv_cell (i := 5) rfl rfl Tryz.isAgg39 Tryz.sizeOf39 rfl)) rfl trivial rfl (give_samee 6 rfl rfl rfl (by rw [Int.natAbs_mul] <;> rfl) give_nil)
theorem r_sign (v : Value) (x : Int) (hx : bl x.natAbs ≤ 3000000000) : Cal Tryz.prog 61 #[.agg #[.bool (decide (x < 0)), v]] [d9p v x.natAbs] false (G := Unit) (fun _ => True) (fun _ => .int .i64 x.sign) (fun _ => []) := by
 refine cal_in Tryz.func61 rfl Tryz.ntmps61 rfl ⟨rfl, trivial⟩ ?_
 intro w0 sc hw hsc
 simp only [enumEnv, enumPre]
 have hl9 := len9_bl x.natAbs
 refine e_seq (e_reg (tt (t_box (i := 2) rfl rfl rfl rfl rfl rfl hw) rfl (fun b _ => ?_)))
 refine as_ rfl rfl (l_nil (x_then (e_seq (e_seq (e_reg (dt (d_fa rfl rfl Tryz.underlying39 rfl Tryz.sizeOf37 rfl rfl) rfl ?_))))))
 refine dt (d_lb (i := 2) rfl rfl rfl Tryz.isAgg37 rfl) rfl ?_
 refine dt (d_len rfl rfl (i := 1) rfl rd_slp Tryz.underlying37) rfl ?_
 refine dt (d_eql rfl rfl rfl) rfl ?_
 refine l_nil (x_then (e_cond rfl (fun h206 => ?_) (fun h206 => ?_)))
 ·refine e_seq (e_reg (as_ rfl rfl (l_nil (x_then (e_ret (x_ret ?_))))))
  exact x_end (.inl rfl) hsc () _ (fun a w hs => res1 hs Tryz.results61 rfl) (sign9 h206) trivial rfl give_nil
 ·refine e_skip ?_
  refine x_then (e_seq (e_seq (e_reg (dt (d_fa rfl rfl Tryz.underlying39 rfl Tryz.sizeOf4 rfl rfl) rfl ?_))))
  refine dt (d_lb (i := 2) rfl rfl rfl Tryz.isAgg4 rfl) rfl ?_
  refine l_nil (x_then (e_condb rfl (fun h209 => ?_) (fun h209 => ?_)))
  ·refine e_seq (e_reg (as_ rfl rfl (l_nil (x_then (e_ret (x_ret ?_))))))
   exact x_end (.inl rfl) hsc () _ (fun a w hs => res1 hs Tryz.results61 rfl) (by rw [Int.sign_eq_neg_one_of_neg (by simpa using h209)]) trivial rfl give_nil
  ·refine e_skip ?_
   refine x_then (e_seq (e_reg (as_ rfl rfl (l_nil (x_then (e_ret ?_))))))
   exact x_end (.inl rfl) hsc () _ (fun a w hs => res1 hs Tryz.results61 rfl) (by have h3 := len9_pos h206; have h4 : ¬ x < 0 := (by simpa using h209); rw [Int.sign_eq_one_of_pos (by omega)]) trivial rfl give_nil
theorem r_compare (v w : Value) (x y : Int) (hx : bl x.natAbs ≤ 2000000000) (hy : bl y.natAbs ≤ 2000000000) : Cal Tryz.prog 62 #[.agg #[.bool (decide (x < 0)), v], .agg #[.bool (decide (y < 0)), w]] [d9p v x.natAbs, d9p w y.natAbs] false (G := Unit) (fun _ => True) (fun _ => .int .i64 (x - y).sign) (fun _ => []) := by
 refine cal_in Tryz.func62 rfl Tryz.ntmps62 rfl ⟨rfl, rfl, trivial⟩ ?_
 intro w0 sc hw hsc
 simp only [enumEnv, enumPre]
 have hb := bl_isub x y
 refine e_seq (e_reg (tt (t_box (i := 3) rfl rfl rfl rfl rfl rfl hw) rfl (fun b _ => ?_)))
 refine tt (t_box (i := 4) rfl rfl rfl rfl rfl rfl hw) rfl (fun b_2 _ => ?_)
 refine as_ rfl rfl (l_nil (x_then (e_seq (e_reg (dt (d_lb2 (i := 3) rfl rfl rfl Tryz.isAgg39 Tryz.sizeOf39 rfl rfl) rfl ?_)))))
 refine dt (d_lb2 (i := 4) rfl rfl rfl Tryz.isAgg39 Tryz.sizeOf39 rfl rfl) rfl ?_
 refine tt (t_call (n := 5) (r_sub _ _ _ _ (by omega) (by omega)) rfl rfl rfl ⟨rfl, rfl, trivial⟩ Tryz.call95 (pre_same 1 rfl rfl rfl (pre_same 2 rfl rfl rfl pre_nil)) rfl hw) rfl (fun v _ => ?_)
 refine tt (t_call (n := 5) (r_sign _ _ (by omega)) rfl rfl rfl ⟨rfl, trivial⟩ Tryz.call61 (pre_same 5 rfl rfl rfl pre_nil) rfl hw) rfl (fun _ _ => ?_)
 refine as_ rfl rfl (l_nil (x_then (e_ret ?_)))
 exact x_end (.inl rfl) hsc () _ (fun a w hs => res1 hs Tryz.results62 rfl) rfl trivial rfl give_nil
theorem r_num (x : Int) (hx : inI x) : Cal Tryz.prog 43 #[.int .i64 x] [] true (G := Value) (fun r => True) (fun r => .agg #[.bool (decide (x < 0)), r]) (fun r => [d9p r (x).natAbs]) := by
 refine cal_in Tryz.func43 rfl Tryz.ntmps43 rfl trivial ?_
 intro w0 sc hw hsc
 simp only [enumEnv, enumPre]
 have hxa := hx.1
 have hxb := hx.2
 refine e_imp (s_nil 60 1 3 encN) ?_
 refine e_imp (s_pub 60 rfl rfl pN) ?_
 refine e_seq (e_reg (tt (t_alloc (i := 1) rfl rfl rfl Tryz.zeroValue39 rfl rfl hw) rfl (fun b _ => ?_)))
 refine l_nil (x_then (e_seq (e_seq (e_reg (mv rfl rfl (dt (d_geq rfl rfl rfl) rfl ?_))))))
 refine l_nil (x_then (e_cond rfl (fun h147 => ?_) (fun h147 => ?_)))
 ·obtain ⟨m, rfl⟩ : ∃ m : Nat, x = (m : Int) := ⟨x.natAbs, by omega⟩
  have hbm : bl m ≤ 64 := (bl_le 64 m).2 (by omega)
  refine e_seq (e_reg (mv rfl rfl (dt (n_rem (n := 1000000000) rfl rfl rfl (by omega)) rfl ?_)))
  refine mv rfl rfl (dt (n_quo (n := 1000000000) rfl rfl rfl (by omega) (by omega)) rfl ?_)
  refine dt (n_rem (n := 1000000000) rfl rfl rfl (by omega)) rfl ?_
  refine mv rfl rfl (dt (n_quo (n := 1000000000) rfl rfl rfl (by omega) (by omega)) rfl ?_)
  refine dt (n_quo (n := 1000000000) rfl rfl rfl (by omega) (by omega)) rfl ?_
  refine tt (t_bsg (i := 70) (ivs := [(0, _), (1, _), (2, _)]) (enc := encN) [m % 1000000000, m / 1000000000 % 1000000000, m / 1000000000 / 1000000000] rfl rfl rfl ⟨rfl, rfl, rfl, rfl, rfl, rfl, trivial⟩ Tryz.underlying37 Tryz.ti3 rfl rfl rfl rfl rfl rfl pN.cells rfl rfl hw) rfl (fun v _ => ?_)
  refine tt (t_call (n := 1) (r_trim_own _ _) rfl rfl rfl ⟨rfl, trivial⟩ Tryz.call60 (pre_lend 70 rfl rfl pN pre_nil) rfl hw) rfl (fun _ _ => ?_)
  refine l_imp (s_tz 70 rfl rfl pN) ?_
  refine l_imp (s_oeq 70 (tz_three (by omega)) rfl rfl) ?_
  refine tt (t_call (n := 1) (r_made _ _ _ ((m : Int)) (by omega) (by simp [sg]) (by omega)) rfl rfl rfl ⟨rfl, rfl, trivial⟩ Tryz.call91 (pre_lend 70 rfl rfl pN pre_nil) rfl hw) rfl (fun _ _ => ?_)
  refine tt (t_stw (i := 1) rfl rfl rfl rfl rfl (by decide) rfl Tryz.sizeOf39 rfl rfl ⟨(one_rfl rfl), (one_rd (i := 70) rfl (rd_osl pN)), trivial⟩ rfl hw trivial) rfl (fun _ _ => ?_)
  refine l_nil (x_then (e_ret (x_ret ?_)))
  exact x_end (.inl rfl) hsc _ _ (fun a w hs => res1 hs Tryz.results43 (rv_cell (i := 1) rfl rfl Tryz.isAgg39 Tryz.sizeOf39 rfl)) rfl trivial rfl (give_owne 70 rfl rfl pN (by rw [Int.natAbs_natCast] <;> rfl) give_nil)
 ·obtain ⟨m, rfl⟩ : ∃ m : Nat, x = -(m : Int) := ⟨x.natAbs, by omega⟩
  have hbm : bl m ≤ 64 := (bl_le 64 m).2 (by omega)
  refine e_skip ?_
  refine x_then (e_seq (e_reg (mv rfl rfl (dt (nn_rem (n := 1000000000) rfl rfl rfl (by omega)) rfl ?_))))
  refine dt (n_neg rfl rfl (by omega)) rfl ?_
  refine mv rfl rfl (dt (nn_quo (n := 1000000000) rfl rfl rfl (by omega) (by omega)) rfl ?_)
  refine dt (nn_rem (n := 1000000000) rfl rfl rfl (by omega)) rfl ?_
  refine dt (n_neg rfl rfl (by omega)) rfl ?_
  refine mv rfl rfl (dt (nn_quo (n := 1000000000) rfl rfl rfl (by omega) (by omega)) rfl ?_)
  refine dt (nn_quo (n := 1000000000) rfl rfl rfl (by omega) (by omega)) rfl ?_
  refine dt (n_neg rfl rfl (by omega)) rfl ?_
  refine tt (t_bsg (i := 70) (ivs := [(0, _), (1, _), (2, _)]) (enc := encN) [m % 1000000000, m / 1000000000 % 1000000000, m / 1000000000 / 1000000000] rfl rfl rfl ⟨rfl, rfl, rfl, rfl, rfl, rfl, trivial⟩ Tryz.underlying37 Tryz.ti3 rfl rfl rfl rfl rfl rfl pN.cells rfl rfl hw) rfl (fun v_2 _ => ?_)
  refine tt (t_call (n := 1) (r_trim_own _ _) rfl rfl rfl ⟨rfl, trivial⟩ Tryz.call60 (pre_lend 70 rfl rfl pN pre_nil) rfl hw) rfl (fun _ _ => ?_)
  refine l_imp (s_tz 70 rfl rfl pN) ?_
  refine l_imp (s_oeq 70 (tz_three (by omega)) rfl rfl) ?_
  refine l_imp (s_oeq 70 (ys := dg 1000000000 (-(m : Int)).natAbs) (by rw [Int.natAbs_neg, Int.natAbs_natCast]) rfl rfl) ?_
  refine l_imp (s_pub 70 rfl rfl pN) ?_
  refine tt (t_call (n := 1) (r_made _ _ _ ((-(m : Int))) rfl (by simp [sg]) (by rw [Int.natAbs_neg, Int.natAbs_natCast]; omega)) rfl rfl rfl ⟨rfl, rfl, trivial⟩ Tryz.call91 (pre_same 70 rfl rfl rfl pre_nil) rfl hw) rfl (fun _ _ => ?_)
  refine dt (d_bld (ivs := []) rfl trivial (fun a w hs => b39_)) rfl ?_
  refine tt (t_call (n := 2) (r_sub _ _ (-(m : Int)) 0 (by rw [Int.natAbs_neg, Int.natAbs_natCast]; omega) (by decide)) rfl rfl rfl ⟨rfl, rfl, trivial⟩ Tryz.call95 (pre_same 70 rfl rfl rfl (pre_same 60 rfl rfl rfl pre_nil)) rfl hw) rfl (fun v_3 _ => ?_)
  refine tt (t_stw (i := 1) rfl rfl rfl rfl rfl (by decide) rfl Tryz.sizeOf39 rfl rfl ⟨(one_rfl rfl), (one_rd (i := 2) rfl rd_slp), trivial⟩ rfl hw trivial) rfl (fun _ _ => ?_)
  refine l_nil (x_then (e_ret ?_))
  exact x_end (.inl rfl) hsc _ _ (fun a w hs => res1 hs Tryz.results43 (rv_cell (i := 1) rfl rfl Tryz.isAgg39 Tryz.sizeOf39 rfl)) (by rw [Int.sub_zero] <;> rfl) trivial rfl (give_samee 2 rfl rfl rfl (by rw [Int.sub_zero] <;> rfl) give_nil)
theorem r_from (x : Int) (hx : bl x.natAbs ≤ 2000000000) : Cal Tryz.prog 49 #[wv x] [] true (G := Value) (fun r => True) (fun r => .agg #[.bool (decide (x < 0)), r]) (fun r => [d9p r (x).natAbs]) := by
 refine cal_in Tryz.func49 rfl Tryz.ntmps49 rfl trivial ?_
 intro w0 sc hw hsc
 simp only [enumEnv, enumPre]
 obtain ⟨n, hn⟩ : ∃ n, n = x.natAbs := ⟨_, rfl⟩
 have hl8 := len256 n
 have hxn : bl n ≤ 2000000000 := by rw [hn]; exact hx
 have hsz : (bstr x.natAbs).size = (dg 256 n).length := by rw [← hn]; exact bstr_size n
 refine e_seq (e_reg (tt (t_box (i := 1) rfl rfl rfl rfl rfl rfl hw) rfl (fun b _ => ?_)))
 refine tt (t_alloc (i := 2) rfl rfl rfl Tryz.zeroValue39 rfl rfl hw) rfl (fun b_2 _ => ?_)
 refine l_nil (x_then (e_seq (e_reg (as_ rfl rfl (l_nil (x_then (e_seq (e_seq (e_reg (as_ rfl rfl (l_nil (x_then (e_block (e_imp (s_nil 70 1 3 encN) ?_))))))))))))))
 refine e_imp (s_pub 70 rfl rfl pN) ?_
 refine e_lp [(1, _), (2, _)] [(0, _), (1, _), (2, _)] (fun (q : Nat × Value) => [(4, .int .i64 (q.1 : Int)), (3, q.2)]) (fun (q : Nat × Value) => [(70, d9p q.2 (n / 256 ^ ((dg 256 n).length - q.1)))]) (fun (q : Nat × Value) => (q.1 ≤ (dg 256 n).length)) (fun (q : Nat × Value) => (dg 256 n).length - q.1) (0, .slice none 0 0) (by first | omega | (dsimp only <;> omega)) ⟨rfl, rfl, rfl, rfl, trivial⟩ ⟨by rw [from_zero]; rfl, rfl, rfl, rfl, trivial⟩ ?_
 rintro ⟨i, vd⟩ hi
 dsimp only at hi
 simp only [List.cons_append, List.nil_append]
 have hnb : bl (n / 256 ^ ((dg 256 n).length - i)) ≤ bl n := bl_mono (Nat.div_le_self _ _)
 refine e_seq (e_seq (e_reg (mv rfl rfl (dt (d_fa rfl rfl Tryz.underlying28 rfl Tryz.sizeOf9 rfl rfl) rfl ?_))))
 refine dt (d_lb (i := 1) rfl rfl rfl Tryz.isAgg9 rfl) rfl ?_
 refine dt (d_lens rfl rfl Tryz.underlying9) rfl ?_
 refine dt (d_lss rfl rfl rfl) rfl ?_
 refine l_nil (x_then (e_cond rfl (fun h157 => ?_) (fun h157 => ?_)))
 ·have hby : ((bstr x.natAbs).data.toList.getD i 0).toNat = n / 256 ^ ((dg 256 n).length - 1 - i) % 256 := by rw [← hn]; exact bstr_get n i (by omega)
  refine e_skip ?_
  refine x_then (e_seq (e_block (e_drega (fun _ => False) [10] (by kernel_rfl) ?_)))
  refine a_lin' (n := 5) [(0, 0), (2, 0), (3, 0), (4, 0), (5, 0), (6, 0)] (by kernel_rfl) ?_
  refine r0' rfl rfl rfl rfl (st0 (d_mv rfl rfl)) ?_
  refine r0' rfl rfl rfl rfl (st0 (d_fa rfl rfl Tryz.underlying28 rfl Tryz.sizeOf9 rfl rfl)) ?_
  refine r0' rfl rfl rfl rfl (st0 (d_lb (i := 1) rfl rfl rfl Tryz.isAgg9 rfl)) ?_
  refine r0' rfl rfl rfl rfl (st0 (d_mv rfl rfl)) ?_
  refine r0' rfl rfl rfl rfl (st0 (d_ixs (i := i) rfl rfl rfl Tryz.underlying9 rfl (by omega))) ?_
  refine r0' rfl rfl rfl rfl (st0 (cv_i64 rfl rfl Tryz.underlying5 Tryz.underlying3 ⟨by omega, by rw [hby]; omega⟩)) ?_
  refine r_fin ?_
  refine a_br2 (n := 4) 1 7 (by kernel_rfl) ?_ ?_
  ·refine aact' rfl rfl (t_call (n := 73) (r_small _ _ 256 (by omega) (by omega)) rfl rfl rfl ⟨rfl, rfl, trivial⟩ Tryz.call97 (pre_same 70 rfl rfl rfl pre_nil) rfl hw) (fun v _ => ?_)
   refine a_lin' (n := 2) [(7, 1), (8, 1)] (by kernel_rfl) ?_
   refine r1' rfl rfl (t_bsg (i := 72) (ivs := [(0, _)]) (enc := encN) [((bstr x.natAbs).data.toList.getD i 0).toNat] rfl rfl rfl ⟨rfl, rfl, trivial⟩ Tryz.underlying37 Tryz.ti3 rfl rfl rfl rfl rfl rfl pN.cells rfl rfl hw) (fun v_2 _ => ?_)
   refine r1' rfl rfl (t_call (n := 2) (r_trim_own _ _) rfl rfl rfl ⟨rfl, trivial⟩ Tryz.call60 (pre_lend 72 rfl rfl pN pre_nil) rfl hw) (fun _ _ => ?_)
   refine r_fin ?_
   refine a_imp (s_tz 72 rfl rfl pN) ?_
   refine a_imp (s_oeq 72 (tz_one two_D (by rw [hby]; omega)) rfl rfl) ?_
   refine a_lin' (n := 0) [(9, 1), (10, 3)] (by kernel_rfl) ?_
   refine r1' rfl rfl (t_call (n := 74) (r_plus _ _ _ _ (by have := bl_small (y := (n / 256 ^ ((dg 256 n).length - i))) (n := 256) (by omega); omega) (by rw [hby]; exact Nat.le_trans (bl_mod8 _) (by omega))) rfl rfl rfl ⟨rfl, rfl, trivial⟩ Tryz.call92 (pre_same 73 rfl rfl rfl (pre_lend 72 rfl rfl pN pre_nil)) rfl hw) (fun v_3 _ => ?_)
   refine r3' rfl rfl (t_det (d_as rfl rfl) rfl rfl) (fun _ _ => ?_)
   refine r_fin ?_
   refine a_done (by kernel_rfl) ?_
   refine x_bn ?_
   refine x_then (e_reg (mv rfl rfl (dt (d_add rfl rfl rfl ⟨by omega, by omega⟩) rfl ?_)))
   refine as_ rfl rfl (l_nil (x_imp (s_dup 74 70 rfl rfl rfl) ?_))
   exact x_rnd (i + 1, _) (by first | omega | (dsimp only <;> omega)) (by first | omega | (dsimp only <;> omega)) ⟨rfl, rfl, rfl, rfl, trivial⟩ ⟨by rw [hby, from_step (by omega)]; rfl, rfl, rfl, rfl, trivial⟩
  ·refine aact' rfl rfl (t_bsg (i := 72) (ivs := [(0, _)]) (enc := encN) [((bstr x.natAbs).data.toList.getD i 0).toNat] rfl rfl rfl ⟨rfl, rfl, trivial⟩ Tryz.underlying37 Tryz.ti3 rfl rfl rfl rfl rfl rfl pN.cells rfl rfl hw) (fun v_4 _ => ?_)
   refine a_lin' (n := 2) [(1, 1), (8, 1)] (by kernel_rfl) ?_
   refine r1' rfl rfl (t_call (n := 73) (r_small _ _ 256 (by omega) (by omega)) rfl rfl rfl ⟨rfl, rfl, trivial⟩ Tryz.call97 (pre_same 70 rfl rfl rfl pre_nil) rfl hw) (fun v_5 _ => ?_)
   refine r1' rfl rfl (t_call (n := 2) (r_trim_own _ _) rfl rfl rfl ⟨rfl, trivial⟩ Tryz.call60 (pre_lend 72 rfl rfl pN pre_nil) rfl hw) (fun _ _ => ?_)
   refine r_fin ?_
   refine a_imp (s_tz 72 rfl rfl pN) ?_
   refine a_imp (s_oeq 72 (tz_one two_D (by rw [hby]; omega)) rfl rfl) ?_
   refine a_lin' (n := 0) [(9, 1), (10, 3)] (by kernel_rfl) ?_
   refine r1' rfl rfl (t_call (n := 74) (r_plus _ _ _ _ (by have := bl_small (y := (n / 256 ^ ((dg 256 n).length - i))) (n := 256) (by omega); omega) (by rw [hby]; exact Nat.le_trans (bl_mod8 _) (by omega))) rfl rfl rfl ⟨rfl, rfl, trivial⟩ Tryz.call92 (pre_same 73 rfl rfl rfl (pre_lend 72 rfl rfl pN pre_nil)) rfl hw) (fun v_6 _ => ?_)
   refine r3' rfl rfl (t_det (d_as rfl rfl) rfl rfl) (fun _ _ => ?_)
   refine r_fin ?_
   refine a_done (by kernel_rfl) ?_
   refine x_bn ?_
   refine x_then (e_reg (mv rfl rfl (dt (d_add rfl rfl rfl ⟨by omega, by omega⟩) rfl ?_)))
   refine as_ rfl rfl (l_nil (x_imp (s_dup 74 70 rfl rfl rfl) ?_))
   exact x_rnd (i + 1, _) (by first | omega | (dsimp only <;> omega)) (by first | omega | (dsimp only <;> omega)) ⟨rfl, rfl, rfl, rfl, trivial⟩ ⟨by rw [hby, from_step (by omega)]; rfl, rfl, rfl, rfl, trivial⟩
 ·refine e_exit ?_
  refine x_exit (x_exit (x_be ?_))
  refine x_then (e_seq ?_)
  obtain rfl : i = (dg 256 n).length := by omega
  rw [Nat.sub_self, Nat.pow_zero, Nat.div_one]
  refine e_reg (dt (d_fa rfl rfl Tryz.underlying28 rfl Tryz.sizeOf4 rfl rfl) rfl ?_)
  refine dt (d_lb (i := 1) rfl rfl rfl Tryz.isAgg4 rfl) rfl ?_
  refine mv rfl rfl (tt (t_call (n := 2) (r_made _ _ _ (x) hn (sg_dec x) (by rw [hn]; omega)) rfl rfl rfl ⟨rfl, rfl, trivial⟩ Tryz.call91 (pre_same 70 rfl rfl rfl pre_nil) rfl hw) rfl (fun _ _ => ?_))
  refine tt (t_stw (i := 2) rfl rfl rfl rfl rfl (by decide) rfl Tryz.sizeOf39 rfl rfl ⟨(one_rfl rfl), (one_rd (i := 70) rfl rd_slp), trivial⟩ rfl hw trivial) rfl (fun _ _ => ?_)
  refine l_nil (x_then (e_ret ?_))
  exact x_end (.inl rfl) hsc _ _ (fun a w hs => res1 hs Tryz.results49 (rv_cell (i := 2) rfl rfl Tryz.isAgg39 Tryz.sizeOf39 rfl)) rfl trivial rfl (give_samee 70 rfl rfl rfl (by rw [hn] <;> rfl) give_nil)
set_option maxHeartbeats 4000000 in
theorem r_to (v : Value) (x : Int) (hx : bl x.natAbs ≤ 4000000000) : Cal Tryz.prog 17 #[.agg #[.bool (decide (x < 0)), v]] [d9p v x.natAbs] false (G := Unit) (fun _ => True) (fun _ => wv x) (fun _ => []) := by
 refine cal_in Tryz.func17 rfl Tryz.ntmps17 rfl ⟨rfl, trivial⟩ ?_
 intro w0 sc hw hsc
 simp only [enumEnv, enumPre]
 obtain ⟨n, hn⟩ : ∃ n, n = x.natAbs := ⟨_, rfl⟩
 have hxn : bl n ≤ 4000000000 := by rw [hn]; exact hx
 have hlx := len9_bl x.natAbs
 refine e_seq (e_reg (tt (t_box (i := 2) rfl rfl rfl rfl rfl rfl hw) rfl (fun b _ => ?_)))
 refine tt (t_alloc (i := 3) rfl rfl rfl Tryz.zeroValue28 rfl rfl hw) rfl (fun b_2 _ => ?_)
 refine l_nil (x_then (e_seq (e_reg (as_ rfl rfl (l_nil (x_then (e_seq (e_reg (dt (d_fa rfl rfl Tryz.underlying39 rfl Tryz.sizeOf37 rfl rfl) rfl ?_)))))))))
 refine dt (d_lb (i := 2) rfl rfl rfl Tryz.isAgg37 rfl) rfl ?_
 refine l_imp (s_nil 81 1 3 encN) ?_
 refine tt (t_appa (i := 81) (j := 1) (by_ := 8) rfl rfl rfl rfl rfl rfl (by decide) rfl rd_slp Tryz.underlying37 Tryz.ti3 rfl pN rfl rfl rfl (by simp; omega) (by decide) rfl hw) rfl (fun v _ => ?_)
 refine as_ rfl rfl (l_nil (x_then (e_seq (e_block (e_imp (s_nil 80 1 5 encB) ?_)))))
 refine e_lp [(1, _), (2, _)] [(0, _), (1, _), (2, _), (3, _)] (fun (q : Nat × List Nat × Value × Value) => [(3, q.2.2.1), (4, q.2.2.2)]) (fun (q : Nat × List Nat × Value × Value) => [(80, osl 1 5 encB q.2.2.1 q.2.1), (81, osl 1 3 encN q.2.2.2 (dg 1000000000 q.1))]) (fun (q : Nat × List Nat × Value × Value) => (val 256 q.2.1 + 256 ^ q.2.1.length * q.1 = n) ∧ (∀ d ∈ q.2.1, d < 256) ∧ (q.2.1.length = 0 ∨ 256 ^ (q.2.1.length - 1) ≤ n) ∧ (bl q.1 ≤ bl n)) (fun (q : Nat × List Nat × Value × Value) => q.1) (n, [], .slice none 0 0, _) ⟨by simp [val], by simp, .inl rfl, Nat.le_refl _⟩ ⟨rfl, rfl, rfl, rfl, trivial⟩ ⟨rfl, by rw [hn]; rfl, rfl, rfl, rfl, rfl, trivial⟩ ?_
 rintro ⟨m, bs, vb, vd⟩ ⟨hv, hba, hge, hmn⟩
 dsimp only at hv hba hge hmn
 simp only [List.cons_append, List.nil_append]
 have hlm := len9_bl m
 refine e_seq (e_seq (e_reg (mv rfl rfl (dt (d_len rfl rfl (i := 81) rfl (rd_osl pN) Tryz.underlying37) rfl ?_))))
 refine dt (d_gtr rfl rfl rfl) rfl ?_
 refine l_nil (x_then (e_cond rfl (fun h167 => ?_) (fun h167 => ?_)))
 ·have hm0 : 0 < m := len9_pos (by omega)
  have hgn := to_ge hv hm0
  have hbl := to_len hgn
  refine e_skip ?_
  refine x_then (e_block (e_seq (e_reg (as_ rfl rfl (l_nil (x_then (e_seq (e_seq (e_reg (mv rfl rfl (dt (d_len rfl rfl (i := 81) rfl (rd_osl pN) Tryz.underlying37) rfl ?_)))))))))))
  refine dt (d_sub rfl rfl rfl ⟨by omega, by omega⟩) rfl ?_
  refine as_ rfl rfl (l_nil (x_then (e_block (e_lp [(1, _), (2, _), (3, _), (4, _)] [(0, _), (80, _), (1, _), (2, _), (3, _)] (fun (q : Nat × List Nat × Nat) => [(6, .int .i64 ((q.1 : Int) - 1)), (5, .int .i64 (q.2.2 : Int))]) (fun (q : Nat × List Nat × Nat) => [(81, osl 1 3 encN vd q.2.1)]) (fun (q : Nat × List Nat × Nat) => (q.1 ≤ (dg 1000000000 m).length) ∧ (q.2.1.length = (dg 1000000000 m).length) ∧ (∀ d ∈ q.2.1, d < 1000000000) ∧ (∀ j, j < q.1 → q.2.1.getD j 0 = (dg 1000000000 m).getD j 0) ∧ (q.2.2 < 256) ∧ (val 1000000000 (q.2.1.drop q.1) * 256 + q.2.2 = val 1000000000 ((dg 1000000000 m).drop q.1))) (fun (q : Nat × List Nat × Nat) => q.1) ((dg 1000000000 m).length, dg 1000000000 m, 0) ⟨Nat.le_refl _, rfl, dg_lt two_D m, fun j _ => rfl, by first | omega | (dsimp only <;> omega), by simp [List.drop_length, val]⟩ ⟨rfl, rfl, rfl, rfl, rfl, rfl, trivial⟩ ⟨rfl, rfl, rfl, rfl, rfl, rfl, trivial⟩ ?_))))
  rintro ⟨k, p, r⟩ ⟨hk, hpl, hpa, hpk, hr, hpv⟩
  dsimp only at hk hpl hpa hpk hr hpv
  simp only [List.cons_append, List.nil_append]
  have hda := getD_lt D_pos (dg_lt two_D m) (k - 1)
  refine e_seq (e_seq (e_reg (mv rfl rfl (dt (d_geq rfl rfl rfl) rfl ?_))))
  refine l_nil (x_then (e_cond rfl (fun h169 => ?_) (fun h169 => ?_)))
  ·refine e_skip ?_
   refine x_then (e_seq (e_block (e_seq (e_reg (mv rfl rfl (dt (n_mul (n := 1000000000) rfl rfl rfl (by omega)) rfl ?_))))))
   refine mv rfl rfl (mv rfl rfl (dt (d_ixa (ii := 81) (i := (k - 1)) rfl rfl rfl rfl (rd_osl pN) Tryz.underlying37 Tryz.sizeOf3 (by omega) (by omega)) rfl ?_))
   refine dt (d_lde (ii := 81) 0 rfl rfl rfl (rd_osl pN) pN (by omega)) rfl ?_
   refine dt (n_add rfl rfl rfl (by have := getD_lt D_pos hpa (k - 1); omega)) rfl ?_
   refine as_ rfl rfl (l_nil (x_then (e_seq (e_reg (mv rfl rfl (mv rfl rfl (mv rfl rfl (dt (n_quo (n := 256) rfl rfl rfl (by have := getD_lt D_pos hpa (k - 1); omega) (by omega)) rfl ?_))))))))
   refine dt (d_ixa (ii := 81) (i := (k - 1)) rfl rfl rfl rfl (rd_osl pN) Tryz.underlying37 Tryz.sizeOf3 (by omega) (by omega)) rfl ?_
   refine tt (t_ste (i := 81) (enc := encN) _ rfl rfl rfl rfl rfl rfl (by decide) pN (by omega) rfl hw) rfl (fun _ _ => ?_)
   refine l_nil (x_then (e_reg (mv rfl rfl (dt (n_rem (n := 256) rfl rfl rfl (by omega)) rfl ?_))))
   refine as_ rfl rfl (l_nil (x_bn ?_))
   refine x_then (e_reg (mv rfl rfl (dt (d_sub rfl rfl rfl ⟨by omega, by omega⟩) rfl ?_)))
   refine as_ rfl rfl (l_nil ?_)
   exact x_rnd (k - 1, _, _) ⟨by first | omega | (dsimp only <;> omega), by simp [hpl], all_set hpa _ _ (to_digit hr (getD_lt D_pos hpa _)), fun j hj => by dsimp only at hj ⊢; rw [getD_set _ _ _ _ _ (by omega), if_neg (by omega)]; exact hpk j (by omega), Nat.mod_lt _ (by omega), by dsimp only; rw [hpk (k - 1) (by omega)]; exact to_step (by omega) (by omega) (by omega) hpv⟩ (by first | omega | (dsimp only <;> omega)) ⟨by rw [show (((k - 1 : Nat) : Int) - 1) = (k : Int) - 1 - 1 by omega]; rfl, rfl, rfl, rfl, rfl, rfl, trivial⟩ ⟨rfl, rfl, rfl, rfl, rfl, rfl, trivial⟩
  ·refine e_exit ?_
   refine x_exit (x_exit (x_be ?_))
   refine x_then (e_seq ?_)
   obtain rfl : k = 0 := by omega
   rw [List.drop_zero, List.drop_zero, val_dg two_D] at hpv
   have hmr : m % 256 = r % 256 := by omega
   have hdm : dg 1000000000 (m / 256) = tz p := by rw [← dg_val two_D p hpa]; congr 1; omega
   refine e_reg (mv rfl rfl (mv rfl rfl (dt (cv_u8 rfl rfl Tryz.underlying3 Tryz.underlying5) rfl ?_)))
   refine tt (t_bsg (i := 4) (ivs := [(0, _)]) (enc := encB) [r % 256] rfl rfl rfl ⟨rfl, rfl, trivial⟩ Tryz.underlying26 Tryz.ti5 rfl rfl rfl rfl rfl rfl pB.cells rfl rfl hw) rfl (fun v_2 _ => ?_)
   refine tt (t_appa (i := 80) (j := 4) (by_ := 1) rfl rfl rfl rfl rfl rfl (by decide) rfl (rd_osl pB) Tryz.underlying26 Tryz.ti5 rfl pB rfl rfl rfl (by simp; omega) (by decide) rfl hw) rfl (fun v_3 _ => ?_)
   refine as_ rfl rfl (l_nil (x_then (e_reg (mv rfl rfl (tt (t_call (n := 4) (r_trim_own _ _) rfl rfl rfl ⟨rfl, trivial⟩ Tryz.call60 (pre_lend 81 rfl rfl pN pre_nil) rfl hw) rfl (fun _ _ => ?_))))))
   refine l_imp (s_tz 81 rfl rfl pN) ?_
   refine as_ rfl rfl (l_nil (x_bn ?_))
   exact x_rnd (m / 256, bs ++ [m % 256], _, _) ⟨to_push hv, all_snoc hba (Nat.mod_lt _ (by omega)), .inr (by simpa using hgn), Nat.le_trans (bl_mono (Nat.div_le_self _ _)) hmn⟩ (Nat.div_lt_self hm0 (by omega)) ⟨rfl, rfl, rfl, rfl, trivial⟩ ⟨by rw [hmr] ; rfl, by rw [hdm]; rfl, rfl, rfl, rfl, rfl, trivial⟩
 ·have hm0 : m = 0 := (dg_nil_iff two_D m).1 (by omega)
  have hbs : bs = dg 256 n := tz_full (by omega) hba (by rw [hm0, Nat.mul_zero, Nat.add_zero] at hv; exact hv) hge
  have hlb : bs.length ≤ 4000000000 := by rw [hbs, len256]; omega
  refine e_exit ?_
  refine x_exit (x_exit (x_be ?_))
  refine x_then (e_seq (e_reg (as_ rfl rfl (l_nil (x_then (e_seq (e_seq (e_reg (mv rfl rfl (dt (d_len rfl rfl (i := 80) rfl (rd_osl pB) Tryz.underlying26) rfl ?_))))))))))
  refine dt (d_sub rfl rfl rfl ⟨by omega, by omega⟩) rfl ?_
  refine as_ rfl rfl (l_nil (x_then (e_block (e_imp (s_nil 82 1 5 encB) ?_))))
  refine e_lp [(1, _), (2, _), (3, _)] [(0, _), (80, _), (81, _), (1, _), (2, _), (3, _)] (fun (q : Nat × Value) => [(8, .int .i64 ((q.1 : Int) - 1)), (7, q.2)]) (fun (q : Nat × Value) => [(82, osl 1 5 encB q.2 (bs.drop q.1).reverse)]) (fun (q : Nat × Value) => (q.1 ≤ bs.length)) (fun (q : Nat × Value) => q.1) (bs.length, .slice none 0 0) (Nat.le_refl _) ⟨rfl, rfl, rfl, rfl, rfl, trivial⟩ ⟨by rw [List.drop_length]; rfl, rfl, rfl, rfl, rfl, rfl, rfl, trivial⟩ ?_
  rintro ⟨k, vo⟩ hk
  dsimp only at hk
  simp only [List.cons_append, List.nil_append]
  have hdl : (bs.drop k).length = bs.length - k := List.length_drop
  refine e_seq (e_seq (e_reg (mv rfl rfl (dt (d_geq rfl rfl rfl) rfl ?_))))
  refine l_nil (x_then (e_cond rfl (fun h178 => ?_) (fun h178 => ?_)))
  ·refine e_skip ?_
   refine x_then (e_seq (e_block (e_reg (mv rfl rfl (mv rfl rfl (mv rfl rfl (dt (d_ixa (ii := 80) (i := (k - 1)) rfl rfl rfl rfl (rd_osl pB) Tryz.underlying26 Tryz.sizeOf5 (by omega) (by omega)) rfl ?_)))))))
   refine dt (d_lde (ii := 80) 0 rfl rfl rfl (rd_osl pB) pB (by omega)) rfl ?_
   refine tt (t_bsg (i := 5) (ivs := [(0, _)]) (enc := encB) [bs.getD (k - 1) 0] rfl rfl rfl ⟨rfl, rfl, trivial⟩ Tryz.underlying26 Tryz.ti5 rfl rfl rfl rfl rfl rfl pB.cells rfl rfl hw) rfl (fun v_4 _ => ?_)
   refine tt (t_appa (i := 82) (j := 5) (by_ := 1) rfl rfl rfl rfl rfl rfl (by decide) rfl (rd_osl pB) Tryz.underlying26 Tryz.ti5 rfl pB rfl rfl rfl (by simp; omega) (by decide) rfl hw) rfl (fun v_5 _ => ?_)
   refine as_ rfl rfl (l_nil (x_bn ?_))
   refine x_then (e_reg (mv rfl rfl (dt (d_sub rfl rfl rfl ⟨by omega, by omega⟩) rfl ?_)))
   refine as_ rfl rfl (l_nil ?_)
   exact x_rnd (k - 1, _) (by first | omega | (dsimp only <;> omega)) (by first | omega | (dsimp only <;> omega)) ⟨by rw [show (((k - 1 : Nat) : Int) - 1) = (k : Int) - 1 - 1 by omega]; rfl, rfl, rfl, rfl, rfl, trivial⟩ ⟨by rw [← drop_rev (by omega) hk]; rfl, rfl, rfl, rfl, rfl, rfl, rfl, trivial⟩
  ·refine e_exit ?_
   refine x_exit (x_exit (x_be ?_))
   refine x_then (e_seq (e_reg (dt (d_fa rfl rfl Tryz.underlying39 rfl Tryz.sizeOf4 rfl rfl) rfl ?_)))
   refine dt (d_lb (i := 2) rfl rfl rfl Tryz.isAgg4 rfl) rfl ?_
   refine mv rfl rfl (dt (d_b2s rfl rfl (i := 82) rfl (rd_osl pB) Tryz.underlying26 Tryz.underlying9 Tryz.underlying5) rfl ?_)
   refine dt (d_bld (ivs := [(0, _), (1, _)]) rfl ⟨rfl, rfl, rfl, rfl, trivial⟩ (fun a w hs => b28_01 ((one_rfl rfl) a w hs) ((one_rfl rfl) a w hs))) rfl ?_
   refine tt (t_stw (i := 3) rfl rfl rfl rfl rfl (by decide) rfl Tryz.sizeOf28 rfl rfl ⟨(one_rfl rfl), (one_rfl rfl), trivial⟩ rfl hw trivial) rfl (fun _ _ => ?_)
   refine l_nil (x_then (e_ret ?_))
   obtain rfl : k = 0 := by omega
   exact x_end (.inl rfl) hsc () _ (fun a w hs => res1 hs Tryz.results17 (rv_cell (i := 3) rfl rfl Tryz.isAgg28 Tryz.sizeOf28 rfl)) (by rw [bstr_bs hbs, hn] <;> rfl) trivial rfl give_nil
theorem r_gcd (v w : Value) (x y : Int) (hx : bl x.natAbs ≤ 3000000000) (hy : bl y.natAbs ≤ 3000000000) : Cal Tryz.prog 134 #[.agg #[.bool (decide (x < 0)), v], .agg #[.bool (decide (y < 0)), w]] [d9p v x.natAbs, d9p w y.natAbs] true (G := Value) (fun r => True) (fun r => .agg #[.bool (decide ((Int.gcd x y : Int) < 0)), r]) (fun r => [d9p r ((Int.gcd x y : Int)).natAbs]) := by
 refine cal_in Tryz.func134 rfl Tryz.ntmps134 rfl ⟨rfl, rfl, trivial⟩ ?_
 intro w0 sc hw hsc
 simp only [enumEnv, enumPre]
 refine e_seq (e_reg (tt (t_box (i := 3) rfl rfl rfl rfl rfl rfl hw) rfl (fun b _ => ?_)))
 refine tt (t_box (i := 4) rfl rfl rfl rfl rfl rfl hw) rfl (fun b_2 _ => ?_)
 refine tt (t_alloc (i := 5) rfl rfl rfl Tryz.zeroValue39 rfl rfl hw) rfl (fun b_3 _ => ?_)
 refine l_nil (x_then (e_seq (e_dreg (fun _ => False) [(0, 0), (1, 0), (2, 0), (3, 0), (4, 0), (5, 3)] (by kernel_rfl) ?_ ?_)))
 ·kernel_rfl
 refine r0' rfl rfl rfl rfl (st0 (d_fa rfl rfl Tryz.underlying39 rfl Tryz.sizeOf37 rfl rfl)) ?_
 refine r0' rfl rfl rfl rfl (st0 (d_lb (i := 3) rfl rfl rfl Tryz.isAgg37 rfl)) ?_
 refine r0' rfl rfl rfl rfl (st0 (d_fa rfl rfl Tryz.underlying39 rfl Tryz.sizeOf37 rfl rfl)) ?_
 refine r0' rfl rfl rfl rfl (st0 (d_lb (i := 4) rfl rfl rfl Tryz.isAgg37 rfl)) ?_
 refine r0' rfl rfl rfl rfl (st0 (d_as rfl rfl)) ?_
 refine r3' rfl rfl (t_det (d_as rfl rfl) rfl rfl) (fun _ _ => ?_)
 refine r_end ?_
 refine x_then (e_seq (e_block (e_imp (s_dup 1 91 rfl rfl rfl) ?_)))
 refine e_imp (s_dup 2 92 rfl rfl rfl) ?_
 refine e_lp [(4, _)] [(0, _), (1, _), (2, _), (3, _), (4, _), (5, _)] (fun (q : Value × Value × Nat × Nat) => [(5, q.1), (6, q.2.1)]) (fun (q : Value × Value × Nat × Nat) => [(91, d9p q.1 q.2.2.1), (92, d9p q.2.1 q.2.2.2)]) (fun (q : Value × Value × Nat × Nat) => (Nat.gcd q.2.2.1 q.2.2.2 = Nat.gcd x.natAbs y.natAbs) ∧ (bl q.2.2.1 ≤ 3000000000) ∧ (bl q.2.2.2 ≤ 3000000000)) (fun (q : Value × Value × Nat × Nat) => q.2.2.2) (v, w, x.natAbs, y.natAbs) ⟨rfl, hx, hy⟩ ⟨rfl, rfl, rfl, trivial⟩ ⟨rfl, rfl, rfl, rfl, rfl, rfl, rfl, rfl, trivial⟩ ?_
 rintro ⟨va, vb, a, b⟩ ⟨hg, ha, hb⟩
 dsimp only at hg ha hb
 simp only [List.cons_append, List.nil_append]
 refine e_seq (e_seq (e_reg (mv rfl rfl (dt (d_len rfl rfl (i := 92) rfl rd_slp Tryz.underlying37) rfl ?_))))
 refine dt (d_gtr rfl rfl rfl) rfl ?_
 refine l_nil (x_then (e_cond rfl (fun h238 => ?_) (fun h238 => ?_)))
 ·have hb0 : 0 < b := len9_pos (by omega)
  refine e_skip ?_
  refine x_then (e_block (e_seq (e_reg (mv rfl rfl (mv rfl rfl (tt (t_call (n := 6) (r_over _ _ _ _ (by omega) (by omega) hb0) rfl rfl rfl ⟨rfl, rfl, trivial⟩ Tryz.call112 (pre_same 91 rfl rfl rfl (pre_same 92 rfl rfl rfl pre_nil)) rfl hw) rfl (fun g _ => ?_)))))))
  refine mv rfl rfl (dt (d_ex rfl rfl rfl) rfl ?_)
  refine dt (d_ex rfl rfl rfl) rfl ?_
  refine as_ rfl rfl (as_ rfl rfl (l_nil (x_then (e_reg (mv rfl rfl (mv rfl rfl (as_ rfl rfl (as_ rfl rfl (l_nil (x_bn ?_))))))))))
  have hlt : a % b < b := Nat.mod_lt _ hb0
  refine x_imp (s_dup 92 91 rfl rfl rfl) ?_
  refine x_imp (s_dup 7 92 rfl rfl rfl) ?_
  exact x_rnd (_, _, b, a % b) ⟨by dsimp only; rw [← hg, Nat.gcd_comm b, ← Nat.gcd_rec, Nat.gcd_comm], hb, Nat.le_trans (bl_mono (Nat.le_of_lt hlt)) hb⟩ hlt ⟨rfl, rfl, rfl, trivial⟩ ⟨rfl, rfl, rfl, rfl, rfl, rfl, rfl, rfl, trivial⟩
 ·have hb0 : b = 0 := (dg_nil_iff two_D b).1 (by omega)
  have ha0 : a = Nat.gcd x.natAbs y.natAbs := by rw [← hg, hb0, Nat.gcd_zero_right]
  refine e_exit ?_
  refine x_exit (x_exit (x_be ?_))
  refine x_then (e_seq (e_reg (mv rfl rfl (tt (t_call (n := 7) (r_made _ _ _ ((Int.gcd x y : Int)) (by rw [ha0] <;> rfl) (by simp [sg]) (by omega)) rfl rfl rfl ⟨rfl, rfl, trivial⟩ Tryz.call91 (pre_same 91 rfl rfl rfl pre_nil) rfl hw) rfl (fun _ _ => ?_)))))
  refine tt (t_stw (i := 5) rfl rfl rfl rfl rfl (by decide) rfl Tryz.sizeOf39 rfl rfl ⟨(one_rfl rfl), (one_rd (i := 91) rfl rd_slp), trivial⟩ rfl hw trivial) rfl (fun _ _ => ?_)
  refine l_nil (x_then (e_ret ?_))
  exact x_end (.inl rfl) hsc _ _ (fun a w hs => res1 hs Tryz.results134 (rv_cell (i := 5) rfl rfl Tryz.isAgg39 Tryz.sizeOf39 rfl)) rfl trivial rfl (give_samee 91 rfl rfl rfl (by rw [ha0] <;> rfl) give_nil)
set_option maxHeartbeats 4000000 in
theorem r_quo (v w : Value) (x y : Int) (hx : bl x.natAbs ≤ 500000000) (hy : bl y.natAbs ≤ 500000000) (hy0 : y ≠ 0) : Cal Tryz.prog 63 #[.agg #[.bool (decide (x < 0)), v], .agg #[.bool (decide (y < 0)), w]] [d9p v x.natAbs, d9p w y.natAbs] true (G := Value × Value) (fun r => True) (fun r => .tuple #[.agg #[.bool (decide (x / y < 0)), r.1], .agg #[.bool (decide (x % y < 0)), r.2]]) (fun r => [d9p r.1 (x / y).natAbs, d9p r.2 (x % y).natAbs]) := by
 refine cal_in Tryz.func63 rfl Tryz.ntmps63 rfl ⟨rfl, rfl, trivial⟩ ?_
 intro w0 sc hw hsc
 simp only [enumEnv, enumPre]
 have hyp : 0 < y.natAbs := by omega
 have hb1 := bl_tdiv x y
 have hb2 := bl_tdivmul x y
 have hb3 := bl_isub x (x.tdiv y * y)
 have hsf := sub_fix (x := x) hy0
 have hb4 := bl_isub (x.tdiv y) 1
 have hb5 := bl_iadd (x.tdiv y) 1
 have hb6 : bl (1 : Int).natAbs ≤ 1 := by decide
 have hb7 := bl_imul (x.tdiv y - 1) y
 have hb8 := bl_imul (x.tdiv y + 1) y
 refine e_seq (e_reg (tt (t_box (i := 3) rfl rfl rfl rfl rfl rfl hw) rfl (fun b _ => ?_)))
 refine tt (t_box (i := 4) rfl rfl rfl rfl rfl rfl hw) rfl (fun b_2 _ => ?_)
 refine tt (t_alloc (i := 5) rfl rfl rfl Tryz.zeroValue39 rfl rfl hw) rfl (fun b_3 _ => ?_)
 refine tt (t_alloc (i := 6) rfl rfl rfl Tryz.zeroValue39 rfl rfl hw) rfl (fun b_4 _ => ?_)
 refine l_nil (x_then (e_seq (e_reg (dt (d_fa rfl rfl Tryz.underlying39 rfl Tryz.sizeOf37 rfl rfl) rfl ?_))))
 refine dt (d_lb (i := 3) rfl rfl rfl Tryz.isAgg37 rfl) rfl ?_
 refine dt (d_fa rfl rfl Tryz.underlying39 rfl Tryz.sizeOf37 rfl rfl) rfl ?_
 refine dt (d_lb (i := 4) rfl rfl rfl Tryz.isAgg37 rfl) rfl ?_
 refine tt (t_call (n := 70) (r_over _ _ _ _ (by omega) (by omega) hyp) rfl rfl rfl ⟨rfl, rfl, trivial⟩ Tryz.call112 (pre_same 1 rfl rfl rfl (pre_same 2 rfl rfl rfl pre_nil)) rfl hw) rfl (fun g _ => ?_)
 refine mv rfl rfl (dt (d_ex rfl rfl rfl) rfl ?_)
 refine dt (d_ex rfl rfl rfl) rfl ?_
 refine as_ rfl rfl (as_ rfl rfl (l_nil (x_then (e_seq (e_reg (dt (d_fa rfl rfl Tryz.underlying39 rfl Tryz.sizeOf4 rfl rfl) rfl ?_))))))
 refine dt (d_lb (i := 3) rfl rfl rfl Tryz.isAgg4 rfl) rfl ?_
 refine dt (d_fa rfl rfl Tryz.underlying39 rfl Tryz.sizeOf4 rfl rfl) rfl ?_
 refine dt (d_lb (i := 4) rfl rfl rfl Tryz.isAgg4 rfl) rfl ?_
 refine dt (d_neb rfl rfl rfl Tryz.underlying4) rfl ?_
 refine mv rfl rfl (tt (t_call (n := 6) (r_made _ _ _ (x.tdiv y) (tdiv_abs x y) (sg_tdiv x y) (by rw [tdiv_abs]; omega)) rfl rfl rfl ⟨rfl, rfl, trivial⟩ Tryz.call91 (pre_same 70 rfl rfl rfl pre_nil) rfl hw) rfl (fun _ _ => ?_))
 refine l_imp (s_eqp 70 (congrArg (d9p _) (tdiv_abs x y)) rfl rfl) ?_
 refine tt (t_alloc (i := 97) rfl rfl rfl Tryz.zeroValue39 rfl rfl hw) rfl (fun b_5 _ => ?_)
 refine tt (t_stw (i := 97) rfl rfl rfl rfl rfl (by decide) rfl Tryz.sizeOf39 rfl rfl ⟨(one_rfl rfl), (one_rd (i := 70) rfl rd_slp), trivial⟩ rfl hw trivial) rfl (fun _ _ => ?_)
 refine l_nil (x_then (e_jn [(2, _), (3, _), (4, _), (5, _), (7, _), (8, _)] [(0, _), (1, _), (2, _), (3, _), (4, _), (5, _), (6, _), (70, _), (71, _), (97, _)] (fun (q : Value × Nat) => [(9, .pointer (some ⟨q.2, 0, none⟩))]) (fun (q : Value × Nat) => [(72, d9p q.1 (x - x.tdiv y * y).natAbs), (98, box q.2 39 #[.bool (decide ((x - x.tdiv y * y) < 0)), q.1])]) (fun (q : Value × Nat) => True) ⟨rfl, rfl, rfl, rfl, rfl, rfl, trivial⟩ ⟨rfl, rfl, rfl, rfl, rfl, rfl, rfl, rfl, rfl, rfl, trivial⟩ ?_ ?_))
 ·refine e_drega (fun _ => False) [6] (by kernel_rfl) ?_
  refine a_lin' (n := 4) [(0, 0), (1, 0), (2, 0)] (by kernel_rfl) ?_
  refine r0' rfl rfl rfl rfl (st0 (d_lb2 (i := 3) rfl rfl rfl Tryz.isAgg39 Tryz.sizeOf39 rfl rfl)) ?_
  refine r0' rfl rfl rfl rfl (st0 (d_lb2 (i := 97) rfl rfl rfl Tryz.isAgg39 Tryz.sizeOf39 rfl rfl)) ?_
  refine r0' rfl rfl rfl rfl (st0 (d_lb2 (i := 4) rfl rfl rfl Tryz.isAgg39 Tryz.sizeOf39 rfl rfl)) ?_
  refine r_fin ?_
  refine a_br2 (n := 3) 3 5 (by kernel_rfl) ?_ ?_
  ·refine aact' rfl rfl (t_call (n := 73) (r_mul _ _ _ _ (by omega) (by omega)) rfl rfl rfl ⟨rfl, rfl, trivial⟩ Tryz.call44 (pre_same 70 rfl rfl rfl (pre_same 2 rfl rfl rfl pre_nil)) rfl hw) (fun v _ => ?_)
   refine a_br2 (n := 2) 4 5 (by kernel_rfl) ?_ ?_
   ·refine aact' rfl rfl (t_call (n := 72) (r_sub _ _ _ _ (by omega) (by omega)) rfl rfl rfl ⟨rfl, rfl, trivial⟩ Tryz.call95 (pre_same 1 rfl rfl rfl (pre_same 73 rfl rfl rfl pre_nil)) rfl hw) (fun v_2 _ => ?_)
    refine a_lin' (n := 0) [(5, 1), (6, 3)] (by kernel_rfl) ?_
    refine r1' rfl rfl (t_alloc (i := 98) rfl rfl rfl Tryz.zeroValue39 rfl rfl hw) (fun b_6 _ => ?_)
    refine r3' rfl rfl (t_stw (i := 98) rfl rfl rfl rfl rfl (by decide) rfl Tryz.sizeOf39 rfl rfl ⟨(one_rfl rfl), (one_rd (i := 72) rfl rd_slp), trivial⟩ rfl hw trivial) (fun _ _ => ?_)
    refine r_fin ?_
    refine a_done (by kernel_rfl) ?_
    exact x_jn (_, _) trivial ⟨rfl, rfl, rfl, rfl, rfl, rfl, rfl, trivial⟩ ⟨rfl, rfl, rfl, rfl, rfl, rfl, rfl, rfl, rfl, rfl, rfl, rfl, trivial⟩
   ·refine aact' rfl rfl (t_alloc (i := 98) rfl rfl rfl Tryz.zeroValue39 rfl rfl hw) (fun b_7 _ => ?_)
    refine a_lin' (n := 0) [(4, 1), (6, 3)] (by kernel_rfl) ?_
    refine r1' rfl rfl (t_call (n := 72) (r_sub _ _ _ _ (by omega) (by omega)) rfl rfl rfl ⟨rfl, rfl, trivial⟩ Tryz.call95 (pre_same 1 rfl rfl rfl (pre_same 73 rfl rfl rfl pre_nil)) rfl hw) (fun v_3 _ => ?_)
    refine r3' rfl rfl (t_stw (i := 98) rfl rfl rfl rfl rfl (by decide) rfl Tryz.sizeOf39 rfl rfl ⟨(one_rfl rfl), (one_rd (i := 72) rfl rd_slp), trivial⟩ rfl hw trivial) (fun _ _ => ?_)
    refine r_fin ?_
    refine a_done (by kernel_rfl) ?_
    exact x_jn (_, _) trivial ⟨rfl, rfl, rfl, rfl, rfl, rfl, rfl, trivial⟩ ⟨rfl, rfl, rfl, rfl, rfl, rfl, rfl, rfl, rfl, rfl, rfl, rfl, trivial⟩
  ·refine aact' rfl rfl (t_alloc (i := 98) rfl rfl rfl Tryz.zeroValue39 rfl rfl hw) (fun b_8 _ => ?_)
   refine a_lin' (n := 0) [(3, 1), (4, 1), (6, 3)] (by kernel_rfl) ?_
   refine r1' rfl rfl (t_call (n := 73) (r_mul _ _ _ _ (by omega) (by omega)) rfl rfl rfl ⟨rfl, rfl, trivial⟩ Tryz.call44 (pre_same 70 rfl rfl rfl (pre_same 2 rfl rfl rfl pre_nil)) rfl hw) (fun v_4 _ => ?_)
   refine r1' rfl rfl (t_call (n := 72) (r_sub _ _ _ _ (by omega) (by omega)) rfl rfl rfl ⟨rfl, rfl, trivial⟩ Tryz.call95 (pre_same 1 rfl rfl rfl (pre_same 73 rfl rfl rfl pre_nil)) rfl hw) (fun v_5 _ => ?_)
   refine r3' rfl rfl (t_stw (i := 98) rfl rfl rfl rfl rfl (by decide) rfl Tryz.sizeOf39 rfl rfl ⟨(one_rfl rfl), (one_rd (i := 72) rfl rd_slp), trivial⟩ rfl hw trivial) (fun _ _ => ?_)
   refine r_fin ?_
   refine a_done (by kernel_rfl) ?_
   exact x_jn (_, _) trivial ⟨rfl, rfl, rfl, rfl, rfl, rfl, rfl, trivial⟩ ⟨rfl, rfl, rfl, rfl, rfl, rfl, rfl, rfl, rfl, rfl, rfl, rfl, trivial⟩
 ·rintro ⟨vr, b9⟩ -
  simp only [List.cons_append, List.nil_append]
  refine e_jn [(4, _), (5, _), (7, _), (8, _), (9, _)] [(0, _), (72, _), (1, _), (2, _), (3, _), (4, _), (5, _), (6, _), (70, _), (71, _)] (fun (q : Value × Value) => []) (fun (q : Value × Value) => [(75, d9p q.1 (x / y).natAbs), (76, d9p q.2 (x % y).natAbs), (97, box b_5 39 #[.bool (decide (x / y < 0)), q.1]), (98, box b9 39 #[.bool (decide (x % y < 0)), q.2])]) (fun (q : Value × Value) => True) ⟨rfl, rfl, rfl, rfl, rfl, trivial⟩ ⟨rfl, rfl, rfl, rfl, rfl, rfl, rfl, rfl, rfl, rfl, trivial⟩ ?_ ?_
  ·refine e_seq (e_reg (dt (d_lb2 (i := 98) rfl rfl rfl Tryz.isAgg39 Tryz.sizeOf39 rfl rfl) rfl ?_))
   refine tt (t_call (n := 6) (r_sign _ _ (by omega)) rfl rfl rfl ⟨rfl, trivial⟩ Tryz.call61 (pre_same 72 rfl rfl rfl pre_nil) rfl hw) rfl (fun _ _ => ?_)
   refine dt (d_lss rfl rfl rfl) rfl ?_
   refine l_nil (x_then (e_cond rfl (fun h223 => ?_) (fun h223 => ?_)))
   ·have hrn : x.tmod y < 0 := by rw [← hsf]; exact (sign_neg_iff _).1 h223
    refine e_seq (e_seq (e_reg (dt (d_lb2 (i := 4) rfl rfl rfl Tryz.isAgg39 Tryz.sizeOf39 rfl rfl) rfl ?_)))
    refine tt (t_call (n := 6) (r_sign _ _ (by omega)) rfl rfl rfl ⟨rfl, trivial⟩ Tryz.call61 (pre_same 2 rfl rfl rfl pre_nil) rfl hw) rfl (fun _ _ => ?_)
    refine dt (d_gtr rfl rfl rfl) rfl ?_
    refine l_nil (x_then (e_cond rfl (fun h224 => ?_) (fun h224 => ?_)))
    ·have hyp0 : 0 < y := by have h2 := decide_eq_decide.1 (sign_pos_iff y); omega
     obtain ⟨hq, hr⟩ := quo_pos hyp0 hrn
     refine e_dreg (fun _ => False) [(0, 0), (1, 1), (2, 3), (3, 3)] (by kernel_rfl) ?_ ?_
     ·kernel_rfl
     refine r0' rfl rfl rfl rfl (st0 (d_lb2 (i := 97) rfl rfl rfl Tryz.isAgg39 Tryz.sizeOf39 rfl rfl)) ?_
     refine r1' rfl rfl (t_call (n := 7) (r_num 1 ⟨by omega, by omega⟩) rfl rfl rfl ⟨rfl, trivial⟩ Tryz.call43 pre_nil rfl hw) (fun v_6 _ => ?_)
     refine r3' rfl rfl (t_call (n := 8) (r_sub _ _ _ _ (by omega) (by omega)) rfl rfl rfl ⟨rfl, rfl, trivial⟩ Tryz.call95 (pre_same 70 rfl rfl rfl (pre_same 7 rfl rfl rfl pre_nil)) rfl hw) (fun v_7 _ => ?_)
     refine r3' rfl rfl (t_stw (i := 97) rfl rfl rfl rfl rfl (by decide) rfl Tryz.sizeOf39 rfl rfl ⟨(one_rfl rfl), (one_rd (i := 8) rfl rd_slp), trivial⟩ rfl hw trivial) (fun _ _ => ?_)
     refine r_end ?_
     refine x_then (e_dreg (fun _ => False) [(0, 0), (1, 0), (2, 0), (3, 1), (4, 1), (5, 3)] (by kernel_rfl) ?_ ?_)
     ·kernel_rfl
     refine r0' rfl rfl rfl rfl (st0 (d_lb2 (i := 3) rfl rfl rfl Tryz.isAgg39 Tryz.sizeOf39 rfl rfl)) ?_
     refine r0' rfl rfl rfl rfl (st0 (d_lb2 (i := 97) rfl rfl rfl Tryz.isAgg39 Tryz.sizeOf39 rfl rfl)) ?_
     refine r0' rfl rfl rfl rfl (st0 (d_lb2 (i := 4) rfl rfl rfl Tryz.isAgg39 Tryz.sizeOf39 rfl rfl)) ?_
     refine r1' rfl rfl (t_call (n := 9) (r_mul _ _ _ _ (by omega) (by omega)) rfl rfl rfl ⟨rfl, rfl, trivial⟩ Tryz.call44 (pre_same 8 rfl rfl rfl (pre_same 2 rfl rfl rfl pre_nil)) rfl hw) (fun v_8 _ => ?_)
     refine r1' rfl rfl (t_call (n := 10) (r_sub _ _ _ _ (by omega) (by omega)) rfl rfl rfl ⟨rfl, rfl, trivial⟩ Tryz.call95 (pre_same 1 rfl rfl rfl (pre_same 9 rfl rfl rfl pre_nil)) rfl hw) (fun v_9 _ => ?_)
     refine r3' rfl rfl (t_stw (i := 98) rfl rfl rfl rfl rfl (by decide) rfl Tryz.sizeOf39 rfl rfl ⟨(one_rfl rfl), (one_rd (i := 10) rfl rd_slp), trivial⟩ rfl hw trivial) (fun _ _ => ?_)
     refine r_end ?_
     refine x_imp (s_dup 8 75 rfl rfl rfl) ?_
     refine x_imp (s_dup 10 76 rfl rfl rfl) ?_
     exact x_jn (v_7, v_9) trivial ⟨rfl, rfl, rfl, rfl, rfl, trivial⟩ ⟨by rw [hq]; rfl, by rw [hr]; rfl, by rw [hq]; rfl, by rw [hr]; rfl, rfl, rfl, rfl, rfl, rfl, rfl, rfl, rfl, rfl, rfl, trivial⟩
    ·have hyn0 : y < 0 := by have h2 := decide_eq_decide.1 (sign_pos_iff y); omega
     obtain ⟨hq, hr⟩ := quo_neg hyn0 hrn
     refine e_dreg (fun _ => False) [(0, 0), (1, 1), (2, 3), (3, 3)] (by kernel_rfl) ?_ ?_
     ·kernel_rfl
     refine r0' rfl rfl rfl rfl (st0 (d_lb2 (i := 97) rfl rfl rfl Tryz.isAgg39 Tryz.sizeOf39 rfl rfl)) ?_
     refine r1' rfl rfl (t_call (n := 11) (r_num 1 ⟨by omega, by omega⟩) rfl rfl rfl ⟨rfl, trivial⟩ Tryz.call43 pre_nil rfl hw) (fun v_10 _ => ?_)
     refine r3' rfl rfl (t_call (n := 12) (r_add _ _ _ _ (by omega) (by omega)) rfl rfl rfl ⟨rfl, rfl, trivial⟩ Tryz.call42 (pre_same 70 rfl rfl rfl (pre_same 11 rfl rfl rfl pre_nil)) rfl hw) (fun v_11 _ => ?_)
     refine r3' rfl rfl (t_stw (i := 97) rfl rfl rfl rfl rfl (by decide) rfl Tryz.sizeOf39 rfl rfl ⟨(one_rfl rfl), (one_rd (i := 12) rfl rd_slp), trivial⟩ rfl hw trivial) (fun _ _ => ?_)
     refine r_end ?_
     refine x_then (e_dreg (fun _ => False) [(0, 0), (1, 0), (2, 0), (3, 1), (4, 1), (5, 3)] (by kernel_rfl) ?_ ?_)
     ·kernel_rfl
     refine r0' rfl rfl rfl rfl (st0 (d_lb2 (i := 3) rfl rfl rfl Tryz.isAgg39 Tryz.sizeOf39 rfl rfl)) ?_
     refine r0' rfl rfl rfl rfl (st0 (d_lb2 (i := 97) rfl rfl rfl Tryz.isAgg39 Tryz.sizeOf39 rfl rfl)) ?_
     refine r0' rfl rfl rfl rfl (st0 (d_lb2 (i := 4) rfl rfl rfl Tryz.isAgg39 Tryz.sizeOf39 rfl rfl)) ?_
     refine r1' rfl rfl (t_call (n := 13) (r_mul _ _ _ _ (by omega) (by omega)) rfl rfl rfl ⟨rfl, rfl, trivial⟩ Tryz.call44 (pre_same 12 rfl rfl rfl (pre_same 2 rfl rfl rfl pre_nil)) rfl hw) (fun v_12 _ => ?_)
     refine r1' rfl rfl (t_call (n := 14) (r_sub _ _ _ _ (by omega) (by omega)) rfl rfl rfl ⟨rfl, rfl, trivial⟩ Tryz.call95 (pre_same 1 rfl rfl rfl (pre_same 13 rfl rfl rfl pre_nil)) rfl hw) (fun v_13 _ => ?_)
     refine r3' rfl rfl (t_stw (i := 98) rfl rfl rfl rfl rfl (by decide) rfl Tryz.sizeOf39 rfl rfl ⟨(one_rfl rfl), (one_rd (i := 14) rfl rd_slp), trivial⟩ rfl hw trivial) (fun _ _ => ?_)
     refine r_end ?_
     refine x_imp (s_dup 12 75 rfl rfl rfl) ?_
     refine x_imp (s_dup 14 76 rfl rfl rfl) ?_
     exact x_jn (v_11, v_13) trivial ⟨rfl, rfl, rfl, rfl, rfl, trivial⟩ ⟨by rw [hq]; rfl, by rw [hr]; rfl, by rw [hq]; rfl, by rw [hr]; rfl, rfl, rfl, rfl, rfl, rfl, rfl, rfl, rfl, rfl, rfl, trivial⟩
   ·have hrn : ¬ x.tmod y < 0 := by rw [← hsf]; exact fun h => h223 ((sign_neg_iff _).2 h)
    obtain ⟨hq, hr⟩ := quo_zero hy0 hrn
    rw [← hsf] at hr
    refine e_skip ?_
    refine x_imp (s_dup 70 75 rfl rfl rfl) ?_
    refine x_imp (s_dup 72 76 rfl rfl rfl) ?_
    exact x_jn (g.1, vr) trivial ⟨rfl, rfl, rfl, rfl, rfl, trivial⟩ ⟨by rw [hq]; rfl, by rw [hr]; rfl, by rw [hq]; rfl, by rw [hr]; rfl, rfl, rfl, rfl, rfl, rfl, rfl, rfl, rfl, rfl, rfl, trivial⟩
  ·rintro ⟨v8, v9⟩ -
   simp only [List.cons_append, List.nil_append]
   refine e_seq (e_reg (mv rfl rfl (l_nil (x_then (e_seq (e_dregf [97, 98] [3] (by kernel_rfl) ?_))))))
   refine a_lin' (n := 0) [(0, 0), (1, 0), (2, 1), (3, 3)] (by kernel_rfl) ?_
   refine r0' rfl rfl rfl rfl (stf (d_lb2 (i := 97) rfl rfl rfl Tryz.isAgg39 Tryz.sizeOf39 rfl rfl) ⟨rfl, rfl, trivial⟩) ?_
   refine r0' rfl rfl rfl rfl (stf (d_lb2 (i := 98) rfl rfl rfl Tryz.isAgg39 Tryz.sizeOf39 rfl rfl) ⟨rfl, rfl, trivial⟩) ?_
   refine r1' rfl rfl (t_off 5 rfl rfl ⟨rfl, rfl, trivial⟩ (fun hoffb => (t_stw (i := 5) rfl rfl rfl rfl rfl (by decide) rfl Tryz.sizeOf39 rfl rfl ⟨(one_rfl rfl), (one_rd (i := 75) rfl rd_slp), trivial⟩ rfl hw hoffb))) (fun _ _ => ?_)
   refine r3' rfl rfl (t_stw (i := 6) rfl rfl rfl rfl rfl (by decide) rfl Tryz.sizeOf39 rfl rfl ⟨(one_rfl rfl), (one_rd (i := 76) rfl rd_slp), trivial⟩ rfl hw trivial) (fun _ _ => ?_)
   refine r_fin ?_
   refine a_done (by kernel_rfl) ?_
   refine x_then (e_ret ?_)
   exact x_end (.inl rfl) hsc (_, _) _ (fun a w hs => res2 hs Tryz.results63 (rv_cell (i := 5) rfl rfl Tryz.isAgg39 Tryz.sizeOf39 rfl) (rv_cell (i := 6) rfl rfl Tryz.isAgg39 Tryz.sizeOf39 rfl)) rfl trivial rfl (give_same 75 rfl rfl rfl (give_same 76 rfl rfl rfl give_nil))
theorem r_validratio (b : Bool) (s : ByteArray) (c : Bool) (t : ByteArray) : Cal Tryz.prog 45 #[.agg #[.bool b, .string s, .bool c, .string t]] [] false (G := Unit) (fun _ => True) (fun _ => .bool (okR b s c t)) (fun _ => []) := by
 refine cal_in Tryz.func45 rfl Tryz.ntmps45 rfl trivial ?_
 intro w0 sc hw hsc
 simp only [enumEnv, enumPre]
 refine e_seq (e_reg (tt (t_box (i := 1) rfl rfl rfl rfl rfl rfl hw) rfl (fun b _ => ?_)))
 refine as_ rfl rfl (l_nil (x_then (e_seq (e_reg (dt (d_fa rfl rfl Tryz.underlying49 rfl Tryz.sizeOf28 rfl rfl) rfl ?_)))))
 refine dt (d_lb2 (i := 1) rfl rfl rfl Tryz.isAgg28 Tryz.sizeOf28 rfl rfl) rfl ?_
 refine tt (t_call (n := 1) (r_valid _ _) rfl rfl rfl ⟨rfl, trivial⟩ Tryz.call48 pre_nil rfl hw) rfl (fun _ _ => ?_)
 refine mv rfl rfl (l_splitb (d := 6) rfl (fun s332 => ?_) (fun s332 => ?_))
 ·refine gdt (d_fa rfl rfl Tryz.underlying49 rfl Tryz.sizeOf28 rfl rfl) rfl rfl rfl rfl ?_
  refine gdt (d_lb2 (i := 1) rfl rfl rfl Tryz.isAgg28 Tryz.sizeOf28 rfl rfl) rfl rfl rfl rfl ?_
  refine gtt (t_call (n := 1) (r_valid _ _) rfl rfl rfl ⟨rfl, trivial⟩ Tryz.call48 pre_nil rfl hw) rfl rfl rfl rfl (fun _ _ => ?_)
  refine dt (d_pickt rfl rfl rfl) rfl ?_
  refine mv rfl rfl (l_splitb (d := 11) rfl (fun s332_2 => ?_) (fun s332_2 => ?_))
  ·refine gdt (d_fa rfl rfl Tryz.underlying49 rfl Tryz.sizeOf28 rfl rfl) rfl rfl rfl rfl ?_
   refine gdt (d_fa rfl rfl Tryz.underlying28 rfl Tryz.sizeOf4 rfl rfl) rfl rfl rfl rfl ?_
   refine gdt (d_lb (i := 1) rfl rfl rfl Tryz.isAgg4 rfl) rfl rfl rfl rfl ?_
   refine gdt (d_notb rfl rfl) rfl rfl rfl rfl ?_
   refine dt (d_pickt rfl rfl rfl) rfl ?_
   refine mv rfl rfl (l_splitb (d := 17) rfl (fun s332_3 => ?_) (fun s332_3 => ?_))
   ·refine gdt (d_fa rfl rfl Tryz.underlying49 rfl Tryz.sizeOf28 rfl rfl) rfl rfl rfl rfl ?_
    refine gdt (d_fa rfl rfl Tryz.underlying28 rfl Tryz.sizeOf9 rfl rfl) rfl rfl rfl rfl ?_
    refine gdt (d_lb (i := 1) rfl rfl rfl Tryz.isAgg9 rfl) rfl rfl rfl rfl ?_
    refine gdt (d_lens rfl rfl Tryz.underlying9) rfl rfl rfl rfl ?_
    refine gdt (d_gtr rfl rfl rfl) rfl rfl rfl rfl ?_
    refine dt (d_pickt rfl rfl rfl) rfl ?_
    refine as_ rfl rfl (l_nil (x_then (e_ret ?_)))
    exact x_end (.inl rfl) hsc () _ (fun a w hs => res1 hs Tryz.results45 rfl) (by unfold okR; simp_all) trivial rfl give_nil
   ·refine gsk rfl rfl rfl rfl rfl (gsk rfl rfl rfl rfl rfl (gsk rfl rfl rfl rfl rfl (gsk rfl rfl rfl rfl rfl (gsk rfl rfl rfl rfl rfl (dt (d_pickf rfl rfl rfl) rfl ?_)))))
    refine as_ rfl rfl (l_nil (x_then (e_ret ?_)))
    exact x_end (.inl rfl) hsc () _ (fun a w hs => res1 hs Tryz.results45 rfl) (by unfold okR; simp_all) trivial rfl give_nil
  ·refine gsk rfl rfl rfl rfl rfl (gsk rfl rfl rfl rfl rfl (gsk rfl rfl rfl rfl rfl (gsk rfl rfl rfl rfl rfl (dt (d_pickf rfl rfl rfl) rfl ?_))))
   refine mv rfl rfl (gsk rfl rfl rfl rfl rfl (gsk rfl rfl rfl rfl rfl (gsk rfl rfl rfl rfl rfl (gsk rfl rfl rfl rfl rfl (gsk rfl rfl rfl rfl rfl (dt (d_pickf rfl rfl rfl) rfl ?_))))))
   refine as_ rfl rfl (l_nil (x_then (e_ret ?_)))
   exact x_end (.inl rfl) hsc () _ (fun a w hs => res1 hs Tryz.results45 rfl) (by unfold okR; simp_all) trivial rfl give_nil
 ·refine gsk rfl rfl rfl rfl rfl (gsk rfl rfl rfl rfl rfl (gsk rfl rfl rfl rfl rfl (dt (d_pickf rfl rfl rfl) rfl ?_)))
  refine mv rfl rfl (gsk rfl rfl rfl rfl rfl (gsk rfl rfl rfl rfl rfl (gsk rfl rfl rfl rfl rfl (gsk rfl rfl rfl rfl rfl (dt (d_pickf rfl rfl rfl) rfl ?_)))))
  refine mv rfl rfl (gsk rfl rfl rfl rfl rfl (gsk rfl rfl rfl rfl rfl (gsk rfl rfl rfl rfl rfl (gsk rfl rfl rfl rfl rfl (gsk rfl rfl rfl rfl rfl (dt (d_pickf rfl rfl rfl) rfl ?_))))))
  refine as_ rfl rfl (l_nil (x_then (e_ret ?_)))
  exact x_end (.inl rfl) hsc () _ (fun a w hs => res1 hs Tryz.results45 rfl) (by unfold okR; simp_all) trivial rfl give_nil
theorem r_fromratio (x y : Int) (hx : bl x.natAbs ≤ 2000000000) (hy : bl y.natAbs ≤ 2000000000) : Cal Tryz.prog 32 #[.agg #[.bool (decide (x < 0)), .string (bstr x.natAbs), .bool (decide (y < 0)), .string (bstr y.natAbs)]] [] true (G := Value × Value) (fun r => True) (fun r => .agg #[.bool (decide (x < 0)), r.1, .bool (decide (y < 0)), r.2]) (fun r => [d9p r.1 (x).natAbs, d9p r.2 (y).natAbs]) := by
 refine cal_in Tryz.func32 rfl Tryz.ntmps32 rfl trivial ?_
 intro w0 sc hw hsc
 simp only [enumEnv, enumPre]
 refine e_seq (e_reg (tt (t_box (i := 1) rfl rfl rfl rfl rfl rfl hw) rfl (fun b _ => ?_)))
 refine tt (t_alloc (i := 2) rfl rfl rfl Tryz.zeroValue63 rfl rfl hw) rfl (fun b_2 _ => ?_)
 refine l_nil (x_then (e_seq (e_dreg (fun _ => False) [(0, 0), (1, 0), (3, 0), (4, 0), (2, 1), (5, 1), (6, 0), (7, 3)] (by kernel_rfl) ?_ ?_)))
 ·kernel_rfl
 refine r0' rfl rfl rfl rfl (st0 (d_fa rfl rfl Tryz.underlying49 rfl Tryz.sizeOf28 rfl rfl)) ?_
 refine r0' rfl rfl rfl rfl (st0 (d_lb2 (i := 1) rfl rfl rfl Tryz.isAgg28 Tryz.sizeOf28 rfl rfl)) ?_
 refine r0' rfl rfl rfl rfl (st0 (d_fa rfl rfl Tryz.underlying49 rfl Tryz.sizeOf28 rfl rfl)) ?_
 refine r0' rfl rfl rfl rfl (st0 (d_lb2 (i := 1) rfl rfl rfl Tryz.isAgg28 Tryz.sizeOf28 rfl rfl)) ?_
 refine r1' rfl rfl (t_call (n := 3) (r_from _ (by omega)) rfl rfl rfl ⟨rfl, trivial⟩ Tryz.call49 pre_nil rfl hw) (fun v _ => ?_)
 refine r1' rfl rfl (t_call (n := 4) (r_from _ (by omega)) rfl rfl rfl ⟨rfl, trivial⟩ Tryz.call49 pre_nil rfl hw) (fun v_2 _ => ?_)
 refine r0' rfl rfl rfl rfl (st0 (d_bld (ivs := [(0, _), (1, _)]) rfl ⟨rfl, rfl, rfl, rfl, trivial⟩ (fun a w hs => b63_01))) ?_
 refine r3' rfl rfl (t_stw (i := 2) rfl rfl rfl rfl rfl (by decide) rfl Tryz.sizeOf63 rfl rfl ⟨(one_rfl rfl), (one_rd (i := 3) rfl rd_slp), (one_rfl rfl), (one_rd (i := 4) rfl rd_slp), trivial⟩ rfl hw trivial) (fun _ _ => ?_)
 refine r_end ?_
 refine x_then (e_ret ?_)
 exact x_end (.inl rfl) hsc (_, _) _ (fun a w hs => res1 hs Tryz.results32 (rv_cell (i := 2) rfl rfl Tryz.isAgg63 Tryz.sizeOf63 rfl)) rfl trivial rfl (give_same 3 rfl rfl rfl (give_same 4 rfl rfl rfl give_nil))
theorem r_compareq (v w v2 w2 : Value) (x y x2 y2 : Int) (h0 : bl x.natAbs ≤ 100000000) (h1 : bl y.natAbs ≤ 100000000) (h2 : bl x2.natAbs ≤ 100000000) (h3 : bl y2.natAbs ≤ 100000000) : Cal Tryz.prog 46 #[.agg #[.bool (decide (x < 0)), v, .bool (decide (y < 0)), w], .agg #[.bool (decide (x2 < 0)), v2, .bool (decide (y2 < 0)), w2]] [d9p v x.natAbs, d9p w y.natAbs, d9p v2 x2.natAbs, d9p w2 y2.natAbs] false (G := Unit) (fun _ => True) (fun _ => .int .i64 (x * y2 - x2 * y).sign) (fun _ => []) := by
 refine cal_in Tryz.func46 rfl Tryz.ntmps46 rfl ⟨rfl, rfl, rfl, rfl, trivial⟩ ?_
 intro w0 sc hw hsc
 simp only [enumEnv, enumPre]
 have b1 := bl_imul x y2
 have b2 := bl_imul x2 y
 have b3 := bl_imul y y2
 have b4 := bl_imul x x2
 have b5 := bl_iadd (x * y2) (x2 * y)
 refine e_seq (e_reg (tt (t_box (i := 5) rfl rfl rfl rfl rfl rfl hw) rfl (fun b _ => ?_)))
 refine tt (t_box (i := 6) rfl rfl rfl rfl rfl rfl hw) rfl (fun b_2 _ => ?_)
 refine as_ rfl rfl (l_nil (x_then (e_seq (e_dreg (fun _ => False) [(0, 0), (1, 0), (2, 0), (3, 0), (5, 0), (6, 0), (7, 0), (8, 0), (4, 1), (9, 1), (10, 1), (11, 3)] (by kernel_rfl) ?_ ?_))))
 ·kernel_rfl
 refine r0' rfl rfl rfl rfl (st0 (d_fa rfl rfl Tryz.underlying63 rfl Tryz.sizeOf39 rfl rfl)) ?_
 refine r0' rfl rfl rfl rfl (st0 (d_lb2 (i := 5) rfl rfl rfl Tryz.isAgg39 Tryz.sizeOf39 rfl rfl)) ?_
 refine r0' rfl rfl rfl rfl (st0 (d_fa rfl rfl Tryz.underlying63 rfl Tryz.sizeOf39 rfl rfl)) ?_
 refine r0' rfl rfl rfl rfl (st0 (d_lb2 (i := 6) rfl rfl rfl Tryz.isAgg39 Tryz.sizeOf39 rfl rfl)) ?_
 refine r0' rfl rfl rfl rfl (st0 (d_fa rfl rfl Tryz.underlying63 rfl Tryz.sizeOf39 rfl rfl)) ?_
 refine r0' rfl rfl rfl rfl (st0 (d_lb2 (i := 6) rfl rfl rfl Tryz.isAgg39 Tryz.sizeOf39 rfl rfl)) ?_
 refine r0' rfl rfl rfl rfl (st0 (d_fa rfl rfl Tryz.underlying63 rfl Tryz.sizeOf39 rfl rfl)) ?_
 refine r0' rfl rfl rfl rfl (st0 (d_lb2 (i := 5) rfl rfl rfl Tryz.isAgg39 Tryz.sizeOf39 rfl rfl)) ?_
 refine r1' rfl rfl (t_call (n := 7) (r_mul _ _ _ _ (by omega) (by omega)) rfl rfl rfl ⟨rfl, rfl, trivial⟩ Tryz.call44 (pre_same 1 rfl rfl rfl (pre_same 4 rfl rfl rfl pre_nil)) rfl hw) (fun v _ => ?_)
 refine r1' rfl rfl (t_call (n := 8) (r_mul _ _ _ _ (by omega) (by omega)) rfl rfl rfl ⟨rfl, rfl, trivial⟩ Tryz.call44 (pre_same 3 rfl rfl rfl (pre_same 2 rfl rfl rfl pre_nil)) rfl hw) (fun v_2 _ => ?_)
 refine r1' rfl rfl (t_call (n := 8) (r_compare _ _ _ _ (by omega) (by omega)) rfl rfl rfl ⟨rfl, rfl, trivial⟩ Tryz.call62 (pre_same 7 rfl rfl rfl (pre_same 8 rfl rfl rfl pre_nil)) rfl hw) (fun _ _ => ?_)
 refine r3' rfl rfl (t_det (d_as rfl rfl) rfl rfl) (fun _ _ => ?_)
 refine r_end ?_
 refine x_then (e_ret ?_)
 exact x_end (.inl rfl) hsc () _ (fun a w hs => res1 hs Tryz.results46 rfl) rfl trivial rfl give_nil
end Go.Sky

