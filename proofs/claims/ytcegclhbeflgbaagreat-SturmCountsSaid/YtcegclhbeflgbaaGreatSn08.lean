/- rules, arithmetic and contracts: part 9
   Proved without conditions of its own: each theorem bears its own. -/
import Derived.Test.YtcegclhbeflgbaaGreatSn02
import Derived.Test.YtcegclhbeflgbaaGreatSn01
import Derived.Test.YtcegclhbeflgbaaGreatSn03
import Derived.Test.YtcegclhbeflgbaaGreatSn07
set_option linter.all false
namespace Go.Sky
open Go.Proofs
set_option maxRecDepth 20000
set_option maxHeartbeats 4000000
set_option linter.unusedVariables false
set_option linter.unusedSimpArgs false
theorem r_valid (b : Bool) (s : ByteArray) : Cal Tryz.prog 48 #[.agg #[.bool b, .string s]] [] false (G := Unit) (fun _ => True) (fun _ => .bool (okW b s)) (fun _ => []) := by
 refine cal_in Tryz.func48 J Tryz.ntmps48 J trivial ?_
 intro w0 sc hw hsc
 simp only [enumEnv, enumPre]
 refine e_seq <|e_reg <|tt (t_box (i := 1) J J J J J J hw) J fun b _ => as_ J J <|l_nil <|x_then <|e_seq <|e_seq <|e_reg <|dt (d_fa J J uT28 J zT9 J J) J <|dt (d_lb (i := 1) J J J iA9 J) J <|dt (d_lens J J uT9) J <|dt (d_eql J J J) J <|l_nil <|x_then <|e_cond J (fun h25 => ?_) (fun h25 => ?_)
 ·exact e_seq <|e_reg <|dt (d_fa J J uT28 J zT4 J J) J <|dt (d_lb (i := 1) J J J iA4 J) J <|dt (d_notb J J) J <|as_ J J <|l_nil <|x_then <|e_ret <|x_ret <|x_end (.inl J) hsc () _ (fun a w hs => res1 hs Tryz.results48 J) (by unfold okW; rw [if_pos (by omega)]) trivial J give_nil
 ·refine e_skip <|x_then <|e_seq <|e_reg <|dt (d_fa J J uT28 J zT9 J J) J <|dt (d_lb (i := 1) J J J iA9 J) J <|dt (d_lens J J uT9) J <|dt (d_leq J J J) J <|mv J J <|l_split (d := 14) J (fun s28 => ?_) (fun s28 => ?_)
  ·exact gdt (d_fa J J uT28 J zT9 J J) J J J J <|gdt (d_lb (i := 1) J J J iA9 J) J J J J <|gdt (d_ixs (i := 0) J J J uT9 J (by omega)) J J J J <|gdt (d_neq J J J) J J J J <|dt (d_pickt J J J) J <|as_ J J <|l_nil <|x_then <|e_ret <|x_end (.inl J) hsc () _ (fun a w hs => res1 hs Tryz.results48 J) (by unfold okW; rw [if_neg (by omega)]; simp_all <;> omega) trivial J give_nil
  ·exact gsk J J J J J <|gsk J J J J J <|gsk J J J J J <|gsk J J J J J <|dt (d_pickf J J J) J <|as_ J J <|l_nil <|x_then <|e_ret <|x_end (.inl J) hsc () _ (fun a w hs => res1 hs Tryz.results48 J) (by unfold okW; rw [if_neg (by omega)]; simp_all <;> omega) trivial J give_nil
theorem r_trim (v : Value) (xs : List Nat) : Cal Tryz.prog 60 #[v] [slp 1 encN v xs] true (G := Unit) (fun _ => True) (fun _ => preV v (tz xs).length) (fun _ => [slp 1 encN (preV v (tz xs).length) (tz xs)]) := by
 refine cal_in Tryz.func60 J Tryz.ntmps60 J ⟨J, trivial⟩ ?_
 intro w0 sc hw hsc
 simp only [enumEnv, enumPre]
 refine e_fact (f_self (i := 1) J rd_slp) fun hself => e_fact (f_len (i := 1) J rd_slp) fun hlen => e_seq <|e_reg <|as_ J J <|l_nil <|x_then <|e_seq <|e_block <|e_lp [] [(0, _)] (fun (k : Nat) => [(0, preV v k)]) (fun (k : Nat) => [(1, slp 1 encN (preV v k) (xs.take k))]) (fun (k : Nat) => (k ≤ xs.length) ∧ (tz (xs.take k) = tz xs)) (fun (k : Nat) => k) xs.length ⟨Nat.le_refl _, by rw [List.take_length]⟩ ⟨by rw [hself]; rfl, trivial⟩ ⟨by rw [hself, List.take_length]; rfl, rfl, trivial⟩ ?_
 rintro k ⟨hk, ht⟩
 simp only [List.cons_append, List.nil_append]
 have hl : (xs.take k).length = k := by rw [List.length_take]; omega
 refine e_seq <|e_seq <|e_reg <|mv J J <|dt (d_len J J (i := 1) J rd_slp uT37) J <|dt (d_gtr J J J) J <|mv J J <|l_split (d := 6) J (fun s33 => ?_) (fun s33 => ?_)
 ·refine gdt (d_mv J J) J J J J <|gdt (d_mv J J) J J J J <|gdt (d_len J J (i := 1) J rd_slp uT37) J J J J <|gdt (d_sub J J J ⟨by omega, by omega⟩) J J J J <|gdt (d_ixa (ii := 1) (i := k - 1) J J J J rd_slp uT37 zT3 (by omega) (by omega)) J J J J <|gdt (d_lde (ii := 1) 0 J J J rd_slp pN (by omega)) J J J J <|gdt (d_eql J J J) J J J J <|dt (d_pickt J J J) J <|l_nil <|x_then <|e_cond J (fun h33 => ?_) (fun h33 => ?_)
  ·have hstep := tz_step hk (by omega) (by omega : (xs.take k).getD (k - 1) 0 = 0)
   exact e_skip <|x_then <|e_block <|e_reg <|mv J J <|mv J J <|dt (d_len J J (i := 1) J rd_slp uT37) J <|dt (d_sub J J J ⟨by omega, by omega⟩) J <|dt (d_pre (ii := 1) (i := k - 1) J J J J rd_slp uT37 zT3 (by omega) (by omega)) J <|as_ J J <|l_nil <|x_bn <|x_imp (s_pre 1 1 (k - 1) J J (by omega)) <|x_rnd (k - 1) ⟨by first | omega | (dsimp only <;> omega), by rw [← ht, ← hstep]⟩ (by first | omega | (dsimp only <;> omega)) ⟨by rw [← preV_preV v k (k - 1)]; rfl, trivial⟩ ⟨by rw [preV_preV, List.take_take, Nat.min_eq_left (by omega)]; rfl, rfl, trivial⟩
  ·refine e_exit <|x_exit <|x_exit <|x_be <|x_then <|e_seq <|e_reg <|mv J J <|as_ J J <|l_nil <|x_then <|e_ret ?_
   have hx : tz xs = xs.take k := by rw [← ht]; exact tz_stop hk (by omega)
   exact x_end (.inl J) hsc () _ (fun a w hs => res1 hs Tryz.results60 J) (by rw [hx, hl]) trivial J (give_samee 1 J J J (by rw [hx, hl]) give_nil)
 ·refine gsk J J J J J <|gsk J J J J J <|gsk J J J J J <|gsk J J J J J <|gsk J J J J J <|gsk J J J J J <|gsk J J J J J <|dt (d_pickf J J J) J <|l_nil <|x_then <|e_condf J <|e_exit <|x_exit <|x_exit <|x_be <|x_then <|e_seq <|e_reg <|mv J J <|as_ J J <|l_nil <|x_then <|e_ret ?_
  have hx : tz xs = xs.take k := by rw [← ht]; exact tz_stop hk (by omega)
  exact x_end (.inl J) hsc () _ (fun a w hs => res1 hs Tryz.results60 J) (by rw [hx, hl]) trivial J (give_samee 1 J J J (by rw [hx, hl]) give_nil)
theorem r_trim_own (v : Value) (xs : List Nat) : Cal Tryz.prog 60 #[v] [slp 1 encN v xs] false (G := Unit) (fun _ => True) (fun _ => preV v (tz xs).length) (fun _ => []) := (r_trim v xs).bare
theorem r_order (v w : Value) (x y : Nat) (hx : bl x ≤ 4294967296) (hy : bl y ≤ 4294967296) : Cal Tryz.prog 93 #[v, w] [d9p v x, d9p w y] false (G := Unit) (fun _ => True) (fun _ => .int .i64 (cmpI x y)) (fun _ => []) := by
 refine cal_in Tryz.func93 J Tryz.ntmps93 J ⟨J, J, trivial⟩ ?_
 intro w0 sc hw hsc
 simp only [enumEnv, enumPre]
 have hX := len9_bl x
 have hY := len9_bl y
 refine e_seq <|e_reg <|as_ J J <|l_nil <|x_then <|e_seq <|e_seq <|e_reg <|mv J J <|dt (d_len J J (i := 1) J rd_slp uT37) J <|mv J J <|dt (d_len J J (i := 2) J rd_slp uT37) J <|dt (d_neq J J J) J <|l_nil <|x_then <|e_cond J (fun h41 => ?_) (fun h41 => ?_)
 ·refine e_seq <|e_seq <|e_reg <|mv J J <|dt (d_len J J (i := 1) J rd_slp uT37) J <|mv J J <|dt (d_len J J (i := 2) J rd_slp uT37) J <|dt (d_lss J J J) J <|l_nil <|x_then <|e_cond J (fun h42 => ?_) (fun h42 => ?_)
  ·have hlt : x < y := dg_len_lt two_D (by omega)
   exact e_seq <|e_reg <|as_ J J <|l_nil <|x_then <|e_ret <|x_ret <|x_ret <|x_end (.inl J) hsc () _ (fun a w hs => res1 hs Tryz.results93 J) (by unfold cmpI; rw [if_pos hlt]) trivial J give_nil
  ·have hlt : y < x := dg_len_lt two_D (by omega)
   exact e_skip <|x_then <|e_seq <|e_reg <|as_ J J <|l_nil <|x_then <|e_ret <|x_ret <|x_end (.inl J) hsc () _ (fun a w hs => res1 hs Tryz.results93 J) (by unfold cmpI; rw [if_neg (by omega), if_pos hlt]) trivial J give_nil
 ·have hlen : (dg 1000000000 x).length = (dg 1000000000 y).length := by omega
  refine e_skip <|x_then <|e_seq <|e_seq <|e_reg <|mv J J <|dt (d_len J J (i := 1) J rd_slp uT37) J <|dt (d_sub J J J ⟨by omega, by omega⟩) J <|as_ J J <|l_nil <|x_then <|e_block <|e_lp [(0, _), (1, _)] [(0, _), (1, _), (2, _)] (fun (k : Nat) => [(5, .int .i64 ((k : Int) - 1))]) (fun (k : Nat) => []) (fun (k : Nat) => (k ≤ (dg 1000000000 x).length) ∧ ((dg 1000000000 x).drop k = (dg 1000000000 y).drop k)) (fun (k : Nat) => k) (dg 1000000000 x).length ⟨by first | omega | (dsimp only <;> omega), by rw [List.drop_length, hlen, List.drop_length]⟩ ⟨J, J, J, trivial⟩ ⟨J, J, J, trivial⟩ ?_
  rintro k ⟨hk, hd⟩
  simp only [List.cons_append, List.nil_append]
  refine e_seq <|e_seq <|e_reg <|mv J J <|dt (d_geq J J J) J <|l_nil <|x_then <|e_cond J (fun h47 => ?_) (fun h47 => ?_)
  ·refine e_skip <|x_then <|e_seq <|e_block <|e_seq <|e_seq <|e_dreg (fun _ => False) [(0, 0), (1, 0), (2, 0), (3, 0), (4, 0), (5, 0), (6, 0), (7, 0), (8, 0)] (by kernel_rfl) ?_ ?_
   ·kernel_rfl
   refine r0' J J J J (st0 (d_mv J J)) <|r0' J J J J (st0 (d_mv J J)) <|r0' J J J J (st0 (d_ixa (ii := 1) (i := k - 1) J J J J rd_slp uT37 zT3 (by omega) (by omega))) <|r0' J J J J (st0 (d_lde (ii := 1) 0 J J J rd_slp pN (by first | omega | (simp only [List.length_set]; omega)))) <|r0' J J J J (st0 (d_mv J J)) <|r0' J J J J (st0 (d_mv J J)) <|r0' J J J J (st0 (d_ixa (ii := 2) (i := k - 1) J J J J rd_slp uT37 zT3 (by omega) (by omega))) <|r0' J J J J (st0 (d_lde (ii := 2) 0 J J J rd_slp pN (by first | omega | (simp only [List.length_set]; omega)))) <|r0' J J J J (st0 (d_lss J J J)) <|r_end <|x_then <|e_cond J (fun h48 => ?_) (fun h48 => ?_)
   ·have hlt := cmp_lt D_pos (xs := (dg 1000000000 x)) (ys := (dg 1000000000 y)) (dg_lt two_D x) (k := k - 1) (by omega) (by omega) (by rw [show k - 1 + 1 = k by omega]; exact hd) (by omega)
    rw [val_dg two_D, val_dg two_D] at hlt
    exact e_seq <|e_reg <|as_ J J <|l_nil <|x_then <|e_ret <|x_ret <|x_br <|x_ret <|x_ret <|x_br <|x_ret <|x_end (.inl J) hsc () _ (fun a w hs => res1 hs Tryz.results93 J) (by unfold cmpI; rw [if_pos hlt]) trivial J give_nil
   ·refine e_skip <|x_then <|e_seq <|e_dreg (fun _ => False) [(0, 0), (1, 0), (2, 0), (3, 0), (4, 0), (5, 0), (6, 0), (7, 0), (8, 0)] (by kernel_rfl) ?_ ?_
    ·kernel_rfl
    refine r0' J J J J (st0 (d_mv J J)) <|r0' J J J J (st0 (d_mv J J)) <|r0' J J J J (st0 (d_ixa (ii := 1) (i := k - 1) J J J J rd_slp uT37 zT3 (by omega) (by omega))) <|r0' J J J J (st0 (d_lde (ii := 1) 0 J J J rd_slp pN (by first | omega | (simp only [List.length_set]; omega)))) <|r0' J J J J (st0 (d_mv J J)) <|r0' J J J J (st0 (d_mv J J)) <|r0' J J J J (st0 (d_ixa (ii := 2) (i := k - 1) J J J J rd_slp uT37 zT3 (by omega) (by omega))) <|r0' J J J J (st0 (d_lde (ii := 2) 0 J J J rd_slp pN (by first | omega | (simp only [List.length_set]; omega)))) <|r0' J J J J (st0 (d_gtr J J J)) <|r_end <|x_then <|e_cond J (fun h51 => ?_) (fun h51 => ?_)
    ·have hlt := cmp_lt D_pos (xs := (dg 1000000000 y)) (ys := (dg 1000000000 x)) (dg_lt two_D y) (k := k - 1) (by omega) (by omega) (by rw [show k - 1 + 1 = k by omega]; exact hd.symm) (by omega)
     rw [val_dg two_D, val_dg two_D] at hlt
     exact e_seq <|e_reg <|as_ J J <|l_nil <|x_then <|e_ret <|x_br <|x_ret <|x_ret <|x_br <|x_ret <|x_end (.inl J) hsc () _ (fun a w hs => res1 hs Tryz.results93 J) (by unfold cmpI; rw [if_neg (by omega), if_pos hlt]) trivial J give_nil
    ·exact e_skip <|x_bn <|x_then <|e_reg <|mv J J <|dt (d_sub J J J ⟨by omega, by omega⟩) J <|as_ J J <|l_nil <|x_rnd (k - 1) ⟨by first | omega | (dsimp only <;> omega), by have := drop_eq_step (xs := (dg 1000000000 x)) (ys := (dg 1000000000 y)) (k := k - 1) (by omega) (by omega) (by rw [show k - 1 + 1 = k by omega]; exact hd) (by omega); exact this⟩ (by first | omega | (dsimp only <;> omega)) ⟨by rw [show (((k - 1 : Nat) : Int) - 1) = (k : Int) - 1 - 1 by omega]; rfl, rfl, rfl, trivial⟩ ⟨J, J, J, trivial⟩
  ·refine e_exit <|x_exit <|x_exit <|x_be <|x_then <|e_seq <|e_reg <|as_ J J <|l_nil <|x_then <|e_ret ?_
   obtain rfl : k = 0 := by omega
   have heq : x = y := (dg_eq_iff two_D).1 (by simpa using hd)
   exact x_end (.inl J) hsc () _ (fun a w hs => res1 hs Tryz.results93 J) (by unfold cmpI; rw [if_neg (by omega), if_neg (by omega)]) trivial J give_nil
theorem r_plus (v w : Value) (x y : Nat) (hx : bl x ≤ 4294967296) (hy : bl y ≤ 4294967296) : Cal Tryz.prog 92 #[v, w] [d9p v x, d9p w y] false (G := Value) (fun r => True) (fun r => r) (fun r => [d9p r (x + y)]) := by
 refine cal_in Tryz.func92 J Tryz.ntmps92 J ⟨J, J, trivial⟩ ?_
 intro w0 sc hw hsc
 simp only [enumEnv, enumPre]
 have hX := len9_bl x
 have hY := len9_bl y
 refine e_seq <|e_reg <|as_ J J <|l_nil <|x_then <|e_seq <|e_reg <|as_ J J <|l_nil <|x_then <|e_seq <|e_reg <|as_ J J <|l_nil <|x_then <|e_seq <|e_seq <|e_reg <|as_ J J <|l_nil <|x_then <|e_block <|e_imp (s_nil 70 1 3 encN) <|e_lp [(0, _), (1, _)] [(0, _), (1, _), (2, _)] (fun (q : Nat × List Nat × Nat × Value) => [(7, .int .i64 (q.1 : Int)), (6, .int .i64 (q.2.2.1 : Int)), (5, q.2.2.2)]) (fun (q : Nat × List Nat × Nat × Value) => [(70, osl 1 3 encN q.2.2.2 q.2.1)]) (fun (q : Nat × List Nat × Nat × Value) => (q.1 ≤ max (dg 1000000000 x).length (dg 1000000000 y).length + 1 ∧ (q.1 = max (dg 1000000000 x).length (dg 1000000000 y).length + 1 → q.2.2.1 = 0)) ∧ (q.2.1.length = q.1) ∧ (∀ d ∈ q.2.1, d < 1000000000) ∧ (q.2.2.1 ≤ 1) ∧ (val 1000000000 q.2.1 + q.2.2.1 * 1000000000 ^ q.1 = val 1000000000 ((dg 1000000000 x).take q.1) + val 1000000000 ((dg 1000000000 y).take q.1)) ∧ (q.1 = 0 ∨ 1000000000 ^ (q.1 - 1) ≤ x + y)) (fun (q : Nat × List Nat × Nat × Value) => max (dg 1000000000 x).length (dg 1000000000 y).length + 1 - q.1) (0, [], 0, .slice none 0 0) ⟨⟨by omega, by omega⟩, J, by simp, by first | omega | (dsimp only <;> omega), by simp [val], .inl rfl⟩ ⟨J, J, J, J, J, trivial⟩ ⟨J, J, J, J, trivial⟩ ?_
 rintro ⟨i, o, c, vo⟩ ⟨hi, hol, hoa, hc, hv, hge⟩
 dsimp only at hi hol hoa hc hv hge
 simp only [List.cons_append, List.nil_append]
 refine e_seq <|e_jn [(0, _), (1, _), (5, _), (6, _), (7, _)] [(0, _), (70, _), (1, _), (2, _)] (fun (_ : Unit) => [(21, .bool (decide (i < (dg 1000000000 x).length ∨ i < (dg 1000000000 y).length ∨ 0 < c)))]) (fun (_ : Unit) => []) (fun (_ : Unit) => True) ⟨J, J, J, J, J, trivial⟩ ⟨J, J, J, J, trivial⟩ ?_ ?_
 ·refine e_reg <|mv J J <|mv J J <|dt (d_len J J (i := 1) J rd_slp uT37) J <|dt (d_lss J J J) J <|mv J J <|l_split (d := 12) J (fun s62 => ?_) (fun s62 => ?_)
  ·exact gsk J J J J J <|gsk J J J J J <|gsk J J J J J <|gsk J J J J J <|dt (d_pickt J J J) J <|mv J J <|gsk J J J J J <|gsk J J J J J <|dt (d_pickt J J J) J <|l_nil <|x_jn () trivial ⟨by first | exact congrArg some (congrArg Value.bool (decide_eq_decide.2 (by omega))) | exact congrArg some (congrArg Value.bool (decide_eq_true (by omega)).symm), rfl, rfl, rfl, rfl, rfl, trivial⟩ ⟨J, J, J, J, trivial⟩
  ·refine gdt (d_mv J J) J J J J <|gdt (d_mv J J) J J J J <|gdt (d_len J J (i := 2) J rd_slp uT37) J J J J <|gdt (d_lss J J J) J J J J <|dt (d_pickf J J J) J <|mv J J <|l_split (d := 18) J (fun s62_2 => ?_) (fun s62_2 => ?_)
   ·exact gsk J J J J J <|gsk J J J J J <|dt (d_pickt J J J) J <|l_nil <|x_jn () trivial ⟨by first | exact congrArg some (congrArg Value.bool (decide_eq_decide.2 (by omega))) | exact congrArg some (congrArg Value.bool (decide_eq_true (by omega)).symm), rfl, rfl, rfl, rfl, rfl, trivial⟩ ⟨J, J, J, J, trivial⟩
   ·exact gdt (d_mv J J) J J J J <|gdt (d_gtr J J J) J J J J <|dt (d_pickf J J J) J <|l_nil <|x_jn () trivial ⟨by first | exact congrArg some (congrArg Value.bool (decide_eq_decide.2 (by omega))) | exact congrArg some (congrArg Value.bool (decide_eq_true (by omega)).symm), rfl, rfl, rfl, rfl, rfl, trivial⟩ ⟨J, J, J, J, trivial⟩
 ·rintro _ -
  simp only [List.cons_append, List.nil_append]
  refine e_cond J (fun h62 => ?_) (fun h62 => ?_)
  ·have hgn : 1000000000 ^ i ≤ x + y := by
    rcases h62 with h1 | h1 | h1
    ·have := pow_le_dg two_D h1; omega
    ·have := pow_le_dg two_D h1; omega
    ·by_cases h2 : i < (dg 1000000000 x).length
     ·have := pow_le_dg two_D h2; omega
     ·by_cases h3 : i < (dg 1000000000 y).length
      ·have := pow_le_dg two_D h3; omega
      ·rw [take_dg_all two_D (by omega), take_dg_all two_D (by omega)] at hv
       have : 1000000000 ^ i ≤ c * 1000000000 ^ i := Nat.le_mul_of_pos_left _ h1
       omega
   refine e_skip <|x_then <|e_seq <|e_block <|e_jn [(0, _), (1, _), (5, _), (7, _)] [(0, _), (70, _), (1, _), (2, _)] (fun (_ : Unit) => [(6, .int .i64 ((c + (dg 1000000000 x).getD i 0 : Nat) : Int))]) (fun (_ : Unit) => []) (fun (_ : Unit) => True) ⟨J, J, J, J, trivial⟩ ⟨J, J, J, J, trivial⟩ ?_ ?_
   ·refine e_seq <|e_reg <|mv J J <|mv J J <|dt (d_len J J (i := 1) J rd_slp uT37) J <|dt (d_lss J J J) J <|l_nil <|x_then <|e_cond J (fun h63 => ?_) (fun h63 => ?_)
    ·refine e_reg <|mv J J <|mv J J <|mv J J <|dt (d_ixa (ii := 1) J J J J rd_slp uT37 zT3 J (by first | omega | (simp only [List.length_set]; omega))) J <|dt (d_lde (ii := 1) 0 J J J rd_slp pN (by first | omega | (simp only [List.length_set]; omega))) J <|dt (n_add J J J (by have h1 := (getD_lt D_pos (dg_lt two_D x) i); omega)) J <|as_ J J <|l_nil ?_
     try (have hz : (dg 1000000000 x).getD i 0 = 0 := by simp [List.getD, List.getElem?_eq_none (by omega : (dg 1000000000 x).length ≤ i)])
     exact x_jn () trivial ⟨by first | rfl | (rw [hz]; rfl), rfl, rfl, rfl, rfl, trivial⟩ ⟨J, J, J, J, trivial⟩
    ·refine e_skip ?_
     try (have hz : (dg 1000000000 x).getD i 0 = 0 := by simp [List.getD, List.getElem?_eq_none (by omega : (dg 1000000000 x).length ≤ i)])
     exact x_jn () trivial ⟨by first | rfl | (rw [hz]; rfl), rfl, rfl, rfl, rfl, trivial⟩ ⟨J, J, J, J, trivial⟩
   ·rintro _ -
    simp only [List.cons_append, List.nil_append]
    refine e_jn [(0, _), (1, _), (5, _), (7, _)] [(0, _), (70, _), (1, _), (2, _)] (fun (_ : Unit) => [(6, .int .i64 ((c + (dg 1000000000 x).getD i 0 + (dg 1000000000 y).getD i 0 : Nat) : Int))]) (fun (_ : Unit) => []) (fun (_ : Unit) => True) ⟨J, J, J, J, trivial⟩ ⟨J, J, J, J, trivial⟩ ?_ ?_
    ·refine e_seq <|e_reg <|mv J J <|mv J J <|dt (d_len J J (i := 2) J rd_slp uT37) J <|dt (d_lss J J J) J <|l_nil <|x_then <|e_cond J (fun h66 => ?_) (fun h66 => ?_)
     ·refine e_reg <|mv J J <|mv J J <|mv J J <|dt (d_ixa (ii := 2) J J J J rd_slp uT37 zT3 J (by first | omega | (simp only [List.length_set]; omega))) J <|dt (d_lde (ii := 2) 0 J J J rd_slp pN (by first | omega | (simp only [List.length_set]; omega))) J <|dt (n_add J J J (by have h1 := (getD_lt D_pos (dg_lt two_D x) i); have h2 := (getD_lt D_pos (dg_lt two_D y) i); omega)) J <|as_ J J <|l_nil ?_
      try (have hz : (dg 1000000000 y).getD i 0 = 0 := by simp [List.getD, List.getElem?_eq_none (by omega : (dg 1000000000 y).length ≤ i)])
      exact x_jn () trivial ⟨by first | rfl | (rw [hz]; rfl), rfl, rfl, rfl, rfl, trivial⟩ ⟨J, J, J, J, trivial⟩
     ·refine e_skip ?_
      try (have hz : (dg 1000000000 y).getD i 0 = 0 := by simp [List.getD, List.getElem?_eq_none (by omega : (dg 1000000000 y).length ≤ i)])
      exact x_jn () trivial ⟨by first | rfl | (rw [hz]; rfl), rfl, rfl, rfl, rfl, trivial⟩ ⟨J, J, J, J, trivial⟩
    ·rintro _ -
     simp only [List.cons_append, List.nil_append]
     exact e_seq <|e_reg <|mv J J <|mv J J <|dt (n_rem (n := 1000000000) J J J (by omega)) J <|tt (t_bsg (i := 3) (ivs := [(0, _)]) (enc := encN) [(c + (dg 1000000000 x).getD i 0 + (dg 1000000000 y).getD i 0) % 1000000000] J J J ⟨J, J, trivial⟩ uT37 Tryz.ti3 J J J J J J pN.cells J J hw) J fun v _ => tt (t_appa (i := 70) (j := 3) (by_ := 8) J J J J J J (by decide) J (rd_osl pN) uT37 Tryz.ti3 J pN J J J (by simp; omega) (by decide) J hw) J fun v_2 _ => as_ J J <|l_nil <|x_then <|e_reg <|mv J J <|dt (n_quo (n := 1000000000) J J J (by have h1 := (getD_lt D_pos (dg_lt two_D x) i); have h2 := (getD_lt D_pos (dg_lt two_D y) i); omega) (by omega)) J <|as_ J J <|l_nil <|x_bn <|x_then <|e_reg <|mv J J <|dt (d_add J J J ⟨by omega, by omega⟩) J <|as_ J J <|l_nil <|x_rnd (i + 1, o ++ [(c + (dg 1000000000 x).getD i 0 + (dg 1000000000 y).getD i 0) % 1000000000], (c + (dg 1000000000 x).getD i 0 + (dg 1000000000 y).getD i 0) / 1000000000, _) ⟨⟨by dsimp only; omega, fun h => by dsimp only at h ⊢; rw [dg_getD0 (by omega : (dg 1000000000 x).length ≤ i), dg_getD0 (by omega : (dg 1000000000 y).length ≤ i)]; omega⟩, by simp [hol], all_snoc hoa (Nat.mod_lt _ D_pos), by have h1 := (getD_lt D_pos (dg_lt two_D x) i); have h2 := (getD_lt D_pos (dg_lt two_D y) i); dsimp only; omega, plus_step hol hv, .inr hgn⟩ (by first | omega | (dsimp only <;> omega)) ⟨J, J, J, J, J, trivial⟩ ⟨J, J, J, J, trivial⟩
  ·refine e_exit <|x_exit <|x_exit <|x_be <|x_then <|e_seq <|e_reg <|mv J J <|as_ J J <|l_nil <|x_then <|e_ret ?_
   have hc0 : c = 0 := by omega
   have hv2 : val 1000000000 o = x + y := by
    rw [take_dg_all two_D (by omega), take_dg_all two_D (by omega), hc0, Nat.zero_mul, Nat.add_zero] at hv
    exact hv
   have hx : o = dg 1000000000 (x + y) := tz_full two_D hoa hv2 (by rw [hol]; exact hge)
   exact x_end (.inl J) hsc _ _ (fun a w hs => res1 hs Tryz.results92 J) J trivial J (give_owne 70 J J pN (by rw [← hx] <;> rfl) give_nil)
theorem r_minus (v w : Value) (x y : Nat) (hx : bl x ≤ 4294967296) (hxy : y ≤ x) : Cal Tryz.prog 94 #[v, w] [d9p v x, d9p w y] false (G := Value) (fun r => True) (fun r => r) (fun r => [d9p r (x - y)]) := by
 refine cal_in Tryz.func94 J Tryz.ntmps94 J ⟨J, J, trivial⟩ ?_
 intro w0 sc hw hsc
 simp only [enumEnv, enumPre]
 have hX := len9_bl x
 have hm := bl_mono hxy
 have hY := len9_bl y
 have hly : (dg 1000000000 y).length ≤ (dg 1000000000 x).length := dg_len_mono two_D hxy
 refine e_seq <|e_reg <|as_ J J <|l_nil <|x_then <|e_seq <|e_reg <|as_ J J <|l_nil <|x_then <|e_seq <|e_reg <|as_ J J <|l_nil <|x_then <|e_seq <|e_seq <|e_reg <|as_ J J <|l_nil <|x_then <|e_block <|e_imp (s_nil 70 1 3 encN) <|e_lp [(0, _), (1, _)] [(0, _), (1, _), (2, _)] (fun (q : Nat × List Nat × Nat × Value) => [(7, .int .i64 (q.1 : Int)), (6, .int .i64 (q.2.2.1 : Int)), (5, q.2.2.2)]) (fun (q : Nat × List Nat × Nat × Value) => [(70, osl 1 3 encN q.2.2.2 q.2.1)]) (fun (q : Nat × List Nat × Nat × Value) => (q.1 ≤ (dg 1000000000 x).length) ∧ (q.2.1.length = q.1) ∧ (∀ d ∈ q.2.1, d < 1000000000) ∧ (q.2.2.1 ≤ 1) ∧ (val 1000000000 q.2.1 + val 1000000000 ((dg 1000000000 y).take q.1) = val 1000000000 ((dg 1000000000 x).take q.1) + q.2.2.1 * 1000000000 ^ q.1)) (fun (q : Nat × List Nat × Nat × Value) => (dg 1000000000 x).length - q.1) (0, [], 0, .slice none 0 0) ⟨by first | omega | (dsimp only <;> omega), rfl, by simp, by first | omega | (dsimp only <;> omega), by simp [val]⟩ ⟨J, J, J, J, J, trivial⟩ ⟨J, J, J, J, trivial⟩ ?_
 rintro ⟨i, o, c, vo⟩ ⟨hi, hol, hoa, hc, hv⟩
 dsimp only at hi hol hoa hc hv
 simp only [List.cons_append, List.nil_append]
 have hda := (getD_lt D_pos (dg_lt two_D x) i)
 have hdb := (getD_lt D_pos (dg_lt two_D y) i)
 refine e_seq <|e_seq <|e_reg <|mv J J <|mv J J <|dt (d_len J J (i := 1) J rd_slp uT37) J <|dt (d_lss J J J) J <|l_nil <|x_then <|e_cond J (fun h79 => ?_) (fun h79 => ?_)
 ·refine e_skip <|x_then <|e_seq <|e_block <|e_seq <|e_reg <|mv J J <|mv J J <|dt (d_ixa (ii := 1) J J J J rd_slp uT37 zT3 J (by first | omega | (simp only [List.length_set]; omega))) J <|dt (d_lde (ii := 1) 0 J J J rd_slp pN (by first | omega | (simp only [List.length_set]; omega))) J <|mv J J <|dt (d_sub J J J ⟨by omega, by omega⟩) J <|as_ J J <|l_nil <|x_then <|e_jn [(0, _), (1, _), (5, _), (7, _)] [(0, _), (70, _), (1, _), (2, _)] (fun (_ : Unit) => [(8, .int .i64 (((dg 1000000000 x).getD i 0 : Int) - (c : Int) - ((dg 1000000000 y).getD i 0 : Int)))]) (fun (_ : Unit) => []) (fun (_ : Unit) => True) ⟨J, J, J, J, trivial⟩ ⟨J, J, J, J, trivial⟩ ?_ ?_
  ·refine e_seq <|e_reg <|mv J J <|mv J J <|dt (d_len J J (i := 2) J rd_slp uT37) J <|dt (d_lss J J J) J <|l_nil <|x_then <|e_cond J (fun h81 => ?_) (fun h81 => ?_)
   ·refine e_reg <|mv J J <|mv J J <|mv J J <|dt (d_ixa (ii := 2) J J J J rd_slp uT37 zT3 J (by first | omega | (simp only [List.length_set]; omega))) J <|dt (d_lde (ii := 2) 0 J J J rd_slp pN (by first | omega | (simp only [List.length_set]; omega))) J <|dt (d_sub J J J ⟨by omega, by omega⟩) J <|as_ J J <|l_nil ?_
    try (have hz : (dg 1000000000 y).getD i 0 = 0 := by simp [List.getD, List.getElem?_eq_none (by omega : (dg 1000000000 y).length ≤ i)])
    exact x_jn () trivial ⟨by first | rfl | (rw [hz]; exact congrArg some (i64_eq (by omega))), rfl, rfl, rfl, rfl, trivial⟩ ⟨J, J, J, J, trivial⟩
   ·refine e_skip ?_
    try (have hz : (dg 1000000000 y).getD i 0 = 0 := by simp [List.getD, List.getElem?_eq_none (by omega : (dg 1000000000 y).length ≤ i)])
    exact x_jn () trivial ⟨by first | rfl | (rw [hz]; exact congrArg some (i64_eq (by omega))), rfl, rfl, rfl, rfl, trivial⟩ ⟨J, J, J, J, trivial⟩
  ·rintro _ -
   simp only [List.cons_append, List.nil_append]
   refine e_seq <|e_reg <|as_ J J <|l_nil <|x_then <|e_jn [(0, _), (1, _), (5, _), (7, _)] [(0, _), (70, _), (1, _), (2, _)] (fun (_ : Unit) => [(8, .int .i64 ((d9s ((dg 1000000000 x).getD i 0) ((dg 1000000000 y).getD i 0) c : Nat) : Int)), (6, .int .i64 ((brw ((dg 1000000000 x).getD i 0) ((dg 1000000000 y).getD i 0) c : Nat) : Int))]) (fun (_ : Unit) => []) (fun (_ : Unit) => True) ⟨J, J, J, J, trivial⟩ ⟨J, J, J, J, trivial⟩ ?_ ?_
   ·refine e_seq <|e_reg <|mv J J <|dt (d_lss J J J) J <|l_nil <|x_then <|e_cond J (fun h85 => ?_) (fun h85 => ?_)
    ·exact e_reg <|mv J J <|dt (d_add J J J ⟨by omega, by omega⟩) J <|as_ J J <|as_ J J <|l_nil <|x_jn () trivial ⟨by exact congrArg some (i64_eq (by unfold d9s; split <;> omega)), by exact congrArg some (i64_eq (by unfold brw; split <;> omega)), rfl, rfl, rfl, rfl, trivial⟩ ⟨J, J, J, J, trivial⟩
    ·exact e_skip <|x_jn () trivial ⟨by exact congrArg some (i64_eq (by unfold d9s; split <;> omega)), by exact congrArg some (i64_eq (by unfold brw; split <;> omega)), rfl, rfl, rfl, rfl, trivial⟩ ⟨J, J, J, J, trivial⟩
   ·rintro _ -
    simp only [List.cons_append, List.nil_append]
    exact e_reg <|mv J J <|mv J J <|tt (t_bsg (i := 3) (ivs := [(0, _)]) (enc := encN) [d9s ((dg 1000000000 x).getD i 0) ((dg 1000000000 y).getD i 0) c] J J J ⟨J, J, trivial⟩ uT37 Tryz.ti3 J J J J J J pN.cells J J hw) J fun v _ => tt (t_appa (i := 70) (j := 3) (by_ := 8) J J J J J J (by decide) J (rd_osl pN) uT37 Tryz.ti3 J pN J J J (by simp; omega) (by decide) J hw) J fun v_2 _ => as_ J J <|l_nil <|x_bn <|x_then <|e_reg <|mv J J <|dt (d_add J J J ⟨by omega, by omega⟩) J <|as_ J J <|l_nil <|x_rnd (i + 1, o ++ [d9s ((dg 1000000000 x).getD i 0) ((dg 1000000000 y).getD i 0) c], brw ((dg 1000000000 x).getD i 0) ((dg 1000000000 y).getD i 0) c, _) ⟨by first | omega | (dsimp only <;> omega), by simp [hol], all_snoc hoa (d9s_int hda hdb hc).1, brw_le _ _ _, minus_step hc hda hdb hol hv⟩ (by first | omega | (dsimp only <;> omega)) ⟨J, J, J, J, J, trivial⟩ ⟨J, J, J, J, trivial⟩
 ·refine e_exit <|x_exit <|x_exit <|x_be <|x_then <|e_seq <|e_reg <|mv J J <|tt (t_call (n := 3) (r_trim_own _ _) J J J ⟨J, trivial⟩ cF60 (pre_lend 70 J J pN pre_nil) J hw) J fun _ _ => l_imp (s_tz 70 J J pN) <|as_ J J <|l_nil <|x_then <|e_ret ?_
  obtain rfl : i = (dg 1000000000 x).length := by omega
  have hx : tz o = dg 1000000000 (x - y) := by
   rw [← dg_val two_D _ hoa]
   congr 1
   rw [val_take_all _ (dg 1000000000 y) _ hly, val_take_all _ (dg 1000000000 x) _ (Nat.le_refl _), val_dg two_D, val_dg two_D] at hv
   have h1 := val_lt D_pos o hoa
   rw [hol] at h1
   have h0 : c = 0 ∨ c = 1 := by omega
   rcases h0 with rfl | rfl <;> omega
  exact x_end (.inl J) hsc _ _ (fun a w hs => res1 hs Tryz.results94 J) J trivial J (give_owne 70 J J pN (by rw [hx] <;> rfl) give_nil)
set_option maxHeartbeats 4000000 in
theorem r_times (v w : Value) (x y : Nat) (hx : bl x ≤ 4294967296) (hy : bl y ≤ 4294967296) : Cal Tryz.prog 96 #[v, w] [d9p v x, d9p w y] false (G := Value) (fun r => True) (fun r => r) (fun r => [d9p r (x * y)]) := by
 refine cal_in Tryz.func96 J Tryz.ntmps96 J ⟨J, J, trivial⟩ ?_
 intro w0 sc hw hsc
 simp only [enumEnv, enumPre]
 have hX := len9_bl x
 have hY := len9_bl y
 refine e_seq <|e_reg <|as_ J J <|l_nil <|x_then <|e_seq <|e_reg <|mv J J <|dt (d_len J J (i := 1) J rd_slp uT37) J <|mv J J <|dt (d_len J J (i := 2) J rd_slp uT37) J <|dt (d_add J J J ⟨by omega, by omega⟩) J <|tt (t_mkn (i := 3) (n := ((dg 1000000000 x).length + (dg 1000000000 y).length)) (by_ := 8) (enc := encN) 0 J J J J J (by omega) uT37 Tryz.ti3 J pN.cells pN.pos J J (by omega) (by decide) J hw) J fun v _ => as_ J J <|l_nil <|x_then <|e_seq <|e_seq <|e_reg <|as_ J J <|l_nil <|x_then <|e_block <|e_lp [(0, _), (1, _), (5, _)] [(0, _), (1, _), (2, _)] (fun (q : Nat × List Nat) => [(6, .int .i64 (q.1 : Int))]) (fun (q : Nat × List Nat) => [(3, osl 1 3 encN v q.2)]) (fun (q : Nat × List Nat) => (q.1 ≤ (dg 1000000000 x).length) ∧ (q.2.length = ((dg 1000000000 x).length + (dg 1000000000 y).length)) ∧ (∀ d ∈ q.2, d < 1000000000) ∧ (∀ j, q.1 + (dg 1000000000 y).length ≤ j → q.2.getD j 0 = 0) ∧ (val 1000000000 q.2 = val 1000000000 ((dg 1000000000 x).take q.1) * y)) (fun (q : Nat × List Nat) => (dg 1000000000 x).length - q.1) (0, List.replicate ((dg 1000000000 x).length + (dg 1000000000 y).length) 0) ⟨by first | omega | (dsimp only <;> omega), by simp, all_replicate _ D_pos, fun j _ => getD_replicate _ j, by simp [val, val_replicate]⟩ ⟨J, J, J, J, trivial⟩ ⟨J, J, J, J, trivial⟩ ?_
 rintro ⟨i, o⟩ ⟨hi, hol, hoa, hz0, hv⟩
 dsimp only at hi hol hoa hz0 hv
 simp only [List.cons_append, List.nil_append]
 refine e_seq <|e_seq <|e_reg <|mv J J <|mv J J <|dt (d_len J J (i := 1) J rd_slp uT37) J <|dt (d_lss J J J) J <|l_nil <|x_then <|e_cond J (fun h96 => ?_) (fun h96 => ?_)
 ·refine e_skip <|x_then <|e_seq <|e_block <|e_seq <|e_reg <|as_ J J <|l_nil <|x_then <|e_seq <|e_reg <|as_ J J <|l_nil <|x_then <|e_block <|e_lp [(0, _), (1, _), (5, _), (6, _)] [(0, _), (1, _), (2, _)] (fun (q : Nat × List Nat × Nat) => [(8, .int .i64 (q.1 : Int)), (7, .int .i64 (q.2.2 : Int))]) (fun (q : Nat × List Nat × Nat) => [(3, osl 1 3 encN v q.2.1)]) (fun (q : Nat × List Nat × Nat) => (q.1 ≤ (dg 1000000000 y).length + 1 ∧ (q.1 = (dg 1000000000 y).length + 1 → q.2.2 = 0)) ∧ (q.2.1.length = ((dg 1000000000 x).length + (dg 1000000000 y).length)) ∧ (∀ d ∈ q.2.1, d < 1000000000) ∧ (∀ j, i + q.1 ≤ j → i + (dg 1000000000 y).length ≤ j → q.2.1.getD j 0 = 0) ∧ (q.2.2 < 1000000000) ∧ (val 1000000000 q.2.1 + q.2.2 * 1000000000 ^ (i + q.1) = val 1000000000 ((dg 1000000000 x).take i) * y + (dg 1000000000 x).getD i 0 * 1000000000 ^ i * val 1000000000 ((dg 1000000000 y).take q.1))) (fun (q : Nat × List Nat × Nat) => (dg 1000000000 y).length + 1 - q.1) (0, o, 0) ⟨⟨by omega, by omega⟩, hol, hoa, fun j _ h => hz0 j h, by first | omega | (dsimp only <;> omega), by rw [hv]; simp [val]⟩ ⟨J, J, J, J, J, J, trivial⟩ ⟨J, J, J, J, trivial⟩ ?_
  rintro ⟨k, p, c⟩ ⟨hk, hpl, hpa, hpz, hcU, hpv⟩
  dsimp only at hk hpl hpa hpz hcU hpv
  simp only [List.cons_append, List.nil_append]
  have hdig := times_digit (getD_lt D_pos (dg_lt two_D x) i) (getD_lt D_pos (dg_lt two_D y) k) (getD_lt D_pos hpa (i + k)) hcU
  refine e_seq <|e_jn [(0, _), (1, _), (5, _), (6, _), (7, _), (8, _)] [(0, _), (3, _), (1, _), (2, _)] (fun (_ : Unit) => [(29, .bool (decide (k < (dg 1000000000 y).length ∨ 0 < c)))]) (fun (_ : Unit) => []) (fun (_ : Unit) => True) ⟨J, J, J, J, J, J, trivial⟩ ⟨J, J, J, J, trivial⟩ ?_ ?_
  ·refine e_reg <|mv J J <|mv J J <|dt (d_len J J (i := 2) J rd_slp uT37) J <|dt (d_lss J J J) J <|mv J J <|l_split (d := 26) J (fun s98 => ?_) (fun s98 => ?_)
   ·exact gsk J J J J J <|gsk J J J J J <|dt (d_pickt J J J) J <|l_nil <|x_jn () trivial ⟨by first | exact congrArg some (congrArg Value.bool (decide_eq_decide.2 (by omega))) | exact congrArg some (congrArg Value.bool (decide_eq_true (by omega)).symm), rfl, rfl, rfl, rfl, rfl, rfl, trivial⟩ ⟨J, J, J, J, trivial⟩
   ·exact gdt (d_mv J J) J J J J <|gdt (d_gtr J J J) J J J J <|dt (d_pickf J J J) J <|l_nil <|x_jn () trivial ⟨by first | exact congrArg some (congrArg Value.bool (decide_eq_decide.2 (by omega))) | exact congrArg some (congrArg Value.bool (decide_eq_true (by omega)).symm), rfl, rfl, rfl, rfl, rfl, rfl, trivial⟩ ⟨J, J, J, J, trivial⟩
  ·rintro _ -
   simp only [List.cons_append, List.nil_append]
   refine e_cond J (fun h98 => ?_) (fun h98 => ?_)
   ·refine e_skip <|x_then <|e_seq <|e_block <|e_seq <|e_reg <|mv J J <|mv J J <|mv J J <|dt (n_add J J J (by omega)) J <|dt (d_ixa (ii := 3) (i := (i + k)) J J J J (rd_osl pN) uT37 zT3 (by omega) (by omega)) J <|dt (d_lde (ii := 3) 0 J J J (rd_osl pN) pN (by omega)) J <|mv J J <|dt (n_add J J J (by have h1 := getD_lt D_pos hpa (i + k); omega)) J <|as_ J J <|l_nil <|x_then <|e_jn [(0, _), (1, _), (5, _), (6, _), (8, _)] [(0, _), (3, _), (1, _), (2, _)] (fun (_ : Unit) => [(9, .int .i64 ((p.getD (i + k) 0 + c + (dg 1000000000 x).getD i 0 * (dg 1000000000 y).getD k 0 : Nat) : Int))]) (fun (_ : Unit) => []) (fun (_ : Unit) => True) ⟨J, J, J, J, J, trivial⟩ ⟨J, J, J, J, trivial⟩ ?_ ?_
    ·refine e_seq <|e_reg <|mv J J <|mv J J <|dt (d_len J J (i := 2) J rd_slp uT37) J <|dt (d_lss J J J) J <|l_nil <|x_then <|e_cond J (fun h100 => ?_) (fun h100 => ?_)
     ·refine e_dreg (fun _ => False) [(0, 0), (1, 0), (2, 0), (3, 0), (4, 0), (5, 0), (6, 0), (7, 0), (8, 0), (9, 0), (10, 0), (11, 3)] (by kernel_rfl) ?_ ?_
      ·kernel_rfl
      refine r0' J J J J (st0 (d_mv J J)) <|r0' J J J J (st0 (d_mv J J)) <|r0' J J J J (st0 (d_mv J J)) <|r0' J J J J (st0 (d_ixa (ii := 1) J J J J rd_slp uT37 zT3 J (by first | omega | (simp only [List.length_set]; omega)))) <|r0' J J J J (st0 (d_lde (ii := 1) 0 J J J rd_slp pN (by first | omega | (simp only [List.length_set]; omega)))) <|r0' J J J J (st0 (d_mv J J)) <|r0' J J J J (st0 (d_mv J J)) <|r0' J J J J (st0 (d_ixa (ii := 2) J J J J rd_slp uT37 zT3 J (by first | omega | (simp only [List.length_set]; omega)))) <|r0' J J J J (st0 (d_lde (ii := 2) 0 J J J rd_slp pN (by first | omega | (simp only [List.length_set]; omega)))) <|r0' J J J J (st0 (n_mul J J J (by have h1 := hdig.2; omega))) <|r0' J J J J (st0 (n_add J J J hdig.2)) <|r3' J J (t_det (d_as J J) J J) fun _ _ => r_end ?_
      try (have hz : (dg 1000000000 y).getD k 0 = 0 := dg_getD0 (by omega))
      exact x_jn () trivial ⟨by first | rfl | (rw [hz, Nat.mul_zero]; rfl), rfl, rfl, rfl, rfl, rfl, trivial⟩ ⟨J, J, J, J, trivial⟩
     ·refine e_skip ?_
      try (have hz : (dg 1000000000 y).getD k 0 = 0 := dg_getD0 (by omega))
      exact x_jn () trivial ⟨by first | rfl | (rw [hz, Nat.mul_zero]; rfl), rfl, rfl, rfl, rfl, rfl, trivial⟩ ⟨J, J, J, J, trivial⟩
    ·rintro _ -
     simp only [List.cons_append, List.nil_append]
     exact e_seq <|e_reg <|mv J J <|mv J J <|mv J J <|dt (n_add J J J (by omega)) J <|mv J J <|dt (n_rem (n := 1000000000) J J J (by omega)) J <|dt (d_ixa (ii := 3) (i := (i + k)) J J J J (rd_osl pN) uT37 zT3 (by omega) (by omega)) J <|tt (t_ste (i := 3) (enc := encN) _ J J J J J J (by decide) pN (by omega) J hw) J fun _ _ => l_nil <|x_then <|e_reg <|mv J J <|dt (n_quo (n := 1000000000) J J J hdig.2 (by omega)) J <|as_ J J <|l_nil <|x_bn <|x_then <|e_reg <|mv J J <|dt (d_add J J J ⟨by omega, by omega⟩) J <|as_ J J <|l_nil <|x_rnd (k + 1, _, _) ⟨⟨by dsimp only; omega, fun h => by dsimp only at h ⊢; rw [dg_getD0 (by omega : (dg 1000000000 y).length ≤ k), hpz (i + k) (by omega) (by omega), Nat.mul_zero]; omega⟩, by simp; omega, all_set hpa _ _ (Nat.mod_lt _ D_pos), fun j hj hj2 => by dsimp only at hj ⊢; rw [getD_set _ _ _ _ _ (by omega), if_neg (by omega)]; exact hpz j (by omega) hj2, hdig.1, times_step hpv (by omega)⟩ (by first | omega | (dsimp only <;> omega)) ⟨J, J, J, J, J, J, trivial⟩ ⟨J, J, J, J, trivial⟩
   ·refine e_exit <|x_exit <|x_exit <|x_be <|x_bn <|x_then <|e_reg <|mv J J <|dt (d_add J J J ⟨by omega, by omega⟩) J <|as_ J J <|l_nil ?_
    have hc0 : c = 0 := by omega
    have hvf := hpv
    rw [hc0, Nat.zero_mul, Nat.add_zero, take_dg_all (x := y) (k := k) two_D (by omega)] at hvf
    exact x_rnd (i + 1, _) ⟨by first | omega | (dsimp only <;> omega), hpl, hpa, fun j hj => hpz j (by dsimp only at hj; omega) (by dsimp only at hj; omega), by dsimp only; rw [hvf, val_take_succ, Nat.add_mul]⟩ (by first | omega | (dsimp only <;> omega)) ⟨J, J, J, J, trivial⟩ ⟨J, J, J, J, trivial⟩
 ·refine e_exit <|x_exit <|x_exit <|x_be <|x_then <|e_seq <|e_reg <|mv J J <|tt (t_call (n := 3) (r_trim_own _ _) J J J ⟨J, trivial⟩ cF60 (pre_lend 3 J J pN pre_nil) J hw) J fun _ _ => l_imp (s_tz 3 J J pN) <|as_ J J <|l_nil <|x_then <|e_ret ?_
  obtain rfl : i = (dg 1000000000 x).length := by omega
  have hx : tz o = dg 1000000000 (x * y) := by
   rw [← dg_val two_D _ hoa, hv, take_dg_all two_D (Nat.le_refl _)]
  exact x_end (.inl J) hsc _ _ (fun a w hs => res1 hs Tryz.results96 J) J trivial J (give_owne 3 J J pN (by rw [hx] <;> rfl) give_nil)
theorem r_small (v : Value) (x n : Nat) (hx : bl x ≤ 4294967296) (hn : n < 1000000000) : Cal Tryz.prog 97 #[v, .int .i64 (n : Int)] [d9p v x] true (G := Value) (fun r => True) (fun r => r) (fun r => [d9p r (x * n)]) := by
 refine cal_in Tryz.func97 J Tryz.ntmps97 J ⟨J, trivial⟩ ?_
 intro w0 sc hw hsc
 simp only [enumEnv, enumPre]
 refine e_seq <|e_reg <|as_ J J <|l_nil <|x_then <|e_seq <|e_seq <|e_reg <|mv J J <|dt (d_eql J J J) J <|l_nil <|x_then <|e_cond J (fun h112 => ?_) (fun h112 => ?_)
 ·exact e_seq <|e_reg <|as_ J J <|l_nil <|x_then <|e_ret <|x_ret <|x_imp (s_nil 9 1 3 encN) <|x_end (.inl J) hsc (.slice none 0 0) _ (fun a w hs => res1 hs Tryz.results97 J) J trivial J (give_owne 9 J J pN (by rw [show n = 0 by omega, Nat.mul_zero] <;> rfl) give_nil)
 ·have hn0 : n ≠ 0 := by omega
  exact e_skip <|x_then <|e_seq <|e_reg <|mv J J <|mv J J <|tt (t_bsg (i := 70) (ivs := [(0, _)]) (enc := encN) [n] J J J ⟨J, J, trivial⟩ uT37 Tryz.ti3 J J J J J J pN.cells J J hw) J fun v _ => l_imp (s_oeq 70 (dg_digit two_D hn hn0).symm J J) <|tt (t_call (n := 2) (r_times _ _ _ n hx (by have := (bl_le 30 n).2 (by omega); omega)) J J J ⟨J, J, trivial⟩ cF96 (pre_same 1 J J J (pre_lend 70 J J pN pre_nil)) J hw) J fun v_2 _ => as_ J J <|l_nil <|x_then <|e_ret <|x_end (.inl J) hsc _ _ (fun a w hs => res1 hs Tryz.results97 J) J trivial J (give_same 2 J J J give_nil)
set_option maxHeartbeats 4000000 in
theorem r_over (v w : Value) (x y : Nat) (hx : bl x ≤ 4000000000) (hy : bl y ≤ 4000000000) (hy0 : 0 < y) : Cal Tryz.prog 112 #[v, w] [d9p v x, d9p w y] true (G := Value × Value) (fun r => True) (fun r => .tuple #[r.1, r.2]) (fun r => [d9p r.1 (x / y), d9p r.2 (x % y)]) := by
 refine cal_in Tryz.func112 J Tryz.ntmps112 J ⟨J, J, trivial⟩ ?_
 intro w0 sc hw hsc
 simp only [enumEnv, enumPre]
 have hX := len9_bl x
 have hY := len9_bl y
 refine e_seq <|e_reg <|as_ J J <|as_ J J <|l_nil <|x_then <|e_seq <|e_reg <|mv J J <|dt (d_len J J (i := 1) J rd_slp uT37) J <|tt (t_mkn (i := 3) (n := (dg 1000000000 x).length) (by_ := 8) (enc := encN) 0 J J J J J (by omega) uT37 Tryz.ti3 J pN.cells pN.pos J J (by omega) (by decide) J hw) J fun v _ => as_ J J <|l_nil <|x_then <|e_seq <|e_reg <|as_ J J <|l_nil <|x_then <|e_seq <|e_seq <|e_reg <|mv J J <|dt (d_len J J (i := 1) J rd_slp uT37) J <|dt (d_sub J J J ⟨by omega, by omega⟩) J <|as_ J J <|l_nil <|x_then <|e_block <|e_imp (s_nil 71 1 3 encN) <|e_imp (s_pub 71 J J pN) ?_
 refine e_lp [(0, _), (1, _), (6, _)] [(0, _), (1, _), (2, _)] (fun (q : Nat × List Nat × Nat × Value) => [(8, .int .i64 ((q.1 : Int) - 1)), (7, q.2.2.2)]) (fun (q : Nat × List Nat × Nat × Value) => [(3, osl 1 3 encN v q.2.1), (71, d9p q.2.2.2 q.2.2.1)]) (fun (q : Nat × List Nat × Nat × Value) => (q.1 ≤ (dg 1000000000 x).length) ∧ (q.2.1.length = (dg 1000000000 x).length) ∧ (∀ d ∈ q.2.1, d < 1000000000) ∧ (∀ j, j < q.1 → q.2.1.getD j 0 = 0) ∧ (val 1000000000 (q.2.1.drop q.1) * y + q.2.2.1 = x / 1000000000 ^ q.1) ∧ (q.2.2.1 < y)) (fun (q : Nat × List Nat × Nat × Value) => q.1) ((dg 1000000000 x).length, List.replicate (dg 1000000000 x).length 0, 0, .slice none 0 0) ⟨Nat.le_refl _, by simp, all_replicate _ D_pos, fun j _ => getD_replicate _ j, by dsimp only; rw [Nat.div_eq_of_lt ((dg_length_le two_D _ x).1 (Nat.le_refl _))]; simp [val], hy0⟩ ⟨J, J, J, J, J, trivial⟩ ⟨J, J, J, J, J, trivial⟩ ?_
 rintro ⟨k, q, r, vr⟩ ⟨hk, hql, hqa, hqz, hv, hr⟩
 dsimp only at hk hql hqa hqz hv hr
 simp only [List.cons_append, List.nil_append]
 refine e_seq <|e_seq <|e_reg <|mv J J <|dt (d_geq J J J) J <|l_nil <|x_then <|e_cond J (fun h122 => ?_) (fun h122 => ?_)
 ·have hk0 : 0 < k := by omega
  have ha9 := getD_lt D_pos (dg_lt two_D x) (k - 1)
  have hdig : x / 1000000000 ^ (k - 1) = x / 1000000000 ^ k * 1000000000 + (dg 1000000000 x).getD (k - 1) 0 := by rw [dg_getD two_D]; exact (over_digit hk0).symm
  rw [← hv, Nat.add_mul] at hdig
  have hrb := bl_over hr ha9
  have hQ9 := over_Q hr ha9
  refine e_skip <|x_then <|e_seq <|e_block <|e_seq <|e_reg <|mv J J <|mv J J <|dt (d_ixa (ii := 1) (i := (k - 1)) J J J J rd_slp uT37 zT3 (by omega) (by omega)) J <|dt (d_lde (ii := 1) 0 J J J rd_slp pN (by omega)) J <|tt (t_bsg (i := 72) (ivs := [(0, _)]) (enc := encN) [(dg 1000000000 x).getD (k - 1) 0] J J J ⟨J, J, trivial⟩ uT37 Tryz.ti3 J J J J J J pN.cells J J hw) J fun v_2 _ => mv J J <|tt (t_appa (i := 72) (j := 71) (by_ := 8) J J J J J J (by decide) J rd_slp uT37 Tryz.ti3 J pN J J J (by have h8 := len9_bl r; have h9 := bl_mono (Nat.le_of_lt hr); simp; omega) (by decide) J hw) J fun v_3 _ => tt (t_call (n := 3) (r_trim_own _ _) J J J ⟨J, trivial⟩ cF60 (pre_lend 72 J J pN pre_nil) J hw) J fun _ _ => l_imp (s_tz 72 J J pN) <|l_imp (s_oeq 72 (tz_cons two_D ha9) J J) <|l_imp (s_pub 72 J J pN) <|as_ J J <|l_nil <|x_then <|e_seq <|e_seq <|e_reg <|mv J J <|mv J J <|tt (t_call (n := 3) (r_order _ _ _ _ (by omega) (by omega)) J J J ⟨J, J, trivial⟩ cF93 (pre_same 72 J J J (pre_same 2 J J J pre_nil)) J hw) J fun _ _ => dt (d_lss J J J) J <|l_nil <|x_then <|e_cond J (fun h124 => ?_) (fun h124 => ?_)
  ·have hlt : (r * 1000000000 + (dg 1000000000 x).getD (k - 1) 0) < y := cmpI_neg.1 h124
   refine e_exit <|x_exit <|x_be <|x_then <|e_reg <|mv J J <|dt (d_sub J J J ⟨by omega, by omega⟩) J <|as_ J J <|l_nil <|x_imp (s_dup 72 71 J J J) ?_
   have h2 := drop_val0 hk0 (by omega : k ≤ q.length) (hqz (k - 1) (by omega))
   exact x_rnd (k - 1, q, (r * 1000000000 + (dg 1000000000 x).getD (k - 1) 0), _) ⟨by first | omega | (dsimp only <;> omega), by first | omega | (dsimp only <;> omega), by first | omega | (dsimp only <;> omega), fun j hj => hqz j (by dsimp only at hj; omega), by have h9 : 1000000000 * val 1000000000 (q.drop k) * y = val 1000000000 (q.drop k) * y * 1000000000 := (by rw [Nat.mul_assoc, Nat.mul_comm]); dsimp only; rw [h2, hdig, h9]; omega, hlt⟩ (by first | omega | (dsimp only <;> omega)) ⟨by rw [show (((k - 1 : Nat) : Int) - 1) = (k : Int) - 1 - 1 by omega]; rfl, rfl, rfl, rfl, rfl, trivial⟩ ⟨J, J, J, J, J, trivial⟩
  ·have hge : y ≤ (r * 1000000000 + (dg 1000000000 x).getD (k - 1) 0) := by have := mt cmpI_neg.2 h124; omega
   refine e_skip <|x_then <|e_seq <|e_reg <|as_ J J <|as_ J J <|l_nil <|x_then <|e_seq <|e_block <|e_lp [(0, _), (1, _), (6, _), (7, _), (8, _)] [(0, _), (3, _), (71, _), (1, _), (2, _), (72, _)] (fun (q : Nat × Nat) => [(9, .int .i64 (q.1 : Int)), (10, .int .i64 (q.2 : Int))]) (fun (q : Nat × Nat) => []) (fun (q : Nat × Nat) => (q.1 ≤ (r * 1000000000 + (dg 1000000000 x).getD (k - 1) 0) / y) ∧ ((r * 1000000000 + (dg 1000000000 x).getD (k - 1) 0) / y ≤ q.2) ∧ (q.2 < 1000000000)) (fun (q : Nat × Nat) => q.2 - q.1) (0, 999999999) ⟨Nat.zero_le _, by omega, by first | omega | (dsimp only <;> omega)⟩ ⟨J, J, J, J, J, J, J, trivial⟩ ⟨J, J, J, J, J, J, trivial⟩ ?_
   rintro ⟨lo, hi⟩ ⟨hlo, hhi, hh9⟩
   dsimp only at hlo hhi hh9
   simp only [List.cons_append, List.nil_append]
   have hmid : (lo + hi + 1) / 2 < 1000000000 := by omega
   refine e_seq <|e_seq <|e_reg <|mv J J <|mv J J <|dt (d_lss J J J) J <|l_nil <|x_then <|e_cond J (fun h128 => ?_) (fun h128 => ?_)
   ·refine e_skip <|x_then <|e_block <|e_seq <|e_reg <|mv J J <|mv J J <|dt (n_add J J J (by omega)) J <|dt (n_add (n := 1) J J J (by omega)) J <|dt (n_quo (n := 2) J J J (by omega) (by omega)) J <|as_ J J <|l_nil <|x_then <|e_seq <|e_reg <|mv J J <|mv J J <|tt (t_call (n := 4) (r_small _ _ _ (by omega) (by omega)) J J J ⟨J, J, trivial⟩ cF97 (pre_same 2 J J J pre_nil) J hw) J fun v_4 _ => mv J J <|tt (t_call (n := 4) (r_order _ _ _ _ (by have := bl_small (y := y) hmid; omega) (by omega)) J J J ⟨J, J, trivial⟩ cF93 (pre_same 4 J J J (pre_same 72 J J J pre_nil)) J hw) J fun _ _ => dt (d_leq J J J) J <|l_nil <|x_then <|e_cond J (fun h130 => ?_) (fun h130 => ?_)
    ·have hcm : y * ((lo + hi + 1) / 2) ≤ (r * 1000000000 + (dg 1000000000 x).getD (k - 1) 0) := cmpI_le.1 h130
     exact e_reg <|mv J J <|as_ J J <|l_nil <|x_bn <|x_rnd ((lo + hi + 1) / 2, hi) ⟨(Nat.le_div_iff_mul_le hy0).2 (by rw [Nat.mul_comm]; exact hcm), by first | omega | (dsimp only <;> omega), by first | omega | (dsimp only <;> omega)⟩ (by first | omega | (dsimp only <;> omega)) ⟨J, J, J, J, J, J, J, trivial⟩ ⟨J, J, J, J, J, J, trivial⟩
    ·have hcm : (r * 1000000000 + (dg 1000000000 x).getD (k - 1) 0) < y * ((lo + hi + 1) / 2) := by have := mt cmpI_le.2 h130; omega
     exact e_reg <|mv J J <|dt (d_sub J J J ⟨by omega, by omega⟩) J <|as_ J J <|l_nil <|x_bn <|x_rnd (lo, (lo + hi + 1) / 2 - 1) ⟨by first | omega | (dsimp only <;> omega), by have h7 := (Nat.div_lt_iff_lt_mul hy0).2 (show (r * 1000000000 + (dg 1000000000 x).getD (k - 1) 0) < (lo + hi + 1) / 2 * y by have h6 := Nat.mul_comm ((lo + hi + 1) / 2) y; omega); dsimp only; omega, by first | omega | (dsimp only <;> omega)⟩ (by first | omega | (dsimp only <;> omega)) ⟨J, by rw [show (((lo + hi + 1) / 2 - 1 : Nat) : Int) = (((lo + hi + 1) / 2 : Nat) : Int) - 1 by omega]; rfl, rfl, rfl, rfl, rfl, rfl, trivial⟩ ⟨J, J, J, J, J, J, trivial⟩
   ·have hloQ : lo = (r * 1000000000 + (dg 1000000000 x).getD (k - 1) 0) / y := by omega
    refine e_exit <|x_exit <|x_exit <|x_be <|x_then <|e_seq <|e_reg <|mv J J <|mv J J <|mv J J <|dt (d_ixa (ii := 3) (i := (k - 1)) J J J J (rd_osl pN) uT37 zT3 (by omega) (by omega)) J <|tt (t_ste (i := 3) (enc := encN) _ J J J J J J (by decide) pN (by omega) J hw) J fun _ _ => l_nil <|x_then <|e_reg <|mv J J <|mv J J <|mv J J <|tt (t_call (n := 5) (r_small _ _ _ (by omega) (by omega)) J J J ⟨J, J, trivial⟩ cF97 (pre_same 2 J J J pre_nil) J hw) J fun v_5 _ => tt (t_call (n := 6) (r_minus _ _ _ _ (by omega) (by rw [hloQ]; exact Nat.mul_div_le _ _)) J J J ⟨J, J, trivial⟩ cF94 (pre_same 72 J J J (pre_same 5 J J J pre_nil)) J hw) J fun v_6 _ => as_ J J <|l_nil <|x_bn <|x_then <|e_reg <|mv J J <|dt (d_sub J J J ⟨by omega, by omega⟩) J <|as_ J J <|l_nil <|x_imp (s_dup 6 71 J J J) ?_
    have h2 := drop_set_val (d := lo) hk0 (by omega : k ≤ q.length)
    have h16 : y * lo ≤ (r * 1000000000 + (dg 1000000000 x).getD (k - 1) 0) := by rw [hloQ]; exact Nat.mul_div_le _ _
    exact x_rnd (k - 1, _, (r * 1000000000 + (dg 1000000000 x).getD (k - 1) 0) - y * lo, _) ⟨by first | omega | (dsimp only <;> omega), by simp [hql], all_set hqa _ _ (by omega), fun j hj => by dsimp only at hj ⊢; rw [getD_set _ _ _ _ _ (by omega), if_neg (by omega)]; exact hqz j (by omega), by have h9 : 1000000000 * val 1000000000 (q.drop k) * y = val 1000000000 (q.drop k) * y * 1000000000 := (by rw [Nat.mul_assoc, Nat.mul_comm]); dsimp only; rw [h2, hdig, Nat.add_mul, h9]; have h5 : lo * y = y * lo := Nat.mul_comm _ _; omega, by dsimp only; rw [hloQ]; have h5 := Nat.div_add_mod (r * 1000000000 + (dg 1000000000 x).getD (k - 1) 0) y; have h6 := Nat.mod_lt (r * 1000000000 + (dg 1000000000 x).getD (k - 1) 0) hy0; omega⟩ (by first | omega | (dsimp only <;> omega)) ⟨by rw [show (((k - 1 : Nat) : Int) - 1) = (k : Int) - 1 - 1 by omega]; rfl, rfl, rfl, rfl, rfl, trivial⟩ ⟨J, J, J, J, J, trivial⟩
 ·refine e_exit <|x_exit <|x_exit <|x_be <|x_then <|e_seq <|e_reg <|mv J J <|tt (t_call (n := 6) (r_trim_own _ _) J J J ⟨J, trivial⟩ cF60 (pre_lend 3 J J pN pre_nil) J hw) J fun _ _ => l_imp (s_tz 3 J J pN) <|mv J J <|as_ J J <|as_ J J <|l_nil <|x_then <|e_ret ?_
  obtain rfl : k = 0 := by omega
  rw [List.drop_zero, Nat.pow_zero, Nat.div_one] at hv
  have hq : val 1000000000 q = x / y := by rw [← hv, Nat.mul_comm, Nat.mul_add_div hy0, Nat.div_eq_of_lt hr, Nat.add_zero]
  have hr2 : r = x % y := by rw [← hv, Nat.mul_comm, Nat.mul_add_mod, Nat.mod_eq_of_lt hr]
  have hx : tz q = dg 1000000000 (x / y) := by rw [← dg_val two_D _ hqa, hq]
  exact x_end (.inl J) hsc (_, _) _ (fun a w hs => res2 hs Tryz.results112 J J) J trivial J (give_owne 3 J J pN (by rw [hx] <;> rfl) (give_samee 71 J J J (by rw [hr2] <;> rfl) give_nil))
theorem r_made (s : Bool) (v : Value) (n : Nat) (z : Int) (hn : n = z.natAbs) (hs : sg s z) (hb : bl n ≤ 4294967296) : Cal Tryz.prog 91 #[.bool s, v] [d9p v n] false (G := Unit) (fun _ => True) (fun _ => .agg #[.bool (decide (z < 0)), v]) (fun _ => []) := by
 refine cal_in Tryz.func91 J Tryz.ntmps91 J ⟨J, trivial⟩ ?_
 intro w0 sc hw hsc
 simp only [enumEnv, enumPre]
 have hl9 := len9_bl n
 refine e_seq <|e_reg <|tt (t_alloc (i := 2) J J J Tryz.zeroValue39 J J hw) J fun b _ => l_nil <|x_then <|e_seq <|e_reg <|mv J J <|mv J J <|l_splitb (d := 6) J (fun s143 => ?_) (fun s143 => ?_)
 ·exact gdt (d_mv J J) J J J J <|gdt (d_len J J (i := 1) J rd_slp uT37) J J J J <|gdt (d_gtr J J J) J J J J <|dt (d_pickt J J J) J <|mv J J <|dt (d_bld (ivs := [(0, _), (1, _)]) J ⟨J, J, J, J, trivial⟩ (fun a w hs => b39_01 ((one_rfl J) a w hs) ((one_rd (i := 1) J rd_slp) a w hs))) J <|tt (t_stw (i := 2) J J J J J (by decide) J zT39 J J ⟨(one_rfl J), (one_rd (i := 1) J rd_slp), trivial⟩ J hw trivial) J fun _ _ => l_nil <|x_then <|e_ret <|x_end (.inl J) hsc () _ (fun a w hs => res1 hs Tryz.results91 (rv_cell (i := 2) J J iA39 zT39 J)) (by rw [← made_b hn hs, ← len_pos9]; simp_all) trivial J give_nil
 ·exact gsk J J J J J <|gsk J J J J J <|gsk J J J J J <|dt (d_pickf J J J) J <|mv J J <|dt (d_bld (ivs := [(0, _), (1, _)]) J ⟨J, J, J, J, trivial⟩ (fun a w hs => b39_01 ((one_rfl J) a w hs) ((one_rd (i := 1) J rd_slp) a w hs))) J <|tt (t_stw (i := 2) J J J J J (by decide) J zT39 J J ⟨(one_rfl J), (one_rd (i := 1) J rd_slp), trivial⟩ J hw trivial) J fun _ _ => l_nil <|x_then <|e_ret <|x_end (.inl J) hsc () _ (fun a w hs => res1 hs Tryz.results91 (rv_cell (i := 2) J J iA39 zT39 J)) (by rw [← made_b hn hs, ← len_pos9]; simp_all) trivial J give_nil
theorem r_neg (v : Value) (x : Int) (hx : bl x.natAbs ≤ 3000000000) : Cal Tryz.prog 41 #[.agg #[.bool (decide (x < 0)), v]] [d9p v x.natAbs] true (G := Value) (fun r => True) (fun r => .agg #[.bool (decide (-x < 0)), r]) (fun r => [d9p r (-x).natAbs]) := by
 refine cal_in Tryz.func41 J Tryz.ntmps41 J ⟨J, trivial⟩ ?_
 intro w0 sc hw hsc
 simp only [enumEnv, enumPre]
 exact e_seq <|e_reg <|tt (t_box (i := 2) J J J J J J hw) J fun b _ => tt (t_alloc (i := 3) J J J Tryz.zeroValue39 J J hw) J fun b_2 _ => l_nil <|x_then <|e_seq <|e_reg <|dt (d_fa J J uT39 J zT4 J J) J <|dt (d_lb (i := 2) J J J iA4 J) J <|dt (d_notb J J) J <|dt (d_fa J J uT39 J zT37 J J) J <|dt (d_lb (i := 2) J J J iA37 J) J <|tt (t_call (n := 3) (r_made _ _ _ (-x) (Int.natAbs_neg x).symm (sg_neg (sg_dec x)) (by omega)) J J J ⟨J, J, trivial⟩ cF91 (pre_same 1 J J J pre_nil) J hw) J fun _ _ => tt (t_stw (i := 3) J J J J J (by decide) J zT39 J J ⟨(one_rfl J), (one_rd (i := 1) J rd_slp), trivial⟩ J hw trivial) J fun _ _ => l_nil <|x_then <|e_ret <|x_end (.inl J) hsc _ _ (fun a w hs => res1 hs Tryz.results41 (rv_cell (i := 3) J J iA39 zT39 J)) J trivial J (give_samee 1 J J J (by rw [Int.natAbs_neg] <;> rfl) give_nil)
theorem r_add (v w : Value) (x y : Int) (hx : bl x.natAbs ≤ 3000000000) (hy : bl y.natAbs ≤ 3000000000) : Cal Tryz.prog 42 #[.agg #[.bool (decide (x < 0)), v], .agg #[.bool (decide (y < 0)), w]] [d9p v x.natAbs, d9p w y.natAbs] true (G := Value) (fun r => True) (fun r => .agg #[.bool (decide (x + y < 0)), r]) (fun r => [d9p r (x + y).natAbs]) := by
 refine cal_in Tryz.func42 J Tryz.ntmps42 J ⟨J, J, trivial⟩ ?_
 intro w0 sc hw hsc
 simp only [enumEnv, enumPre]
 have hb := bl_iadd x y
 refine e_seq <|e_reg <|tt (t_box (i := 3) J J J J J J hw) J fun b _ => tt (t_box (i := 4) J J J J J J hw) J fun b_2 _ => tt (t_alloc (i := 5) J J J Tryz.zeroValue39 J J hw) J fun b_3 _ => l_nil <|x_then <|e_seq <|e_seq <|e_reg <|dt (d_fa J J uT39 J zT4 J J) J <|dt (d_lb (i := 3) J J J iA4 J) J <|dt (d_fa J J uT39 J zT4 J J) J <|dt (d_lb (i := 4) J J J iA4 J) J <|dt (d_eqb J J J uT4) J <|l_nil <|x_then <|e_condb J (fun h189 => ?_) (fun h189 => ?_)
 ·replace h189 := beq_dec h189
  refine e_seq <|e_dreg (fun _ => False) [(0, 0), (1, 0), (2, 0), (3, 0), (4, 0), (5, 0), (6, 1), (7, 1), (8, 3)] (by kernel_rfl) ?_ ?_
  ·kernel_rfl
  exact r0' J J J J (st0 (d_fa J J uT39 J zT4 J J)) <|r0' J J J J (st0 (d_lb (i := 3) J J J iA4 J)) <|r0' J J J J (st0 (d_fa J J uT39 J zT37 J J)) <|r0' J J J J (st0 (d_lb (i := 3) J J J iA37 J)) <|r0' J J J J (st0 (d_fa J J uT39 J zT37 J J)) <|r0' J J J J (st0 (d_lb (i := 4) J J J iA37 J)) <|r1' J J (t_call (n := 6) (r_plus _ _ _ _ (by omega) (by omega)) J J J ⟨J, J, trivial⟩ cF92 (pre_same 1 J J J (pre_same 2 J J J pre_nil)) J hw) fun v _ => r1' J J (t_call (n := 6) (r_made _ _ _ (x + y) (abs_add1 (sg_dec x) (h189 ▸ sg_dec y)).symm (sg_add1 (sg_dec x) (h189 ▸ sg_dec y)) (by rw [← abs_add1 (sg_dec x) (h189 ▸ sg_dec y)]; omega)) J J J ⟨J, J, trivial⟩ cF91 (pre_same 6 J J J pre_nil) J hw) fun _ _ => r3' J J (t_stw (i := 5) J J J J J (by decide) J zT39 J J ⟨(one_rfl J), (one_rd (i := 6) J rd_slp), trivial⟩ J hw trivial) fun _ _ => r_end <|x_then <|e_ret <|x_ret <|x_end (.inl J) hsc _ _ (fun a w hs => res1 hs Tryz.results42 (rv_cell (i := 5) J J iA39 zT39 J)) J trivial J (give_samee 6 J J J (by rw [abs_add1 (sg_dec x) (h189 ▸ sg_dec y)] <;> rfl) give_nil)
 ·have hne : decide (x < 0) ≠ decide (y < 0) := by simpa using h189
  refine e_skip <|x_then <|e_seq <|e_seq <|e_reg <|dt (d_fa J J uT39 J zT37 J J) J <|dt (d_lb (i := 3) J J J iA37 J) J <|dt (d_fa J J uT39 J zT37 J J) J <|dt (d_lb (i := 4) J J J iA37 J) J <|tt (t_call (n := 6) (r_order _ _ _ _ (by omega) (by omega)) J J J ⟨J, J, trivial⟩ cF93 (pre_same 1 J J J (pre_same 2 J J J pre_nil)) J hw) J fun _ _ => dt (d_geq J J J) J <|l_nil <|x_then <|e_cond J (fun h192 => ?_) (fun h192 => ?_)
  ·have hge : y.natAbs ≤ x.natAbs := cmpI_ge.1 h192
   refine e_seq <|e_dreg (fun _ => False) [(0, 0), (1, 0), (2, 0), (3, 0), (4, 0), (5, 0), (6, 1), (7, 1), (8, 3)] (by kernel_rfl) ?_ ?_
   ·kernel_rfl
   exact r0' J J J J (st0 (d_fa J J uT39 J zT4 J J)) <|r0' J J J J (st0 (d_lb (i := 3) J J J iA4 J)) <|r0' J J J J (st0 (d_fa J J uT39 J zT37 J J)) <|r0' J J J J (st0 (d_lb (i := 3) J J J iA37 J)) <|r0' J J J J (st0 (d_fa J J uT39 J zT37 J J)) <|r0' J J J J (st0 (d_lb (i := 4) J J J iA37 J)) <|r1' J J (t_call (n := 7) (r_minus _ _ _ _ (by omega) hge) J J J ⟨J, J, trivial⟩ cF94 (pre_same 1 J J J (pre_same 2 J J J pre_nil)) J hw) fun v_2 _ => r1' J J (t_call (n := 7) (r_made _ _ _ (x + y) (abs_add2 (sg_dec x) (sg_dec y) hne hge).symm (sg_add2 (sg_dec x) (sg_dec y) hne hge) (by have := bl_mono (Nat.sub_le x.natAbs y.natAbs); omega)) J J J ⟨J, J, trivial⟩ cF91 (pre_same 7 J J J pre_nil) J hw) fun _ _ => r3' J J (t_stw (i := 5) J J J J J (by decide) J zT39 J J ⟨(one_rfl J), (one_rd (i := 7) J rd_slp), trivial⟩ J hw trivial) fun _ _ => r_end <|x_then <|e_ret <|x_ret <|x_end (.inl J) hsc _ _ (fun a w hs => res1 hs Tryz.results42 (rv_cell (i := 5) J J iA39 zT39 J)) J trivial J (give_samee 7 J J J (by rw [abs_add2 (sg_dec x) (sg_dec y) hne hge] <;> rfl) give_nil)
  ·have hge : x.natAbs ≤ y.natAbs := by have := mt cmpI_ge.2 h192; omega
   refine e_skip <|x_then <|e_seq <|e_dreg (fun _ => False) [(0, 0), (1, 0), (2, 0), (3, 0), (4, 0), (5, 0), (6, 1), (7, 1), (8, 3)] (by kernel_rfl) ?_ ?_
   ·kernel_rfl
   exact r0' J J J J (st0 (d_fa J J uT39 J zT4 J J)) <|r0' J J J J (st0 (d_lb (i := 4) J J J iA4 J)) <|r0' J J J J (st0 (d_fa J J uT39 J zT37 J J)) <|r0' J J J J (st0 (d_lb (i := 4) J J J iA37 J)) <|r0' J J J J (st0 (d_fa J J uT39 J zT37 J J)) <|r0' J J J J (st0 (d_lb (i := 3) J J J iA37 J)) <|r1' J J (t_call (n := 8) (r_minus _ _ _ _ (by omega) hge) J J J ⟨J, J, trivial⟩ cF94 (pre_same 2 J J J (pre_same 1 J J J pre_nil)) J hw) fun v_3 _ => r1' J J (t_call (n := 8) (r_made _ _ _ (x + y) (by rw [Int.add_comm x]; exact (abs_add2 (sg_dec y) (sg_dec x) (Ne.symm hne) hge).symm) (by rw [Int.add_comm x]; exact sg_add2 (sg_dec y) (sg_dec x) (Ne.symm hne) hge) (by have := bl_mono (Nat.sub_le y.natAbs x.natAbs); omega)) J J J ⟨J, J, trivial⟩ cF91 (pre_same 8 J J J pre_nil) J hw) fun _ _ => r3' J J (t_stw (i := 5) J J J J J (by decide) J zT39 J J ⟨(one_rfl J), (one_rd (i := 8) J rd_slp), trivial⟩ J hw trivial) fun _ _ => r_end <|x_then <|e_ret <|x_end (.inl J) hsc _ _ (fun a w hs => res1 hs Tryz.results42 (rv_cell (i := 5) J J iA39 zT39 J)) J trivial J (give_samee 8 J J J (by rw [Int.add_comm x, abs_add2 (sg_dec y) (sg_dec x) (Ne.symm hne) hge] <;> rfl) give_nil)
theorem r_sub (v w : Value) (x y : Int) (hx : bl x.natAbs ≤ 3000000000) (hy : bl y.natAbs ≤ 3000000000) : Cal Tryz.prog 95 #[.agg #[.bool (decide (x < 0)), v], .agg #[.bool (decide (y < 0)), w]] [d9p v x.natAbs, d9p w y.natAbs] true (G := Value) (fun r => True) (fun r => .agg #[.bool (decide (x - y < 0)), r]) (fun r => [d9p r (x - y).natAbs]) := by
 refine cal_in Tryz.func95 J Tryz.ntmps95 J ⟨J, J, trivial⟩ ?_
 intro w0 sc hw hsc
 simp only [enumEnv, enumPre]
 have hb := bl_isub x y
 have hn := bl_neg y
 refine e_seq <|e_reg <|tt (t_box (i := 3) J J J J J J hw) J fun b _ => tt (t_box (i := 4) J J J J J J hw) J fun b_2 _ => tt (t_alloc (i := 5) J J J Tryz.zeroValue39 J J hw) J fun b_3 _ => l_nil <|x_then <|e_seq <|e_dreg (fun _ => False) [(0, 0), (1, 0), (2, 1), (3, 1), (4, 3)] (by kernel_rfl) ?_ ?_
 ·kernel_rfl
 exact r0' J J J J (st0 (d_lb2 (i := 3) J J J iA39 zT39 J J)) <|r0' J J J J (st0 (d_lb2 (i := 4) J J J iA39 zT39 J J)) <|r1' J J (t_call (n := 6) (r_neg _ _ (by omega)) J J J ⟨J, trivial⟩ cF41 (pre_same 2 J J J pre_nil) J hw) fun v _ => r1' J J (t_call (n := 7) (r_add _ _ _ _ (by omega) (by omega)) J J J ⟨J, J, trivial⟩ cF42 (pre_same 1 J J J (pre_same 6 J J J pre_nil)) J hw) fun v_2 _ => r3' J J (t_stw (i := 5) J J J J J (by decide) J zT39 J J ⟨(one_rfl J), (one_rd (i := 7) J rd_slp), trivial⟩ J hw trivial) fun _ _ => r_end <|x_then <|e_ret <|x_end (.inl J) hsc _ _ (fun a w hs => res1 hs Tryz.results95 (rv_cell (i := 5) J J iA39 zT39 J)) (by rw [Int.sub_eq_add_neg] <;> rfl) trivial J (give_samee 7 J J J (by rw [Int.sub_eq_add_neg] <;> rfl) give_nil)
theorem r_mul (v w : Value) (x y : Int) (hx : bl x.natAbs ≤ 1000000000) (hy : bl y.natAbs ≤ 1000000000) : Cal Tryz.prog 44 #[.agg #[.bool (decide (x < 0)), v], .agg #[.bool (decide (y < 0)), w]] [d9p v x.natAbs, d9p w y.natAbs] true (G := Value) (fun r => True) (fun r => .agg #[.bool (decide (x * y < 0)), r]) (fun r => [d9p r (x * y).natAbs]) := by
 refine cal_in Tryz.func44 J Tryz.ntmps44 J ⟨J, J, trivial⟩ ?_
 intro w0 sc hw hsc
 simp only [enumEnv, enumPre]
 have hb := bl_imul x y
 refine e_seq <|e_reg <|tt (t_box (i := 3) J J J J J J hw) J fun b _ => tt (t_box (i := 4) J J J J J J hw) J fun b_2 _ => tt (t_alloc (i := 5) J J J Tryz.zeroValue39 J J hw) J fun b_3 _ => l_nil <|x_then <|e_seq <|e_dreg (fun _ => False) [(0, 0), (1, 0), (2, 0), (3, 0), (4, 0), (5, 0), (6, 0), (7, 0), (8, 0), (9, 1), (10, 1), (11, 3)] (by kernel_rfl) ?_ ?_
 ·kernel_rfl
 exact r0' J J J J (st0 (d_fa J J uT39 J zT4 J J)) <|r0' J J J J (st0 (d_lb (i := 3) J J J iA4 J)) <|r0' J J J J (st0 (d_fa J J uT39 J zT4 J J)) <|r0' J J J J (st0 (d_lb (i := 4) J J J iA4 J)) <|r0' J J J J (st0 (d_neb J J J uT4)) <|r0' J J J J (st0 (d_fa J J uT39 J zT37 J J)) <|r0' J J J J (st0 (d_lb (i := 3) J J J iA37 J)) <|r0' J J J J (st0 (d_fa J J uT39 J zT37 J J)) <|r0' J J J J (st0 (d_lb (i := 4) J J J iA37 J)) <|r1' J J (t_call (n := 6) (r_times _ _ _ _ (by omega) (by omega)) J J J ⟨J, J, trivial⟩ cF96 (pre_same 1 J J J (pre_same 2 J J J pre_nil)) J hw) fun v _ => r1' J J (t_call (n := 6) (r_made _ _ _ (x * y) (Int.natAbs_mul x y).symm (sg_mul (sg_dec x) (sg_dec y)) (by rw [← Int.natAbs_mul]; omega)) J J J ⟨J, J, trivial⟩ cF91 (pre_same 6 J J J pre_nil) J hw) fun _ _ => r3' J J (t_stw (i := 5) J J J J J (by decide) J zT39 J J ⟨(one_rfl J), (one_rd (i := 6) J rd_slp), trivial⟩ J hw trivial) fun _ _ => r_end <|x_then <|e_ret <|x_end (.inl J) hsc _ _ (fun a w hs => res1 hs Tryz.results44 (rv_cell (i := 5) J J iA39 zT39 J)) J trivial J (give_samee 6 J J J (by rw [Int.natAbs_mul] <;> rfl) give_nil)
theorem r_sign (v : Value) (x : Int) (hx : bl x.natAbs ≤ 3000000000) : Cal Tryz.prog 61 #[.agg #[.bool (decide (x < 0)), v]] [d9p v x.natAbs] false (G := Unit) (fun _ => True) (fun _ => .int .i64 x.sign) (fun _ => []) := by
 refine cal_in Tryz.func61 J Tryz.ntmps61 J ⟨J, trivial⟩ ?_
 intro w0 sc hw hsc
 simp only [enumEnv, enumPre]
 have hl9 := len9_bl x.natAbs
 refine e_seq <|e_reg <|tt (t_box (i := 2) J J J J J J hw) J fun b _ => as_ J J <|l_nil <|x_then <|e_seq <|e_seq <|e_reg <|dt (d_fa J J uT39 J zT37 J J) J <|dt (d_lb (i := 2) J J J iA37 J) J <|dt (d_len J J (i := 1) J rd_slp uT37) J <|dt (d_eql J J J) J <|l_nil <|x_then <|e_cond J (fun h206 => ?_) (fun h206 => ?_)
 ·exact e_seq <|e_reg <|as_ J J <|l_nil <|x_then <|e_ret <|x_ret <|x_end (.inl J) hsc () _ (fun a w hs => res1 hs Tryz.results61 J) (sign9 h206) trivial J give_nil
 ·refine e_skip <|x_then <|e_seq <|e_seq <|e_reg <|dt (d_fa J J uT39 J zT4 J J) J <|dt (d_lb (i := 2) J J J iA4 J) J <|l_nil <|x_then <|e_condb J (fun h209 => ?_) (fun h209 => ?_)
  ·exact e_seq <|e_reg <|as_ J J <|l_nil <|x_then <|e_ret <|x_ret <|x_end (.inl J) hsc () _ (fun a w hs => res1 hs Tryz.results61 J) (by rw [Int.sign_eq_neg_one_of_neg (by simpa using h209)]) trivial J give_nil
  ·exact e_skip <|x_then <|e_seq <|e_reg <|as_ J J <|l_nil <|x_then <|e_ret <|x_end (.inl J) hsc () _ (fun a w hs => res1 hs Tryz.results61 J) (by have h3 := len9_pos h206; have h4 : ¬ x < 0 := (by simpa using h209); rw [Int.sign_eq_one_of_pos (by omega)]) trivial J give_nil
theorem r_compare (v w : Value) (x y : Int) (hx : bl x.natAbs ≤ 2000000000) (hy : bl y.natAbs ≤ 2000000000) : Cal Tryz.prog 62 #[.agg #[.bool (decide (x < 0)), v], .agg #[.bool (decide (y < 0)), w]] [d9p v x.natAbs, d9p w y.natAbs] false (G := Unit) (fun _ => True) (fun _ => .int .i64 (x - y).sign) (fun _ => []) := by
 refine cal_in Tryz.func62 J Tryz.ntmps62 J ⟨J, J, trivial⟩ ?_
 intro w0 sc hw hsc
 simp only [enumEnv, enumPre]
 have hb := bl_isub x y
 exact e_seq <|e_reg <|tt (t_box (i := 3) J J J J J J hw) J fun b _ => tt (t_box (i := 4) J J J J J J hw) J fun b_2 _ => as_ J J <|l_nil <|x_then <|e_seq <|e_reg <|dt (d_lb2 (i := 3) J J J iA39 zT39 J J) J <|dt (d_lb2 (i := 4) J J J iA39 zT39 J J) J <|tt (t_call (n := 5) (r_sub _ _ _ _ (by omega) (by omega)) J J J ⟨J, J, trivial⟩ cF95 (pre_same 1 J J J (pre_same 2 J J J pre_nil)) J hw) J fun v _ => tt (t_call (n := 5) (r_sign _ _ (by omega)) J J J ⟨J, trivial⟩ cF61 (pre_same 5 J J J pre_nil) J hw) J fun _ _ => as_ J J <|l_nil <|x_then <|e_ret <|x_end (.inl J) hsc () _ (fun a w hs => res1 hs Tryz.results62 J) J trivial J give_nil
theorem r_num (x : Int) (hx : inI x) : Cal Tryz.prog 43 #[.int .i64 x] [] true (G := Value) (fun r => True) (fun r => .agg #[.bool (decide (x < 0)), r]) (fun r => [d9p r (x).natAbs]) := by
 refine cal_in Tryz.func43 J Tryz.ntmps43 J trivial ?_
 intro w0 sc hw hsc
 simp only [enumEnv, enumPre]
 have hxa := hx.1
 have hxb := hx.2
 refine e_imp (s_nil 60 1 3 encN) <|e_imp (s_pub 60 J J pN) <|e_seq <|e_reg <|tt (t_alloc (i := 1) J J J Tryz.zeroValue39 J J hw) J fun b _ => l_nil <|x_then <|e_seq <|e_seq <|e_reg <|mv J J <|dt (d_geq J J J) J <|l_nil <|x_then <|e_cond J (fun h147 => ?_) (fun h147 => ?_)
 ·obtain ⟨m, rfl⟩ : ∃ m : Nat, x = (m : Int) := ⟨x.natAbs, by omega⟩
  have hbm : bl m ≤ 64 := (bl_le 64 m).2 (by omega)
  exact e_seq <|e_reg <|mv J J <|dt (n_rem (n := 1000000000) J J J (by omega)) J <|mv J J <|dt (n_quo (n := 1000000000) J J J (by omega) (by omega)) J <|dt (n_rem (n := 1000000000) J J J (by omega)) J <|mv J J <|dt (n_quo (n := 1000000000) J J J (by omega) (by omega)) J <|dt (n_quo (n := 1000000000) J J J (by omega) (by omega)) J <|tt (t_bsg (i := 70) (ivs := [(0, _), (1, _), (2, _)]) (enc := encN) [m % 1000000000, m / 1000000000 % 1000000000, m / 1000000000 / 1000000000] J J J ⟨J, J, J, J, J, J, trivial⟩ uT37 Tryz.ti3 J J J J J J pN.cells J J hw) J fun v _ => tt (t_call (n := 1) (r_trim_own _ _) J J J ⟨J, trivial⟩ cF60 (pre_lend 70 J J pN pre_nil) J hw) J fun _ _ => l_imp (s_tz 70 J J pN) <|l_imp (s_oeq 70 (tz_three (by omega)) J J) <|tt (t_call (n := 1) (r_made _ _ _ ((m : Int)) (by omega) (by simp [sg]) (by omega)) J J J ⟨J, J, trivial⟩ cF91 (pre_lend 70 J J pN pre_nil) J hw) J fun _ _ => tt (t_stw (i := 1) J J J J J (by decide) J zT39 J J ⟨(one_rfl J), (one_rd (i := 70) J (rd_osl pN)), trivial⟩ J hw trivial) J fun _ _ => l_nil <|x_then <|e_ret <|x_ret <|x_end (.inl J) hsc _ _ (fun a w hs => res1 hs Tryz.results43 (rv_cell (i := 1) J J iA39 zT39 J)) J trivial J (give_owne 70 J J pN (by rw [Int.natAbs_natCast] <;> rfl) give_nil)
 ·obtain ⟨m, rfl⟩ : ∃ m : Nat, x = -(m : Int) := ⟨x.natAbs, by omega⟩
  have hbm : bl m ≤ 64 := (bl_le 64 m).2 (by omega)
  refine e_skip <|x_then <|e_seq <|e_reg <|mv J J <|dt (nn_rem (n := 1000000000) J J J (by omega)) J <|dt (n_neg J J (by omega)) J <|mv J J <|dt (nn_quo (n := 1000000000) J J J (by omega) (by omega)) J <|dt (nn_rem (n := 1000000000) J J J (by omega)) J <|dt (n_neg J J (by omega)) J <|mv J J <|dt (nn_quo (n := 1000000000) J J J (by omega) (by omega)) J <|dt (nn_quo (n := 1000000000) J J J (by omega) (by omega)) J <|dt (n_neg J J (by omega)) J <|tt (t_bsg (i := 70) (ivs := [(0, _), (1, _), (2, _)]) (enc := encN) [m % 1000000000, m / 1000000000 % 1000000000, m / 1000000000 / 1000000000] J J J ⟨J, J, J, J, J, J, trivial⟩ uT37 Tryz.ti3 J J J J J J pN.cells J J hw) J fun v_2 _ => tt (t_call (n := 1) (r_trim_own _ _) J J J ⟨J, trivial⟩ cF60 (pre_lend 70 J J pN pre_nil) J hw) J fun _ _ => l_imp (s_tz 70 J J pN) <|l_imp (s_oeq 70 (tz_three (by omega)) J J) <|l_imp (s_oeq 70 (ys := dg 1000000000 (-(m : Int)).natAbs) (by rw [Int.natAbs_neg, Int.natAbs_natCast]) J J) <|l_imp (s_pub 70 J J pN) <|tt (t_call (n := 1) (r_made _ _ _ ((-(m : Int))) J (by simp [sg]) (by rw [Int.natAbs_neg, Int.natAbs_natCast]; omega)) J J J ⟨J, J, trivial⟩ cF91 (pre_same 70 J J J pre_nil) J hw) J fun _ _ => dt (d_bld (ivs := []) J trivial (fun a w hs => b39_)) J ?_
  exact tt (t_call (n := 2) (r_sub _ _ (-(m : Int)) 0 (by rw [Int.natAbs_neg, Int.natAbs_natCast]; omega) (by decide)) J J J ⟨J, J, trivial⟩ cF95 (pre_same 70 J J J (pre_same 60 J J J pre_nil)) J hw) J fun v_3 _ => tt (t_stw (i := 1) J J J J J (by decide) J zT39 J J ⟨(one_rfl J), (one_rd (i := 2) J rd_slp), trivial⟩ J hw trivial) J fun _ _ => l_nil <|x_then <|e_ret <|x_end (.inl J) hsc _ _ (fun a w hs => res1 hs Tryz.results43 (rv_cell (i := 1) J J iA39 zT39 J)) (by rw [Int.sub_zero] <;> rfl) trivial J (give_samee 2 J J J (by rw [Int.sub_zero] <;> rfl) give_nil)
theorem r_from (x : Int) (hx : bl x.natAbs ≤ 2000000000) : Cal Tryz.prog 49 #[wv x] [] true (G := Value) (fun r => True) (fun r => .agg #[.bool (decide (x < 0)), r]) (fun r => [d9p r (x).natAbs]) := by
 refine cal_in Tryz.func49 J Tryz.ntmps49 J trivial ?_
 intro w0 sc hw hsc
 simp only [enumEnv, enumPre]
 obtain ⟨n, hn⟩ : ∃ n, n = x.natAbs := ⟨_, rfl⟩
 have hl8 := len256 n
 have hxn : bl n ≤ 2000000000 := by rw [hn]; exact hx
 have hsz : (bstr x.natAbs).size = (dg 256 n).length := by rw [← hn]; exact bstr_size n
 refine e_seq <|e_reg <|tt (t_box (i := 1) J J J J J J hw) J fun b _ => tt (t_alloc (i := 2) J J J Tryz.zeroValue39 J J hw) J fun b_2 _ => l_nil <|x_then <|e_seq <|e_reg <|as_ J J <|l_nil <|x_then <|e_seq <|e_seq <|e_reg <|as_ J J <|l_nil <|x_then <|e_block <|e_imp (s_nil 70 1 3 encN) <|e_imp (s_pub 70 J J pN) <|e_lp [(1, _), (2, _)] [(0, _), (1, _), (2, _)] (fun (q : Nat × Value) => [(4, .int .i64 (q.1 : Int)), (3, q.2)]) (fun (q : Nat × Value) => [(70, d9p q.2 (n / 256 ^ ((dg 256 n).length - q.1)))]) (fun (q : Nat × Value) => (q.1 ≤ (dg 256 n).length)) (fun (q : Nat × Value) => (dg 256 n).length - q.1) (0, .slice none 0 0) (by first | omega | (dsimp only <;> omega)) ⟨J, J, J, J, trivial⟩ ⟨by rw [from_zero]; rfl, rfl, rfl, rfl, trivial⟩ ?_
 rintro ⟨i, vd⟩ hi
 dsimp only at hi
 simp only [List.cons_append, List.nil_append]
 have hnb : bl (n / 256 ^ ((dg 256 n).length - i)) ≤ bl n := bl_mono (Nat.div_le_self _ _)
 refine e_seq <|e_seq <|e_reg <|mv J J <|dt (d_fa J J uT28 J zT9 J J) J <|dt (d_lb (i := 1) J J J iA9 J) J <|dt (d_lens J J uT9) J <|dt (d_lss J J J) J <|l_nil <|x_then <|e_cond J (fun h157 => ?_) (fun h157 => ?_)
 ·have hby : ((bstr x.natAbs).data.toList.getD i 0).toNat = n / 256 ^ ((dg 256 n).length - 1 - i) % 256 := by rw [← hn]; exact bstr_get n i (by omega)
  refine e_skip <|x_then <|e_seq <|e_block <|e_drega (fun _ => False) [10] (by kernel_rfl) <|a_lin' (n := 5) [(0, 0), (2, 0), (3, 0), (4, 0), (5, 0), (6, 0)] (by kernel_rfl) <|r0' J J J J (st0 (d_mv J J)) <|r0' J J J J (st0 (d_fa J J uT28 J zT9 J J)) <|r0' J J J J (st0 (d_lb (i := 1) J J J iA9 J)) <|r0' J J J J (st0 (d_mv J J)) <|r0' J J J J (st0 (d_ixs (i := i) J J J uT9 J (by omega))) <|r0' J J J J (st0 (cv_i64 J J uT5 uT3 ⟨by omega, by rw [hby]; omega⟩)) <|r_fin <|a_br2 (n := 4) 1 7 (by kernel_rfl) ?_ ?_
  ·exact aact' J J (t_call (n := 73) (r_small _ _ 256 (by omega) (by omega)) J J J ⟨J, J, trivial⟩ cF97 (pre_same 70 J J J pre_nil) J hw) fun v _ => a_lin' (n := 2) [(7, 1), (8, 1)] (by kernel_rfl) <|r1' J J (t_bsg (i := 72) (ivs := [(0, _)]) (enc := encN) [((bstr x.natAbs).data.toList.getD i 0).toNat] J J J ⟨J, J, trivial⟩ uT37 Tryz.ti3 J J J J J J pN.cells J J hw) fun v_2 _ => r1' J J (t_call (n := 2) (r_trim_own _ _) J J J ⟨J, trivial⟩ cF60 (pre_lend 72 J J pN pre_nil) J hw) fun _ _ => r_fin <|a_imp (s_tz 72 J J pN) <|a_imp (s_oeq 72 (tz_one two_D (by rw [hby]; omega)) J J) <|a_lin' (n := 0) [(9, 1), (10, 3)] (by kernel_rfl) <|r1' J J (t_call (n := 74) (r_plus _ _ _ _ (by have := bl_small (y := (n / 256 ^ ((dg 256 n).length - i))) (n := 256) (by omega); omega) (by rw [hby]; exact Nat.le_trans (bl_mod8 _) (by omega))) J J J ⟨J, J, trivial⟩ cF92 (pre_same 73 J J J (pre_lend 72 J J pN pre_nil)) J hw) fun v_3 _ => r3' J J (t_det (d_as J J) J J) fun _ _ => r_fin <|a_done (by kernel_rfl) <|x_bn <|x_then <|e_reg <|mv J J <|dt (d_add J J J ⟨by omega, by omega⟩) J <|as_ J J <|l_nil <|x_imp (s_dup 74 70 J J J) <|x_rnd (i + 1, _) (by first | omega | (dsimp only <;> omega)) (by first | omega | (dsimp only <;> omega)) ⟨J, J, J, J, trivial⟩ ⟨by rw [hby, from_step (by omega)]; rfl, rfl, rfl, rfl, trivial⟩
  ·exact aact' J J (t_bsg (i := 72) (ivs := [(0, _)]) (enc := encN) [((bstr x.natAbs).data.toList.getD i 0).toNat] J J J ⟨J, J, trivial⟩ uT37 Tryz.ti3 J J J J J J pN.cells J J hw) fun v_4 _ => a_lin' (n := 2) [(1, 1), (8, 1)] (by kernel_rfl) <|r1' J J (t_call (n := 73) (r_small _ _ 256 (by omega) (by omega)) J J J ⟨J, J, trivial⟩ cF97 (pre_same 70 J J J pre_nil) J hw) fun v_5 _ => r1' J J (t_call (n := 2) (r_trim_own _ _) J J J ⟨J, trivial⟩ cF60 (pre_lend 72 J J pN pre_nil) J hw) fun _ _ => r_fin <|a_imp (s_tz 72 J J pN) <|a_imp (s_oeq 72 (tz_one two_D (by rw [hby]; omega)) J J) <|a_lin' (n := 0) [(9, 1), (10, 3)] (by kernel_rfl) <|r1' J J (t_call (n := 74) (r_plus _ _ _ _ (by have := bl_small (y := (n / 256 ^ ((dg 256 n).length - i))) (n := 256) (by omega); omega) (by rw [hby]; exact Nat.le_trans (bl_mod8 _) (by omega))) J J J ⟨J, J, trivial⟩ cF92 (pre_same 73 J J J (pre_lend 72 J J pN pre_nil)) J hw) fun v_6 _ => r3' J J (t_det (d_as J J) J J) fun _ _ => r_fin <|a_done (by kernel_rfl) <|x_bn <|x_then <|e_reg <|mv J J <|dt (d_add J J J ⟨by omega, by omega⟩) J <|as_ J J <|l_nil <|x_imp (s_dup 74 70 J J J) <|x_rnd (i + 1, _) (by first | omega | (dsimp only <;> omega)) (by first | omega | (dsimp only <;> omega)) ⟨J, J, J, J, trivial⟩ ⟨by rw [hby, from_step (by omega)]; rfl, rfl, rfl, rfl, trivial⟩
 ·refine e_exit <|x_exit <|x_exit <|x_be <|x_then <|e_seq ?_
  obtain rfl : i = (dg 256 n).length := by omega
  rw [Nat.sub_self, Nat.pow_zero, Nat.div_one]
  exact e_reg <|dt (d_fa J J uT28 J zT4 J J) J <|dt (d_lb (i := 1) J J J iA4 J) J <|mv J J <|tt (t_call (n := 2) (r_made _ _ _ (x) hn (sg_dec x) (by rw [hn]; omega)) J J J ⟨J, J, trivial⟩ cF91 (pre_same 70 J J J pre_nil) J hw) J fun _ _ => tt (t_stw (i := 2) J J J J J (by decide) J zT39 J J ⟨(one_rfl J), (one_rd (i := 70) J rd_slp), trivial⟩ J hw trivial) J fun _ _ => l_nil <|x_then <|e_ret <|x_end (.inl J) hsc _ _ (fun a w hs => res1 hs Tryz.results49 (rv_cell (i := 2) J J iA39 zT39 J)) J trivial J (give_samee 70 J J J (by rw [hn] <;> rfl) give_nil)
set_option maxHeartbeats 4000000 in
theorem r_to (v : Value) (x : Int) (hx : bl x.natAbs ≤ 4000000000) : Cal Tryz.prog 17 #[.agg #[.bool (decide (x < 0)), v]] [d9p v x.natAbs] false (G := Unit) (fun _ => True) (fun _ => wv x) (fun _ => []) := by
 refine cal_in Tryz.func17 J Tryz.ntmps17 J ⟨J, trivial⟩ ?_
 intro w0 sc hw hsc
 simp only [enumEnv, enumPre]
 obtain ⟨n, hn⟩ : ∃ n, n = x.natAbs := ⟨_, rfl⟩
 have hxn : bl n ≤ 4000000000 := by rw [hn]; exact hx
 have hlx := len9_bl x.natAbs
 refine e_seq <|e_reg <|tt (t_box (i := 2) J J J J J J hw) J fun b _ => tt (t_alloc (i := 3) J J J Tryz.zeroValue28 J J hw) J fun b_2 _ => l_nil <|x_then <|e_seq <|e_reg <|as_ J J <|l_nil <|x_then <|e_seq <|e_reg <|dt (d_fa J J uT39 J zT37 J J) J <|dt (d_lb (i := 2) J J J iA37 J) J <|l_imp (s_nil 81 1 3 encN) <|tt (t_appa (i := 81) (j := 1) (by_ := 8) J J J J J J (by decide) J rd_slp uT37 Tryz.ti3 J pN J J J (by simp; omega) (by decide) J hw) J fun v _ => as_ J J <|l_nil <|x_then <|e_seq <|e_block <|e_imp (s_nil 80 1 5 encB) <|e_lp [(1, _), (2, _)] [(0, _), (1, _), (2, _), (3, _)] (fun (q : Nat × List Nat × Value × Value) => [(3, q.2.2.1), (4, q.2.2.2)]) (fun (q : Nat × List Nat × Value × Value) => [(80, osl 1 5 encB q.2.2.1 q.2.1), (81, osl 1 3 encN q.2.2.2 (dg 1000000000 q.1))]) (fun (q : Nat × List Nat × Value × Value) => (val 256 q.2.1 + 256 ^ q.2.1.length * q.1 = n) ∧ (∀ d ∈ q.2.1, d < 256) ∧ (q.2.1.length = 0 ∨ 256 ^ (q.2.1.length - 1) ≤ n) ∧ (bl q.1 ≤ bl n)) (fun (q : Nat × List Nat × Value × Value) => q.1) (n, [], .slice none 0 0, _) ⟨by simp [val], by simp, .inl rfl, Nat.le_refl _⟩ ⟨J, J, J, J, trivial⟩ ⟨J, by rw [hn]; rfl, rfl, rfl, rfl, rfl, trivial⟩ ?_
 rintro ⟨m, bs, vb, vd⟩ ⟨hv, hba, hge, hmn⟩
 dsimp only at hv hba hge hmn
 simp only [List.cons_append, List.nil_append]
 have hlm := len9_bl m
 refine e_seq <|e_seq <|e_reg <|mv J J <|dt (d_len J J (i := 81) J (rd_osl pN) uT37) J <|dt (d_gtr J J J) J <|l_nil <|x_then <|e_cond J (fun h167 => ?_) (fun h167 => ?_)
 ·have hm0 : 0 < m := len9_pos (by omega)
  have hgn := to_ge hv hm0
  have hbl := to_len hgn
  refine e_skip <|x_then <|e_block <|e_seq <|e_reg <|as_ J J <|l_nil <|x_then <|e_seq <|e_seq <|e_reg <|mv J J <|dt (d_len J J (i := 81) J (rd_osl pN) uT37) J <|dt (d_sub J J J ⟨by omega, by omega⟩) J <|as_ J J <|l_nil <|x_then <|e_block <|e_lp [(1, _), (2, _), (3, _), (4, _)] [(0, _), (80, _), (1, _), (2, _), (3, _)] (fun (q : Nat × List Nat × Nat) => [(6, .int .i64 ((q.1 : Int) - 1)), (5, .int .i64 (q.2.2 : Int))]) (fun (q : Nat × List Nat × Nat) => [(81, osl 1 3 encN vd q.2.1)]) (fun (q : Nat × List Nat × Nat) => (q.1 ≤ (dg 1000000000 m).length) ∧ (q.2.1.length = (dg 1000000000 m).length) ∧ (∀ d ∈ q.2.1, d < 1000000000) ∧ (∀ j, j < q.1 → q.2.1.getD j 0 = (dg 1000000000 m).getD j 0) ∧ (q.2.2 < 256) ∧ (val 1000000000 (q.2.1.drop q.1) * 256 + q.2.2 = val 1000000000 ((dg 1000000000 m).drop q.1))) (fun (q : Nat × List Nat × Nat) => q.1) ((dg 1000000000 m).length, dg 1000000000 m, 0) ⟨Nat.le_refl _, J, dg_lt two_D m, fun j _ => J, by first | omega | (dsimp only <;> omega), by simp [List.drop_length, val]⟩ ⟨J, J, J, J, J, J, trivial⟩ ⟨J, J, J, J, J, J, trivial⟩ ?_
  rintro ⟨k, p, r⟩ ⟨hk, hpl, hpa, hpk, hr, hpv⟩
  dsimp only at hk hpl hpa hpk hr hpv
  simp only [List.cons_append, List.nil_append]
  have hda := getD_lt D_pos (dg_lt two_D m) (k - 1)
  refine e_seq <|e_seq <|e_reg <|mv J J <|dt (d_geq J J J) J <|l_nil <|x_then <|e_cond J (fun h169 => ?_) (fun h169 => ?_)
  ·refine e_skip <|x_then <|e_seq <|e_block <|e_seq <|e_reg <|mv J J <|dt (n_mul (n := 1000000000) J J J (by omega)) J <|mv J J <|mv J J <|dt (d_ixa (ii := 81) (i := (k - 1)) J J J J (rd_osl pN) uT37 zT3 (by omega) (by omega)) J <|dt (d_lde (ii := 81) 0 J J J (rd_osl pN) pN (by omega)) J <|dt (n_add J J J (by have := getD_lt D_pos hpa (k - 1); omega)) J <|as_ J J <|l_nil <|x_then <|e_seq <|e_reg <|mv J J <|mv J J <|mv J J <|dt (n_quo (n := 256) J J J (by have := getD_lt D_pos hpa (k - 1); omega) (by omega)) J <|dt (d_ixa (ii := 81) (i := (k - 1)) J J J J (rd_osl pN) uT37 zT3 (by omega) (by omega)) J <|tt (t_ste (i := 81) (enc := encN) _ J J J J J J (by decide) pN (by omega) J hw) J fun _ _ => l_nil <|x_then <|e_reg <|mv J J <|dt (n_rem (n := 256) J J J (by omega)) J <|as_ J J <|l_nil <|x_bn <|x_then <|e_reg <|mv J J <|dt (d_sub J J J ⟨by omega, by omega⟩) J <|as_ J J <|l_nil ?_
   exact x_rnd (k - 1, _, _) ⟨by first | omega | (dsimp only <;> omega), by simp [hpl], all_set hpa _ _ (to_digit hr (getD_lt D_pos hpa _)), fun j hj => by dsimp only at hj ⊢; rw [getD_set _ _ _ _ _ (by omega), if_neg (by omega)]; exact hpk j (by omega), Nat.mod_lt _ (by omega), by dsimp only; rw [hpk (k - 1) (by omega)]; exact to_step (by omega) (by omega) (by omega) hpv⟩ (by first | omega | (dsimp only <;> omega)) ⟨by rw [show (((k - 1 : Nat) : Int) - 1) = (k : Int) - 1 - 1 by omega]; rfl, rfl, rfl, rfl, rfl, rfl, trivial⟩ ⟨J, J, J, J, J, J, trivial⟩
  ·refine e_exit <|x_exit <|x_exit <|x_be <|x_then <|e_seq ?_
   obtain rfl : k = 0 := by omega
   rw [List.drop_zero, List.drop_zero, val_dg two_D] at hpv
   have hmr : m % 256 = r % 256 := by omega
   have hdm : dg 1000000000 (m / 256) = tz p := by rw [← dg_val two_D p hpa]; congr 1; omega
   exact e_reg <|mv J J <|mv J J <|dt (cv_u8 J J uT3 uT5) J <|tt (t_bsg (i := 4) (ivs := [(0, _)]) (enc := encB) [r % 256] J J J ⟨J, J, trivial⟩ uT26 Tryz.ti5 J J J J J J pB.cells J J hw) J fun v_2 _ => tt (t_appa (i := 80) (j := 4) (by_ := 1) J J J J J J (by decide) J (rd_osl pB) uT26 Tryz.ti5 J pB J J J (by simp; omega) (by decide) J hw) J fun v_3 _ => as_ J J <|l_nil <|x_then <|e_reg <|mv J J <|tt (t_call (n := 4) (r_trim_own _ _) J J J ⟨J, trivial⟩ cF60 (pre_lend 81 J J pN pre_nil) J hw) J fun _ _ => l_imp (s_tz 81 J J pN) <|as_ J J <|l_nil <|x_bn <|x_rnd (m / 256, bs ++ [m % 256], _, _) ⟨to_push hv, all_snoc hba (Nat.mod_lt _ (by omega)), .inr (by simpa using hgn), Nat.le_trans (bl_mono (Nat.div_le_self _ _)) hmn⟩ (Nat.div_lt_self hm0 (by omega)) ⟨J, J, J, J, trivial⟩ ⟨by rw [hmr] ; rfl, by rw [hdm]; rfl, rfl, rfl, rfl, rfl, trivial⟩
 ·have hm0 : m = 0 := (dg_nil_iff two_D m).1 (by omega)
  have hbs : bs = dg 256 n := tz_full (by omega) hba (by rw [hm0, Nat.mul_zero, Nat.add_zero] at hv; exact hv) hge
  have hlb : bs.length ≤ 4000000000 := by rw [hbs, len256]; omega
  refine e_exit <|x_exit <|x_exit <|x_be <|x_then <|e_seq <|e_reg <|as_ J J <|l_nil <|x_then <|e_seq <|e_seq <|e_reg <|mv J J <|dt (d_len J J (i := 80) J (rd_osl pB) uT26) J <|dt (d_sub J J J ⟨by omega, by omega⟩) J <|as_ J J <|l_nil <|x_then <|e_block <|e_imp (s_nil 82 1 5 encB) <|e_lp [(1, _), (2, _), (3, _)] [(0, _), (80, _), (81, _), (1, _), (2, _), (3, _)] (fun (q : Nat × Value) => [(8, .int .i64 ((q.1 : Int) - 1)), (7, q.2)]) (fun (q : Nat × Value) => [(82, osl 1 5 encB q.2 (bs.drop q.1).reverse)]) (fun (q : Nat × Value) => (q.1 ≤ bs.length)) (fun (q : Nat × Value) => q.1) (bs.length, .slice none 0 0) (Nat.le_refl _) ⟨J, J, J, J, J, trivial⟩ ⟨by rw [List.drop_length]; rfl, rfl, rfl, rfl, rfl, rfl, rfl, trivial⟩ ?_
  rintro ⟨k, vo⟩ hk
  dsimp only at hk
  simp only [List.cons_append, List.nil_append]
  have hdl : (bs.drop k).length = bs.length - k := List.length_drop
  refine e_seq <|e_seq <|e_reg <|mv J J <|dt (d_geq J J J) J <|l_nil <|x_then <|e_cond J (fun h178 => ?_) (fun h178 => ?_)
  ·exact e_skip <|x_then <|e_seq <|e_block <|e_reg <|mv J J <|mv J J <|mv J J <|dt (d_ixa (ii := 80) (i := (k - 1)) J J J J (rd_osl pB) uT26 zT5 (by omega) (by omega)) J <|dt (d_lde (ii := 80) 0 J J J (rd_osl pB) pB (by omega)) J <|tt (t_bsg (i := 5) (ivs := [(0, _)]) (enc := encB) [bs.getD (k - 1) 0] J J J ⟨J, J, trivial⟩ uT26 Tryz.ti5 J J J J J J pB.cells J J hw) J fun v_4 _ => tt (t_appa (i := 82) (j := 5) (by_ := 1) J J J J J J (by decide) J (rd_osl pB) uT26 Tryz.ti5 J pB J J J (by simp; omega) (by decide) J hw) J fun v_5 _ => as_ J J <|l_nil <|x_bn <|x_then <|e_reg <|mv J J <|dt (d_sub J J J ⟨by omega, by omega⟩) J <|as_ J J <|l_nil <|x_rnd (k - 1, _) (by first | omega | (dsimp only <;> omega)) (by first | omega | (dsimp only <;> omega)) ⟨by rw [show (((k - 1 : Nat) : Int) - 1) = (k : Int) - 1 - 1 by omega]; rfl, rfl, rfl, rfl, rfl, trivial⟩ ⟨by rw [← drop_rev (by omega) hk]; rfl, rfl, rfl, rfl, rfl, rfl, rfl, trivial⟩
  ·refine e_exit <|x_exit <|x_exit <|x_be <|x_then <|e_seq <|e_reg <|dt (d_fa J J uT39 J zT4 J J) J <|dt (d_lb (i := 2) J J J iA4 J) J <|mv J J <|dt (d_b2s J J (i := 82) J (rd_osl pB) uT26 uT9 uT5) J <|dt (d_bld (ivs := [(0, _), (1, _)]) J ⟨J, J, J, J, trivial⟩ (fun a w hs => b28_01 ((one_rfl J) a w hs) ((one_rfl J) a w hs))) J <|tt (t_stw (i := 3) J J J J J (by decide) J zT28 J J ⟨(one_rfl J), (one_rfl J), trivial⟩ J hw trivial) J fun _ _ => l_nil <|x_then <|e_ret ?_
   obtain rfl : k = 0 := by omega
   exact x_end (.inl J) hsc () _ (fun a w hs => res1 hs Tryz.results17 (rv_cell (i := 3) J J iA28 zT28 J)) (by rw [bstr_bs hbs, hn] <;> rfl) trivial J give_nil
theorem r_gcd (v w : Value) (x y : Int) (hx : bl x.natAbs ≤ 3000000000) (hy : bl y.natAbs ≤ 3000000000) : Cal Tryz.prog 134 #[.agg #[.bool (decide (x < 0)), v], .agg #[.bool (decide (y < 0)), w]] [d9p v x.natAbs, d9p w y.natAbs] true (G := Value) (fun r => True) (fun r => .agg #[.bool (decide ((Int.gcd x y : Int) < 0)), r]) (fun r => [d9p r ((Int.gcd x y : Int)).natAbs]) := by
 refine cal_in Tryz.func134 J Tryz.ntmps134 J ⟨J, J, trivial⟩ ?_
 intro w0 sc hw hsc
 simp only [enumEnv, enumPre]
 refine e_seq <|e_reg <|tt (t_box (i := 3) J J J J J J hw) J fun b _ => tt (t_box (i := 4) J J J J J J hw) J fun b_2 _ => tt (t_alloc (i := 5) J J J Tryz.zeroValue39 J J hw) J fun b_3 _ => l_nil <|x_then <|e_seq <|e_dreg (fun _ => False) [(0, 0), (1, 0), (2, 0), (3, 0), (4, 0), (5, 3)] (by kernel_rfl) ?_ ?_
 ·kernel_rfl
 refine r0' J J J J (st0 (d_fa J J uT39 J zT37 J J)) <|r0' J J J J (st0 (d_lb (i := 3) J J J iA37 J)) <|r0' J J J J (st0 (d_fa J J uT39 J zT37 J J)) <|r0' J J J J (st0 (d_lb (i := 4) J J J iA37 J)) <|r0' J J J J (st0 (d_as J J)) <|r3' J J (t_det (d_as J J) J J) fun _ _ => r_end <|x_then <|e_seq <|e_block <|e_imp (s_dup 1 91 J J J) <|e_imp (s_dup 2 92 J J J) <|e_lp [(4, _)] [(0, _), (1, _), (2, _), (3, _), (4, _), (5, _)] (fun (q : Value × Value × Nat × Nat) => [(5, q.1), (6, q.2.1)]) (fun (q : Value × Value × Nat × Nat) => [(91, d9p q.1 q.2.2.1), (92, d9p q.2.1 q.2.2.2)]) (fun (q : Value × Value × Nat × Nat) => (Nat.gcd q.2.2.1 q.2.2.2 = Nat.gcd x.natAbs y.natAbs) ∧ (bl q.2.2.1 ≤ 3000000000) ∧ (bl q.2.2.2 ≤ 3000000000)) (fun (q : Value × Value × Nat × Nat) => q.2.2.2) (v, w, x.natAbs, y.natAbs) ⟨J, hx, hy⟩ ⟨J, J, J, trivial⟩ ⟨J, J, J, J, J, J, J, J, trivial⟩ ?_
 rintro ⟨va, vb, a, b⟩ ⟨hg, ha, hb⟩
 dsimp only at hg ha hb
 simp only [List.cons_append, List.nil_append]
 refine e_seq <|e_seq <|e_reg <|mv J J <|dt (d_len J J (i := 92) J rd_slp uT37) J <|dt (d_gtr J J J) J <|l_nil <|x_then <|e_cond J (fun h238 => ?_) (fun h238 => ?_)
 ·have hb0 : 0 < b := len9_pos (by omega)
  refine e_skip <|x_then <|e_block <|e_seq <|e_reg <|mv J J <|mv J J <|tt (t_call (n := 6) (r_over _ _ _ _ (by omega) (by omega) hb0) J J J ⟨J, J, trivial⟩ cF112 (pre_same 91 J J J (pre_same 92 J J J pre_nil)) J hw) J fun g _ => mv J J <|dt (d_ex J J J) J <|dt (d_ex J J J) J <|as_ J J <|as_ J J <|l_nil <|x_then <|e_reg <|mv J J <|mv J J <|as_ J J <|as_ J J <|l_nil <|x_bn ?_
  have hlt : a % b < b := Nat.mod_lt _ hb0
  exact x_imp (s_dup 92 91 J J J) <|x_imp (s_dup 7 92 J J J) <|x_rnd (_, _, b, a % b) ⟨by dsimp only; rw [← hg, Nat.gcd_comm b, ← Nat.gcd_rec, Nat.gcd_comm], hb, Nat.le_trans (bl_mono (Nat.le_of_lt hlt)) hb⟩ hlt ⟨J, J, J, trivial⟩ ⟨J, J, J, J, J, J, J, J, trivial⟩
 ·have hb0 : b = 0 := (dg_nil_iff two_D b).1 (by omega)
  have ha0 : a = Nat.gcd x.natAbs y.natAbs := by rw [← hg, hb0, Nat.gcd_zero_right]
  exact e_exit <|x_exit <|x_exit <|x_be <|x_then <|e_seq <|e_reg <|mv J J <|tt (t_call (n := 7) (r_made _ _ _ ((Int.gcd x y : Int)) (by rw [ha0] <;> rfl) (by simp [sg]) (by omega)) J J J ⟨J, J, trivial⟩ cF91 (pre_same 91 J J J pre_nil) J hw) J fun _ _ => tt (t_stw (i := 5) J J J J J (by decide) J zT39 J J ⟨(one_rfl J), (one_rd (i := 91) J rd_slp), trivial⟩ J hw trivial) J fun _ _ => l_nil <|x_then <|e_ret <|x_end (.inl J) hsc _ _ (fun a w hs => res1 hs Tryz.results134 (rv_cell (i := 5) J J iA39 zT39 J)) J trivial J (give_samee 91 J J J (by rw [ha0] <;> rfl) give_nil)
set_option maxHeartbeats 4000000 in
theorem r_quo (v w : Value) (x y : Int) (hx : bl x.natAbs ≤ 500000000) (hy : bl y.natAbs ≤ 500000000) (hy0 : y ≠ 0) : Cal Tryz.prog 63 #[.agg #[.bool (decide (x < 0)), v], .agg #[.bool (decide (y < 0)), w]] [d9p v x.natAbs, d9p w y.natAbs] true (G := Value × Value) (fun r => True) (fun r => .tuple #[.agg #[.bool (decide (x / y < 0)), r.1], .agg #[.bool (decide (x % y < 0)), r.2]]) (fun r => [d9p r.1 (x / y).natAbs, d9p r.2 (x % y).natAbs]) := by
 refine cal_in Tryz.func63 J Tryz.ntmps63 J ⟨J, J, trivial⟩ ?_
 intro w0 sc hw hsc
 simp only [enumEnv, enumPre]
 have hyp : 0 < y.natAbs := by omega
 have hb1 := bl_tdiv x y
 have hb2 := bl_tdivmul x y
 have hb3 := bl_isub x (x.tdiv y * y)
 have hsf := sub_fix (x := x) hy0
 have hb4 := bl_isub (x.tdiv y) 1
 have hb5 := bl_iadd (x.tdiv y) 1
 have hb6 : bl (1 : Int).natAbs ≤ 1 := by decide
 have hb7 := bl_imul (x.tdiv y - 1) y
 have hb8 := bl_imul (x.tdiv y + 1) y
 refine e_seq <|e_reg <|tt (t_box (i := 3) J J J J J J hw) J fun b _ => tt (t_box (i := 4) J J J J J J hw) J fun b_2 _ => tt (t_alloc (i := 5) J J J Tryz.zeroValue39 J J hw) J fun b_3 _ => tt (t_alloc (i := 6) J J J Tryz.zeroValue39 J J hw) J fun b_4 _ => l_nil <|x_then <|e_seq <|e_reg <|dt (d_fa J J uT39 J zT37 J J) J <|dt (d_lb (i := 3) J J J iA37 J) J <|dt (d_fa J J uT39 J zT37 J J) J <|dt (d_lb (i := 4) J J J iA37 J) J <|tt (t_call (n := 70) (r_over _ _ _ _ (by omega) (by omega) hyp) J J J ⟨J, J, trivial⟩ cF112 (pre_same 1 J J J (pre_same 2 J J J pre_nil)) J hw) J fun g _ => mv J J <|dt (d_ex J J J) J <|dt (d_ex J J J) J <|as_ J J <|as_ J J <|l_nil <|x_then <|e_seq <|e_reg <|dt (d_fa J J uT39 J zT4 J J) J <|dt (d_lb (i := 3) J J J iA4 J) J <|dt (d_fa J J uT39 J zT4 J J) J <|dt (d_lb (i := 4) J J J iA4 J) J <|dt (d_neb J J J uT4) J <|mv J J <|tt (t_call (n := 6) (r_made _ _ _ (x.tdiv y) (tdiv_abs x y) (sg_tdiv x y) (by rw [tdiv_abs]; omega)) J J J ⟨J, J, trivial⟩ cF91 (pre_same 70 J J J pre_nil) J hw) J fun _ _ => l_imp (s_eqp 70 (congrArg (d9p _) (tdiv_abs x y)) J J) <|tt (t_alloc (i := 97) J J J Tryz.zeroValue39 J J hw) J fun b_5 _ => tt (t_stw (i := 97) J J J J J (by decide) J zT39 J J ⟨(one_rfl J), (one_rd (i := 70) J rd_slp), trivial⟩ J hw trivial) J fun _ _ => l_nil <|x_then ?_
 refine e_jn [(2, _), (3, _), (4, _), (5, _), (7, _), (8, _)] [(0, _), (1, _), (2, _), (3, _), (4, _), (5, _), (6, _), (70, _), (71, _), (97, _)] (fun (q : Value × Nat) => [(9, .pointer (some ⟨q.2, 0, none⟩))]) (fun (q : Value × Nat) => [(72, d9p q.1 (x - x.tdiv y * y).natAbs), (98, box q.2 39 #[.bool (decide ((x - x.tdiv y * y) < 0)), q.1])]) (fun (q : Value × Nat) => True) ⟨J, J, J, J, J, J, trivial⟩ ⟨J, J, J, J, J, J, J, J, J, J, trivial⟩ ?_ ?_
 ·refine e_drega (fun _ => False) [6] (by kernel_rfl) <|a_lin' (n := 4) [(0, 0), (1, 0), (2, 0)] (by kernel_rfl) <|r0' J J J J (st0 (d_lb2 (i := 3) J J J iA39 zT39 J J)) <|r0' J J J J (st0 (d_lb2 (i := 97) J J J iA39 zT39 J J)) <|r0' J J J J (st0 (d_lb2 (i := 4) J J J iA39 zT39 J J)) <|r_fin <|a_br2 (n := 3) 3 5 (by kernel_rfl) ?_ ?_
  ·refine aact' J J (t_call (n := 73) (r_mul _ _ _ _ (by omega) (by omega)) J J J ⟨J, J, trivial⟩ cF44 (pre_same 70 J J J (pre_same 2 J J J pre_nil)) J hw) fun v _ => a_br2 (n := 2) 4 5 (by kernel_rfl) ?_ ?_
   ·exact aact' J J (t_call (n := 72) (r_sub _ _ _ _ (by omega) (by omega)) J J J ⟨J, J, trivial⟩ cF95 (pre_same 1 J J J (pre_same 73 J J J pre_nil)) J hw) fun v_2 _ => a_lin' (n := 0) [(5, 1), (6, 3)] (by kernel_rfl) <|r1' J J (t_alloc (i := 98) J J J Tryz.zeroValue39 J J hw) fun b_6 _ => r3' J J (t_stw (i := 98) J J J J J (by decide) J zT39 J J ⟨(one_rfl J), (one_rd (i := 72) J rd_slp), trivial⟩ J hw trivial) fun _ _ => r_fin <|a_done (by kernel_rfl) <|x_jn (_, _) trivial ⟨J, J, J, J, J, J, J, trivial⟩ ⟨J, J, J, J, J, J, J, J, J, J, J, J, trivial⟩
   ·exact aact' J J (t_alloc (i := 98) J J J Tryz.zeroValue39 J J hw) fun b_7 _ => a_lin' (n := 0) [(4, 1), (6, 3)] (by kernel_rfl) <|r1' J J (t_call (n := 72) (r_sub _ _ _ _ (by omega) (by omega)) J J J ⟨J, J, trivial⟩ cF95 (pre_same 1 J J J (pre_same 73 J J J pre_nil)) J hw) fun v_3 _ => r3' J J (t_stw (i := 98) J J J J J (by decide) J zT39 J J ⟨(one_rfl J), (one_rd (i := 72) J rd_slp), trivial⟩ J hw trivial) fun _ _ => r_fin <|a_done (by kernel_rfl) <|x_jn (_, _) trivial ⟨J, J, J, J, J, J, J, trivial⟩ ⟨J, J, J, J, J, J, J, J, J, J, J, J, trivial⟩
  ·exact aact' J J (t_alloc (i := 98) J J J Tryz.zeroValue39 J J hw) fun b_8 _ => a_lin' (n := 0) [(3, 1), (4, 1), (6, 3)] (by kernel_rfl) <|r1' J J (t_call (n := 73) (r_mul _ _ _ _ (by omega) (by omega)) J J J ⟨J, J, trivial⟩ cF44 (pre_same 70 J J J (pre_same 2 J J J pre_nil)) J hw) fun v_4 _ => r1' J J (t_call (n := 72) (r_sub _ _ _ _ (by omega) (by omega)) J J J ⟨J, J, trivial⟩ cF95 (pre_same 1 J J J (pre_same 73 J J J pre_nil)) J hw) fun v_5 _ => r3' J J (t_stw (i := 98) J J J J J (by decide) J zT39 J J ⟨(one_rfl J), (one_rd (i := 72) J rd_slp), trivial⟩ J hw trivial) fun _ _ => r_fin <|a_done (by kernel_rfl) <|x_jn (_, _) trivial ⟨J, J, J, J, J, J, J, trivial⟩ ⟨J, J, J, J, J, J, J, J, J, J, J, J, trivial⟩
 ·rintro ⟨vr, b9⟩ -
  simp only [List.cons_append, List.nil_append]
  refine e_jn [(4, _), (5, _), (7, _), (8, _), (9, _)] [(0, _), (72, _), (1, _), (2, _), (3, _), (4, _), (5, _), (6, _), (70, _), (71, _)] (fun (q : Value × Value) => []) (fun (q : Value × Value) => [(75, d9p q.1 (x / y).natAbs), (76, d9p q.2 (x % y).natAbs), (97, box b_5 39 #[.bool (decide (x / y < 0)), q.1]), (98, box b9 39 #[.bool (decide (x % y < 0)), q.2])]) (fun (q : Value × Value) => True) ⟨J, J, J, J, J, trivial⟩ ⟨J, J, J, J, J, J, J, J, J, J, trivial⟩ ?_ ?_
  ·refine e_seq <|e_reg <|dt (d_lb2 (i := 98) J J J iA39 zT39 J J) J <|tt (t_call (n := 6) (r_sign _ _ (by omega)) J J J ⟨J, trivial⟩ cF61 (pre_same 72 J J J pre_nil) J hw) J fun _ _ => dt (d_lss J J J) J <|l_nil <|x_then <|e_cond J (fun h223 => ?_) (fun h223 => ?_)
   ·have hrn : x.tmod y < 0 := by rw [← hsf]; exact (sign_neg_iff _).1 h223
    refine e_seq <|e_seq <|e_reg <|dt (d_lb2 (i := 4) J J J iA39 zT39 J J) J <|tt (t_call (n := 6) (r_sign _ _ (by omega)) J J J ⟨J, trivial⟩ cF61 (pre_same 2 J J J pre_nil) J hw) J fun _ _ => dt (d_gtr J J J) J <|l_nil <|x_then <|e_cond J (fun h224 => ?_) (fun h224 => ?_)
    ·have hyp0 : 0 < y := by have h2 := decide_eq_decide.1 (sign_pos_iff y); omega
     obtain ⟨hq, hr⟩ := quo_pos hyp0 hrn
     refine e_dreg (fun _ => False) [(0, 0), (1, 1), (2, 3), (3, 3)] (by kernel_rfl) ?_ ?_
     ·kernel_rfl
     refine r0' J J J J (st0 (d_lb2 (i := 97) J J J iA39 zT39 J J)) <|r1' J J (t_call (n := 7) (r_num 1 ⟨by omega, by omega⟩) J J J ⟨J, trivial⟩ cF43 pre_nil J hw) fun v_6 _ => r3' J J (t_call (n := 8) (r_sub _ _ _ _ (by omega) (by omega)) J J J ⟨J, J, trivial⟩ cF95 (pre_same 70 J J J (pre_same 7 J J J pre_nil)) J hw) fun v_7 _ => r3' J J (t_stw (i := 97) J J J J J (by decide) J zT39 J J ⟨(one_rfl J), (one_rd (i := 8) J rd_slp), trivial⟩ J hw trivial) fun _ _ => r_end <|x_then <|e_dreg (fun _ => False) [(0, 0), (1, 0), (2, 0), (3, 1), (4, 1), (5, 3)] (by kernel_rfl) ?_ ?_
     ·kernel_rfl
     exact r0' J J J J (st0 (d_lb2 (i := 3) J J J iA39 zT39 J J)) <|r0' J J J J (st0 (d_lb2 (i := 97) J J J iA39 zT39 J J)) <|r0' J J J J (st0 (d_lb2 (i := 4) J J J iA39 zT39 J J)) <|r1' J J (t_call (n := 9) (r_mul _ _ _ _ (by omega) (by omega)) J J J ⟨J, J, trivial⟩ cF44 (pre_same 8 J J J (pre_same 2 J J J pre_nil)) J hw) fun v_8 _ => r1' J J (t_call (n := 10) (r_sub _ _ _ _ (by omega) (by omega)) J J J ⟨J, J, trivial⟩ cF95 (pre_same 1 J J J (pre_same 9 J J J pre_nil)) J hw) fun v_9 _ => r3' J J (t_stw (i := 98) J J J J J (by decide) J zT39 J J ⟨(one_rfl J), (one_rd (i := 10) J rd_slp), trivial⟩ J hw trivial) fun _ _ => r_end <|x_imp (s_dup 8 75 J J J) <|x_imp (s_dup 10 76 J J J) <|x_jn (v_7, v_9) trivial ⟨J, J, J, J, J, trivial⟩ ⟨by rw [hq]; rfl, by rw [hr]; rfl, by rw [hq]; rfl, by rw [hr]; rfl, rfl, rfl, rfl, rfl, rfl, rfl, rfl, rfl, rfl, rfl, trivial⟩
    ·have hyn0 : y < 0 := by have h2 := decide_eq_decide.1 (sign_pos_iff y); omega
     obtain ⟨hq, hr⟩ := quo_neg hyn0 hrn
     refine e_dreg (fun _ => False) [(0, 0), (1, 1), (2, 3), (3, 3)] (by kernel_rfl) ?_ ?_
     ·kernel_rfl
     refine r0' J J J J (st0 (d_lb2 (i := 97) J J J iA39 zT39 J J)) <|r1' J J (t_call (n := 11) (r_num 1 ⟨by omega, by omega⟩) J J J ⟨J, trivial⟩ cF43 pre_nil J hw) fun v_10 _ => r3' J J (t_call (n := 12) (r_add _ _ _ _ (by omega) (by omega)) J J J ⟨J, J, trivial⟩ cF42 (pre_same 70 J J J (pre_same 11 J J J pre_nil)) J hw) fun v_11 _ => r3' J J (t_stw (i := 97) J J J J J (by decide) J zT39 J J ⟨(one_rfl J), (one_rd (i := 12) J rd_slp), trivial⟩ J hw trivial) fun _ _ => r_end <|x_then <|e_dreg (fun _ => False) [(0, 0), (1, 0), (2, 0), (3, 1), (4, 1), (5, 3)] (by kernel_rfl) ?_ ?_
     ·kernel_rfl
     exact r0' J J J J (st0 (d_lb2 (i := 3) J J J iA39 zT39 J J)) <|r0' J J J J (st0 (d_lb2 (i := 97) J J J iA39 zT39 J J)) <|r0' J J J J (st0 (d_lb2 (i := 4) J J J iA39 zT39 J J)) <|r1' J J (t_call (n := 13) (r_mul _ _ _ _ (by omega) (by omega)) J J J ⟨J, J, trivial⟩ cF44 (pre_same 12 J J J (pre_same 2 J J J pre_nil)) J hw) fun v_12 _ => r1' J J (t_call (n := 14) (r_sub _ _ _ _ (by omega) (by omega)) J J J ⟨J, J, trivial⟩ cF95 (pre_same 1 J J J (pre_same 13 J J J pre_nil)) J hw) fun v_13 _ => r3' J J (t_stw (i := 98) J J J J J (by decide) J zT39 J J ⟨(one_rfl J), (one_rd (i := 14) J rd_slp), trivial⟩ J hw trivial) fun _ _ => r_end <|x_imp (s_dup 12 75 J J J) <|x_imp (s_dup 14 76 J J J) <|x_jn (v_11, v_13) trivial ⟨J, J, J, J, J, trivial⟩ ⟨by rw [hq]; rfl, by rw [hr]; rfl, by rw [hq]; rfl, by rw [hr]; rfl, rfl, rfl, rfl, rfl, rfl, rfl, rfl, rfl, rfl, rfl, trivial⟩
   ·have hrn : ¬ x.tmod y < 0 := by rw [← hsf]; exact fun h => h223 ((sign_neg_iff _).2 h)
    obtain ⟨hq, hr⟩ := quo_zero hy0 hrn
    rw [← hsf] at hr
    exact e_skip <|x_imp (s_dup 70 75 J J J) <|x_imp (s_dup 72 76 J J J) <|x_jn (g.1, vr) trivial ⟨J, J, J, J, J, trivial⟩ ⟨by rw [hq]; rfl, by rw [hr]; rfl, by rw [hq]; rfl, by rw [hr]; rfl, rfl, rfl, rfl, rfl, rfl, rfl, rfl, rfl, rfl, rfl, trivial⟩
  ·rintro ⟨v8, v9⟩ -
   simp only [List.cons_append, List.nil_append]
   exact e_seq <|e_reg <|mv J J <|l_nil <|x_then <|e_seq <|e_dregf [97, 98] [3] (by kernel_rfl) <|a_lin' (n := 0) [(0, 0), (1, 0), (2, 1), (3, 3)] (by kernel_rfl) <|r0' J J J J (stf (d_lb2 (i := 97) J J J iA39 zT39 J J) ⟨J, J, trivial⟩) <|r0' J J J J (stf (d_lb2 (i := 98) J J J iA39 zT39 J J) ⟨J, J, trivial⟩) <|r1' J J (t_off 5 J J ⟨J, J, trivial⟩ (fun hoffb => (t_stw (i := 5) J J J J J (by decide) J zT39 J J ⟨(one_rfl J), (one_rd (i := 75) J rd_slp), trivial⟩ J hw hoffb))) fun _ _ => r3' J J (t_stw (i := 6) J J J J J (by decide) J zT39 J J ⟨(one_rfl J), (one_rd (i := 76) J rd_slp), trivial⟩ J hw trivial) fun _ _ => r_fin <|a_done (by kernel_rfl) <|x_then <|e_ret <|x_end (.inl J) hsc (_, _) _ (fun a w hs => res2 hs Tryz.results63 (rv_cell (i := 5) J J iA39 zT39 J) (rv_cell (i := 6) J J iA39 zT39 J)) J trivial J (give_same 75 J J J (give_same 76 J J J give_nil))
theorem r_validratio (b : Bool) (s : ByteArray) (c : Bool) (t : ByteArray) : Cal Tryz.prog 45 #[.agg #[.bool b, .string s, .bool c, .string t]] [] false (G := Unit) (fun _ => True) (fun _ => .bool (okR b s c t)) (fun _ => []) := by
 refine cal_in Tryz.func45 J Tryz.ntmps45 J trivial ?_
 intro w0 sc hw hsc
 simp only [enumEnv, enumPre]
 refine e_seq <|e_reg <|tt (t_box (i := 1) J J J J J J hw) J fun b _ => as_ J J <|l_nil <|x_then <|e_seq <|e_reg <|dt (d_fa J J uT49 J zT28 J J) J <|dt (d_lb2 (i := 1) J J J iA28 zT28 J J) J <|tt (t_call (n := 1) (r_valid _ _) J J J ⟨J, trivial⟩ cF48 pre_nil J hw) J fun _ _ => mv J J <|l_splitb (d := 6) J (fun s332 => ?_) (fun s332 => ?_)
 ·refine gdt (d_fa J J uT49 J zT28 J J) J J J J <|gdt (d_lb2 (i := 1) J J J iA28 zT28 J J) J J J J <|gtt (t_call (n := 1) (r_valid _ _) J J J ⟨J, trivial⟩ cF48 pre_nil J hw) J J J J fun _ _ => dt (d_pickt J J J) J <|mv J J <|l_splitb (d := 11) J (fun s332_2 => ?_) (fun s332_2 => ?_)
  ·refine gdt (d_fa J J uT49 J zT28 J J) J J J J <|gdt (d_fa J J uT28 J zT4 J J) J J J J <|gdt (d_lb (i := 1) J J J iA4 J) J J J J <|gdt (d_notb J J) J J J J <|dt (d_pickt J J J) J <|mv J J <|l_splitb (d := 17) J (fun s332_3 => ?_) (fun s332_3 => ?_)
   ·exact gdt (d_fa J J uT49 J zT28 J J) J J J J <|gdt (d_fa J J uT28 J zT9 J J) J J J J <|gdt (d_lb (i := 1) J J J iA9 J) J J J J <|gdt (d_lens J J uT9) J J J J <|gdt (d_gtr J J J) J J J J <|dt (d_pickt J J J) J <|as_ J J <|l_nil <|x_then <|e_ret <|x_end (.inl J) hsc () _ (fun a w hs => res1 hs Tryz.results45 J) (by unfold okR; simp_all) trivial J give_nil
   ·exact gsk J J J J J <|gsk J J J J J <|gsk J J J J J <|gsk J J J J J <|gsk J J J J J <|dt (d_pickf J J J) J <|as_ J J <|l_nil <|x_then <|e_ret <|x_end (.inl J) hsc () _ (fun a w hs => res1 hs Tryz.results45 J) (by unfold okR; simp_all) trivial J give_nil
  ·exact gsk J J J J J <|gsk J J J J J <|gsk J J J J J <|gsk J J J J J <|dt (d_pickf J J J) J <|mv J J <|gsk J J J J J <|gsk J J J J J <|gsk J J J J J <|gsk J J J J J <|gsk J J J J J <|dt (d_pickf J J J) J <|as_ J J <|l_nil <|x_then <|e_ret <|x_end (.inl J) hsc () _ (fun a w hs => res1 hs Tryz.results45 J) (by unfold okR; simp_all) trivial J give_nil
 ·exact gsk J J J J J <|gsk J J J J J <|gsk J J J J J <|dt (d_pickf J J J) J <|mv J J <|gsk J J J J J <|gsk J J J J J <|gsk J J J J J <|gsk J J J J J <|dt (d_pickf J J J) J <|mv J J <|gsk J J J J J <|gsk J J J J J <|gsk J J J J J <|gsk J J J J J <|gsk J J J J J <|dt (d_pickf J J J) J <|as_ J J <|l_nil <|x_then <|e_ret <|x_end (.inl J) hsc () _ (fun a w hs => res1 hs Tryz.results45 J) (by unfold okR; simp_all) trivial J give_nil
theorem r_fromratio (x y : Int) (hx : bl x.natAbs ≤ 2000000000) (hy : bl y.natAbs ≤ 2000000000) : Cal Tryz.prog 32 #[.agg #[.bool (decide (x < 0)), .string (bstr x.natAbs), .bool (decide (y < 0)), .string (bstr y.natAbs)]] [] true (G := Value × Value) (fun r => True) (fun r => .agg #[.bool (decide (x < 0)), r.1, .bool (decide (y < 0)), r.2]) (fun r => [d9p r.1 (x).natAbs, d9p r.2 (y).natAbs]) := by
 refine cal_in Tryz.func32 J Tryz.ntmps32 J trivial ?_
 intro w0 sc hw hsc
 simp only [enumEnv, enumPre]
 refine e_seq <|e_reg <|tt (t_box (i := 1) J J J J J J hw) J fun b _ => tt (t_alloc (i := 2) J J J Tryz.zeroValue63 J J hw) J fun b_2 _ => l_nil <|x_then <|e_seq <|e_dreg (fun _ => False) [(0, 0), (1, 0), (3, 0), (4, 0), (2, 1), (5, 1), (6, 0), (7, 3)] (by kernel_rfl) ?_ ?_
 ·kernel_rfl
 exact r0' J J J J (st0 (d_fa J J uT49 J zT28 J J)) <|r0' J J J J (st0 (d_lb2 (i := 1) J J J iA28 zT28 J J)) <|r0' J J J J (st0 (d_fa J J uT49 J zT28 J J)) <|r0' J J J J (st0 (d_lb2 (i := 1) J J J iA28 zT28 J J)) <|r1' J J (t_call (n := 3) (r_from _ (by omega)) J J J ⟨J, trivial⟩ cF49 pre_nil J hw) fun v _ => r1' J J (t_call (n := 4) (r_from _ (by omega)) J J J ⟨J, trivial⟩ cF49 pre_nil J hw) fun v_2 _ => r0' J J J J (st0 (d_bld (ivs := [(0, _), (1, _)]) J ⟨J, J, J, J, trivial⟩ (fun a w hs => b63_01))) <|r3' J J (t_stw (i := 2) J J J J J (by decide) J zT63 J J ⟨(one_rfl J), (one_rd (i := 3) J rd_slp), (one_rfl J), (one_rd (i := 4) J rd_slp), trivial⟩ J hw trivial) fun _ _ => r_end <|x_then <|e_ret <|x_end (.inl J) hsc (_, _) _ (fun a w hs => res1 hs Tryz.results32 (rv_cell (i := 2) J J iA63 zT63 J)) J trivial J (give_same 3 J J J (give_same 4 J J J give_nil))
theorem r_compareq (v w v2 w2 : Value) (x y x2 y2 : Int) (h0 : bl x.natAbs ≤ 100000000) (h1 : bl y.natAbs ≤ 100000000) (h2 : bl x2.natAbs ≤ 100000000) (h3 : bl y2.natAbs ≤ 100000000) : Cal Tryz.prog 46 #[.agg #[.bool (decide (x < 0)), v, .bool (decide (y < 0)), w], .agg #[.bool (decide (x2 < 0)), v2, .bool (decide (y2 < 0)), w2]] [d9p v x.natAbs, d9p w y.natAbs, d9p v2 x2.natAbs, d9p w2 y2.natAbs] false (G := Unit) (fun _ => True) (fun _ => .int .i64 (x * y2 - x2 * y).sign) (fun _ => []) := by
 refine cal_in Tryz.func46 J Tryz.ntmps46 J ⟨J, J, J, J, trivial⟩ ?_
 intro w0 sc hw hsc
 simp only [enumEnv, enumPre]
 have b1 := bl_imul x y2
 have b2 := bl_imul x2 y
 have b3 := bl_imul y y2
 have b4 := bl_imul x x2
 have b5 := bl_iadd (x * y2) (x2 * y)
 refine e_seq <|e_reg <|tt (t_box (i := 5) J J J J J J hw) J fun b _ => tt (t_box (i := 6) J J J J J J hw) J fun b_2 _ => as_ J J <|l_nil <|x_then <|e_seq <|e_dreg (fun _ => False) [(0, 0), (1, 0), (2, 0), (3, 0), (5, 0), (6, 0), (7, 0), (8, 0), (4, 1), (9, 1), (10, 1), (11, 3)] (by kernel_rfl) ?_ ?_
 ·kernel_rfl
 exact r0' J J J J (st0 (d_fa J J uT63 J zT39 J J)) <|r0' J J J J (st0 (d_lb2 (i := 5) J J J iA39 zT39 J J)) <|r0' J J J J (st0 (d_fa J J uT63 J zT39 J J)) <|r0' J J J J (st0 (d_lb2 (i := 6) J J J iA39 zT39 J J)) <|r0' J J J J (st0 (d_fa J J uT63 J zT39 J J)) <|r0' J J J J (st0 (d_lb2 (i := 6) J J J iA39 zT39 J J)) <|r0' J J J J (st0 (d_fa J J uT63 J zT39 J J)) <|r0' J J J J (st0 (d_lb2 (i := 5) J J J iA39 zT39 J J)) <|r1' J J (t_call (n := 7) (r_mul _ _ _ _ (by omega) (by omega)) J J J ⟨J, J, trivial⟩ cF44 (pre_same 1 J J J (pre_same 4 J J J pre_nil)) J hw) fun v _ => r1' J J (t_call (n := 8) (r_mul _ _ _ _ (by omega) (by omega)) J J J ⟨J, J, trivial⟩ cF44 (pre_same 3 J J J (pre_same 2 J J J pre_nil)) J hw) fun v_2 _ => r1' J J (t_call (n := 8) (r_compare _ _ _ _ (by omega) (by omega)) J J J ⟨J, J, trivial⟩ cF62 (pre_same 7 J J J (pre_same 8 J J J pre_nil)) J hw) fun _ _ => r3' J J (t_det (d_as J J) J J) fun _ _ => r_end <|x_then <|e_ret <|x_end (.inl J) hsc () _ (fun a w hs => res1 hs Tryz.results46 J) J trivial J give_nil
end Go.Sky

