/- rules, arithmetic and contracts: part 8
   Proved without conditions of its own: each theorem bears its own. -/
import Derived.Test.YtcegclhbeflgbaaGreatSc02
import Derived.Test.YtcegclhbeflgbaaGreatSc01
import Derived.Test.YtcegclhbeflgbaaGreatSc03
import Derived.Test.YtcegclhbeflgbaaGreatSc06
set_option linter.all false
namespace Go.Sky
open Go.Proofs
set_option maxRecDepth 20000
set_option maxHeartbeats 4000000
set_option linter.unusedVariables false
set_option linter.unusedSimpArgs false
theorem poly_dividing (v u : Value) (xs ys : List Int) (hv : Vp xs) (hu : Vp ys) : Cal Tryz.prog 117 #[v, u] [slp 2 wv v xs, slp 2 wv u ys] false (G := Unit) (fun _ => True) (fun _ => .tuple #[.bool (dlow xs ys), .int .i64 (derr xs ys)]) (fun _ => []) := by
 refine cal_in Tryz.func117 rfl Tryz.ntmps117 rfl ⟨rfl, rfl, trivial⟩ ?_
 intro w0 sc hw hsc
 simp only [enumEnv, enumPre]
 have hlen := hv.len
 have hlen2 := hu.len
 have hm1 := msz_le hv.sz
 have hm2 := msz_le hu.sz
 refine e_seq (e_reg (as_ rfl rfl (as_ rfl rfl (l_nil (x_then (e_seq (e_block (e_seq (e_reg (mv rfl rfl (tt (t_call (n := 2) (poly_valid_ok _ _ (by assumption)) rfl rfl rfl ⟨rfl, trivial⟩ Tryz.call56 (pre_same 1 rfl rfl rfl pre_nil) rfl hw) rfl (fun _ _ => ?_))))))))))))
 refine dt (d_notb rfl rfl) rfl ?_
 refine mv rfl rfl (gdt (d_mv rfl rfl) rfl rfl rfl rfl ?_)
 refine gtt (t_call (n := 2) (poly_valid_ok _ _ (by assumption)) rfl rfl rfl ⟨rfl, trivial⟩ Tryz.call56 (pre_same 2 rfl rfl rfl pre_nil) rfl hw) rfl rfl rfl rfl (fun _ _ => ?_)
 refine gdt (d_notb rfl rfl) rfl rfl rfl rfl ?_
 refine dt (d_pickf rfl rfl rfl) rfl ?_
 refine as_ rfl rfl (l_nil (x_then (e_condf rfl ?_)))
 refine e_seq (e_reg (mv rfl rfl (dt (d_len rfl rfl (i := 2) rfl rd_slp Tryz.underlying23) rfl ?_)))
 refine dt (d_eql rfl rfl rfl) rfl ?_
 refine as_ rfl rfl (l_nil (x_then (e_cond rfl (fun h297 => ?_) (fun h297 => ?_))))
 ·refine e_seq (e_reg (as_ rfl rfl (as_ rfl rfl (l_nil (x_then (e_ret (x_br ?_)))))))
  refine x_ret ?_
  exact x_end (.inl rfl) hsc () _ (fun a w hs => res2 hs Tryz.results117 rfl rfl) (by unfold derr dlow; rw [if_pos (by omega), List.eq_nil_of_length_eq_zero (l := ys) (by omega)]; rfl) trivial rfl give_nil
 ·refine e_seq (e_reg (mv rfl rfl (dt (d_len rfl rfl (i := 1) rfl rd_slp Tryz.underlying23) rfl ?_)))
  refine mv rfl rfl (dt (d_len rfl rfl (i := 2) rfl rd_slp Tryz.underlying23) rfl ?_)
  refine dt (d_lss rfl rfl rfl) rfl ?_
  refine as_ rfl rfl (l_nil (x_then (e_cond rfl (fun h299 => ?_) (fun h299 => ?_))))
  ·refine e_seq (e_reg (as_ rfl rfl (as_ rfl rfl (l_nil (x_then (e_ret (x_br ?_)))))))
   refine x_ret ?_
   exact x_end (.inl rfl) hsc () _ (fun a w hs => res2 hs Tryz.results117 rfl rfl) (by rw [dlow_eq (by omega), decide_eq_true (by omega)]; unfold derr; rw [if_neg (by omega), if_pos (by omega)]) trivial rfl give_nil
  ·have hp3 : (xs.length - ys.length + 1) * (msz ys + 1) ≤ 26 * 65537 := Nat.mul_le_mul (by omega) (by omega)
   have hp4 : ((xs.length : Int) - (ys.length : Int) + 1) * ((msz ys : Int) + 1) = (((xs.length - ys.length + 1) * (msz ys + 1) : Nat) : Int) := by rw [Int.natCast_mul]; congr 1; omega
   refine e_seq (e_reg (mv rfl rfl (tt (t_call (n := 2) (poly_size _ _ (by first | exact hv.sz | exact hu.sz)) rfl rfl rfl ⟨rfl, trivial⟩ Tryz.call110 (pre_same 1 rfl rfl rfl pre_nil) rfl hw) rfl (fun _ _ => ?_))))
   refine mv rfl rfl (dt (d_len rfl rfl (i := 1) rfl rd_slp Tryz.underlying23) rfl ?_)
   refine mv rfl rfl (dt (d_len rfl rfl (i := 2) rfl rd_slp Tryz.underlying23) rfl ?_)
   refine dt (d_sub rfl rfl rfl ⟨by omega, by omega⟩) rfl ?_
   refine dt (d_add rfl rfl rfl ⟨by omega, by omega⟩) rfl ?_
   refine mv rfl rfl (tt (t_call (n := 2) (poly_size _ _ (by first | exact hv.sz | exact hu.sz)) rfl rfl rfl ⟨rfl, trivial⟩ Tryz.call110 (pre_same 2 rfl rfl rfl pre_nil) rfl hw) rfl (fun _ _ => ?_))
   refine dt (d_add rfl rfl rfl ⟨by omega, by omega⟩) rfl ?_
   refine dt (d_mul rfl rfl rfl (by rw [hp4]; exact ⟨by omega, by omega⟩)) rfl ?_
   refine dt (d_add rfl rfl rfl (by rw [hp4]; exact ⟨by omega, by omega⟩)) rfl ?_
   refine dt (d_gtr rfl rfl rfl) rfl ?_
   refine as_ rfl rfl (l_nil (x_then (e_cond rfl (fun h301 => ?_) (fun h301 => ?_))))
   ·refine e_seq (e_reg (as_ rfl rfl (as_ rfl rfl (l_nil (x_then (e_ret (x_br ?_)))))))
    refine x_ret ?_
    exact x_end (.inl rfl) hsc () _ (fun a w hs => res2 hs Tryz.results117 rfl rfl) (by rw [hp4] at h301; rw [dlow_eq (by omega), decide_eq_false (by omega)]; unfold derr; rw [if_neg (by omega), if_neg (by omega), if_pos (by omega)]) trivial rfl give_nil
   ·refine e_skip ?_
    refine x_bn ?_
    refine x_then (e_seq (e_reg (as_ rfl rfl (as_ rfl rfl (l_nil (x_then (e_ret ?_)))))))
    exact x_end (.inl rfl) hsc () _ (fun a w hs => res2 hs Tryz.results117 rfl rfl) (by rw [hp4] at h301; rw [dlow_eq (by omega), decide_eq_false (by omega)]; unfold derr; rw [if_neg (by omega), if_neg (by omega), if_neg (by omega)]) trivial rfl give_nil
theorem poly_rest (v u : Value) (xs ys : List Int) (hv : Vp xs) (hu : Vp ys) (hd : derr xs ys = 0) : Cal Tryz.prog 116 #[v, u] [slp 2 wv v xs, slp 2 wv u ys] true (G := Value) (fun r => True) (fun r => .tuple #[r, .int .i64 0]) (fun r => [slp 2 wv r (prest xs ys)]) := by
 refine cal_in Tryz.func116 rfl Tryz.ntmps116 rfl ⟨rfl, rfl, trivial⟩ ?_
 intro w0 sc hw hsc
 simp only [enumEnv, enumPre]
 have hlen := hv.len
 have hlen2 := hu.len
 have hm1 := msz_le hv.sz
 have hm2 := msz_le hu.sz
 obtain ⟨hm0, hF0⟩ := derr_ok hd
 have hdl := dlow_eq (p := xs) hm0
 refine e_seq (e_reg (as_ rfl rfl (as_ rfl rfl (l_nil (x_then (e_seq (e_reg (mv rfl rfl (mv rfl rfl (tt (t_call (n := 2) (poly_dividing _ _ _ _ hv hu) rfl rfl rfl ⟨rfl, rfl, trivial⟩ Tryz.call117 (pre_same 1 rfl rfl rfl (pre_same 2 rfl rfl rfl pre_nil)) rfl hw) rfl (fun _ _ => ?_)))))))))))
 refine mv rfl rfl (dt (d_ex rfl rfl rfl) rfl ?_)
 refine dt (d_ex rfl rfl rfl) rfl ?_
 refine as_ rfl rfl (as_ rfl rfl (l_nil (x_then (e_seq (e_seq (e_reg (mv rfl rfl (dt (d_neq rfl rfl rfl) rfl ?_))))))))
 refine l_nil (x_then (e_cond rfl (fun h310 => ?_) (fun h310 => ?_)))
 ·exfalso; exact h310 hd
 ·refine e_skip ?_
  refine x_then (e_seq (e_reg (mv rfl rfl (tt (t_callo (n := 3) (clone_p _ _ (by omega)) rfl rfl rfl ⟨rfl, trivial⟩ Tryz.call118 (pre_same 1 rfl rfl rfl pre_nil) rfl hw) rfl (fun v _ => ?_)))))
  refine as_ rfl rfl (l_nil (x_then (e_seq (e_seq (e_reg (mv rfl rfl (l_nil (x_then (e_condb rfl (fun h314 => ?_) (fun h314 => ?_))))))))))
  ·have hlt : xs.length < ys.length := by rw [hdl] at h314; simpa using h314
   refine e_seq (e_reg (mv rfl rfl (as_ rfl rfl (as_ rfl rfl (l_nil (x_then (e_ret (x_ret ?_))))))))
   exact x_end (.inl rfl) hsc _ _ (fun a w hs => res2 hs Tryz.results116 rfl rfl) rfl trivial rfl (give_owne 3 rfl rfl pV (by unfold prest; rw [if_pos hlt]) give_nil)
  ·have hge : ys.length ≤ xs.length := by rw [hdl] at h314; simpa using h314
   have hF := hF0 hge
   refine e_skip ?_
   refine x_then (e_seq (e_reg (tt (t_alloc (i := 4) rfl rfl rfl Tryz.zeroValue146 rfl rfl hw) rfl (fun b _ => ?_))))
   refine l_nil (x_then (e_seq (e_reg (mv rfl rfl (mv rfl rfl (dt (d_len rfl rfl (i := 2) rfl rd_slp Tryz.underlying23) rfl ?_))))))
   refine dt (d_sub rfl rfl rfl ⟨by omega, by omega⟩) rfl ?_
   refine dt (d_ixa (ii := 2) (i := (ys.length - 1)) rfl rfl rfl rfl rd_slp Tryz.underlying23 Tryz.sizeOf28 (by omega) (by omega)) rfl ?_
   refine dt (d_lde (ii := 2) 0 rfl rfl rfl rd_slp pV (by omega)) rfl ?_
   refine tt (t_alloc (i := 5) rfl rfl rfl Tryz.zeroValue28 rfl rfl hw) rfl (fun b_2 _ => ?_)
   refine tt (t_stw (i := 5) rfl rfl rfl rfl rfl (by decide) rfl Tryz.sizeOf28 rfl rfl ⟨(one_rfl rfl), (one_rfl rfl), trivial⟩ rfl hw trivial) rfl (fun _ _ => ?_)
   refine l_nil (x_then (e_seq (e_seq (e_reg (mv rfl rfl (dt (d_len rfl rfl (i := 1) rfl rd_slp Tryz.underlying23) rfl ?_))))))
   refine dt (d_sub rfl rfl rfl ⟨by omega, by omega⟩) rfl ?_
   refine as_ rfl rfl (l_nil (x_then (e_block (e_lp [(1, _), (8, _), (9, _), (10, _)] [(0, _), (1, _), (2, _), (4, _), (5, _)] (fun (j : Nat) => [(11, .int .i64 ((xs.length : Int) - 1 - (j : Int)))]) (fun (j : Nat) => [(3, osl 2 28 wv v (rsteps xs ys j))]) (fun (j : Nat) => (j ≤ xs.length - ys.length + 1)) (fun (j : Nat) => xs.length - ys.length + 1 - j) 0 (by first | omega | (dsimp only <;> omega)) ⟨by rw [show (xs.length : Int) - 1 - ((0 : Nat) : Int) = (xs.length : Int) - 1 by omega]; rfl, rfl, rfl, rfl, rfl, trivial⟩ ⟨rfl, rfl, rfl, rfl, rfl, rfl, trivial⟩ ?_))))
   rintro j hj
   simp only [List.cons_append, List.nil_append]
   refine e_seq (e_seq (e_reg (mv rfl rfl (mv rfl rfl (dt (d_len rfl rfl (i := 2) rfl rd_slp Tryz.underlying23) rfl ?_)))))
   refine dt (d_sub rfl rfl rfl ⟨by omega, by omega⟩) rfl ?_
   refine dt (d_geq rfl rfl rfl) rfl ?_
   refine l_nil (x_then (e_cond rfl (fun h319 => ?_) (fun h319 => ?_)))
   ·obtain ⟨hb1, hb2, hb3⟩ := rest_b hF (j := j) (by omega)
    have hRl := length_rsteps xs ys j
    refine e_skip ?_
    refine x_then (e_seq (e_block (e_seq (e_reg (mv rfl rfl (mv rfl rfl (dt (d_ixa (ii := 3) (i := (xs.length - 1 - j)) rfl rfl rfl rfl (rd_osl pV) Tryz.underlying23 Tryz.sizeOf28 (by omega) (by omega)) rfl ?_)))))))
    refine dt (d_lde (ii := 3) 0 rfl rfl rfl (rd_osl pV) pV (by omega)) rfl ?_
    refine tt (t_alloc (i := 6) rfl rfl rfl Tryz.zeroValue28 rfl rfl hw) rfl (fun b_3 _ => ?_)
    refine tt (t_stw (i := 6) rfl rfl rfl rfl rfl (by decide) rfl Tryz.sizeOf28 rfl rfl ⟨(one_rfl rfl), (one_rfl rfl), trivial⟩ rfl hw trivial) rfl (fun _ _ => ?_)
    refine l_nil (x_then (e_seq (e_seq (e_reg (mv rfl rfl (dt (d_len rfl rfl (i := 3) rfl (rd_osl pV) Tryz.underlying23) rfl ?_))))))
    refine mv rfl rfl (l_nil (x_then (e_block (e_lp [(1, _), (8, _), (9, _), (10, _), (11, _), (12, _), (51, _)] [(0, _), (1, _), (2, _), (4, _), (5, _), (6, _)] (fun (i : Nat) => [(52, .int .i64 (i : Int))]) (fun (i : Nat) => [(3, osl 2 28 wv v (mul1 (rsteps xs ys j) (cf ys (ys.length - 1)) i))]) (fun (i : Nat) => (i ≤ xs.length)) (fun (i : Nat) => xs.length - i) 0 (by first | omega | (dsimp only <;> omega)) ⟨rfl, rfl, rfl, rfl, rfl, rfl, rfl, rfl, trivial⟩ ⟨by rw [mul1_zero]; rfl, rfl, rfl, rfl, rfl, rfl, rfl, trivial⟩ ?_))))
    rintro i hi
    simp only [List.cons_append, List.nil_append]
    have hg1 : i < xs.length → (mul1 (rsteps xs ys j) (cf ys (ys.length - 1)) i).getD i 0 = cf (rsteps xs ys j) i := fun h => mul1_get (by omega)
    have hl1 := length_mul1 (rsteps xs ys j) (cf ys (ys.length - 1)) i
    refine e_seq (e_reg (dt (d_lss rfl rfl rfl) rfl ?_))
    refine l_nil (x_then (e_seq (e_cond rfl (fun h322 => ?_) (fun h322 => ?_))))
    ·refine e_skip ?_
     refine x_then (e_seq (e_block (e_seq (e_reg (mv rfl rfl (as_ rfl rfl (l_nil (x_then (e_dreg (fun x => x = b) [(0, 0), (1, 0), (2, 0), (3, 0), (4, 0), (5, 0), (6, 0), (7, 1), (8, 0), (9, 3)] (by kernel_rfl) ?_ ?_)))))))))
     ·kernel_rfl
     refine r0' rfl rfl rfl rfl (st1 4 rfl (d_mv rfl rfl)) ?_
     refine r0' rfl rfl rfl rfl (st1 4 rfl (d_mv rfl rfl)) ?_
     refine r0' rfl rfl rfl rfl (st1 4 rfl (d_mv rfl rfl)) ?_
     refine r0' rfl rfl rfl rfl (st1 4 rfl (d_mv rfl rfl)) ?_
     refine r0' rfl rfl rfl rfl (st1 4 rfl (d_ixa (ii := 3) (i := i) rfl rfl rfl rfl (rd_osl pV) Tryz.underlying23 Tryz.sizeOf28 rfl (by omega))) ?_
     refine r0' rfl rfl rfl rfl (st1 4 rfl (d_lde (ii := 3) 0 rfl rfl rfl (rd_osl pV) pV (by omega))) ?_
     refine r0' rfl rfl rfl rfl (st1 4 rfl (d_lb2 (i := 5) rfl rfl rfl Tryz.isAgg28 Tryz.sizeOf28 rfl rfl)) ?_
     refine r1' rfl rfl (t_callb (n := 6) (i := 4) (dk_mul _ _ _ (by rw [hg1 (by omega)]; exact hb1 _) (hu.sz _) (by rw [hg1 (by omega)]; exact hb2 _ _)) rfl rfl rfl ⟨rfl, rfl, rfl, trivial⟩ Tryz.call114 rfl (by decide) pre_nil rfl hw rfl) (fun _ _ => ?_)
     refine r0' rfl rfl rfl rfl (st1 4 rfl (d_ixa (ii := 3) (i := i) rfl rfl rfl rfl (rd_osl pV) Tryz.underlying23 Tryz.sizeOf28 rfl (by omega))) ?_
     refine r3' rfl rfl (t_ste (i := 3) (enc := wv) _ rfl rfl rfl rfl rfl rfl (by decide) pV (by omega) rfl hw) (fun _ _ => ?_)
     refine r_end ?_
     refine x_bn ?_
     refine x_then (e_reg (dt (d_add rfl rfl rfl ⟨by omega, by omega⟩) rfl ?_))
     refine mv rfl rfl (l_nil ?_)
     exact x_rnd (i + 1) (by first | omega | (dsimp only <;> omega)) (by first | omega | (dsimp only <;> omega)) ⟨rfl, rfl, rfl, rfl, rfl, rfl, rfl, rfl, trivial⟩ ⟨by rw [← mul1_set (by omega), ← hg1 (by omega)]; rfl, rfl, rfl, rfl, rfl, rfl, rfl, trivial⟩
    ·refine e_exit ?_
     refine x_exit (x_exit (x_be ?_))
     refine x_then (e_seq ?_)
     obtain rfl : i = xs.length := by omega
     refine e_reg (mv rfl rfl (dt (d_len rfl rfl (i := 2) rfl rd_slp Tryz.underlying23) rfl ?_))
     refine mv rfl rfl (l_nil (x_then (e_block (e_lp [(1, _), (8, _), (9, _), (10, _), (11, _), (12, _), (65, _), (66, _)] [(0, _), (1, _), (2, _), (4, _), (5, _), (6, _)] (fun (i : Nat) => [(67, .int .i64 (i : Int))]) (fun (i : Nat) => [(3, osl 2 28 wv v (sub2 ys (rsteps xs ys j) (cf ys (ys.length - 1)) (cf (rsteps xs ys j) (xs.length - 1 - j)) (xs.length - 1 - j - (ys.length - 1)) i))]) (fun (i : Nat) => (i ≤ ys.length)) (fun (i : Nat) => ys.length - i) 0 (by first | omega | (dsimp only <;> omega)) ⟨rfl, rfl, rfl, rfl, rfl, rfl, rfl, rfl, rfl, trivial⟩ ⟨by rw [← sub2_zero, hRl]; rfl, rfl, rfl, rfl, rfl, rfl, rfl, trivial⟩ ?_))))
     rintro i hi
     simp only [List.cons_append, List.nil_append]
     have hg2 : i < ys.length → (sub2 ys (rsteps xs ys j) (cf ys (ys.length - 1)) (cf (rsteps xs ys j) (xs.length - 1 - j)) (xs.length - 1 - j - (ys.length - 1)) i).getD ((xs.length - 1 - j - (ys.length - 1)) + i) 0 = cf (rsteps xs ys j) ((xs.length - 1 - j - (ys.length - 1)) + i) * (cf ys (ys.length - 1)) := fun h => sub2_get (by omega)
     have hl2 := length_sub2 ys (rsteps xs ys j) (cf ys (ys.length - 1)) (cf (rsteps xs ys j) (xs.length - 1 - j)) (xs.length - 1 - j - (ys.length - 1)) i
     refine e_seq (e_reg (dt (d_lss rfl rfl rfl) rfl ?_))
     refine l_nil (x_then (e_seq (e_cond rfl (fun h325 => ?_) (fun h325 => ?_))))
     ·refine e_skip ?_
      refine x_then (e_seq (e_block (e_seq (e_reg (mv rfl rfl (dt (d_ixa (ii := 2) rfl rfl rfl rfl rd_slp Tryz.underlying23 Tryz.sizeOf28 rfl (by first | omega | (simp only [List.length_set]; omega))) rfl ?_))))))
      refine dt (d_lde (ii := 2) 0 rfl rfl rfl rd_slp pV (by first | omega | (simp only [List.length_set]; omega))) rfl ?_
      refine tt (t_alloc (i := 7) rfl rfl rfl Tryz.zeroValue28 rfl rfl hw) rfl (fun b_4 _ => ?_)
      refine as_ rfl rfl (tt (t_stw (i := 7) rfl rfl rfl rfl rfl (by decide) rfl Tryz.sizeOf28 rfl rfl ⟨(one_rfl rfl), (one_rfl rfl), trivial⟩ rfl hw trivial) rfl (fun _ _ => ?_))
      refine l_nil (x_then (e_seq (e_reg (mv rfl rfl (mv rfl rfl (dt (d_len rfl rfl (i := 2) rfl rd_slp Tryz.underlying23) rfl ?_))))))
      refine dt (d_sub rfl rfl rfl ⟨by omega, by omega⟩) rfl ?_
      refine dt (d_sub rfl rfl rfl ⟨by omega, by omega⟩) rfl ?_
      refine mv rfl rfl (dt (d_add rfl rfl rfl ⟨by omega, by omega⟩) rfl ?_)
      refine as_ rfl rfl (l_nil (x_then (e_dreg (fun x => x = b) [(0, 0), (1, 0), (2, 0), (3, 0), (4, 0), (5, 0), (6, 0), (7, 0), (8, 1), (9, 1), (10, 0), (11, 3)] (by kernel_rfl) ?_ ?_)))
      ·kernel_rfl
      refine r0' rfl rfl rfl rfl (st1 4 rfl (d_mv rfl rfl)) ?_
      refine r0' rfl rfl rfl rfl (st1 4 rfl (d_mv rfl rfl)) ?_
      refine r0' rfl rfl rfl rfl (st1 4 rfl (d_mv rfl rfl)) ?_
      refine r0' rfl rfl rfl rfl (st1 4 rfl (d_mv rfl rfl)) ?_
      refine r0' rfl rfl rfl rfl (st1 4 rfl (d_ixa (ii := 3) (i := ((xs.length - 1 - j - (ys.length - 1)) + i)) rfl rfl rfl rfl (rd_osl pV) Tryz.underlying23 Tryz.sizeOf28 (by omega) (by omega))) ?_
      refine r0' rfl rfl rfl rfl (st1 4 rfl (d_lde (ii := 3) 0 rfl rfl rfl (rd_osl pV) pV (by omega))) ?_
      refine r0' rfl rfl rfl rfl (st1 4 rfl (d_lb2 (i := 6) rfl rfl rfl Tryz.isAgg28 Tryz.sizeOf28 rfl rfl)) ?_
      refine r0' rfl rfl rfl rfl (st1 4 rfl (d_lb2 (i := 7) rfl rfl rfl Tryz.isAgg28 Tryz.sizeOf28 rfl rfl)) ?_
      refine r1' rfl rfl (t_callb (n := 7) (i := 4) (dk_mul _ _ _ (hb1 _) (hu.sz _) (hb2 _ _)) rfl rfl rfl ⟨rfl, rfl, rfl, trivial⟩ Tryz.call114 rfl (by decide) pre_nil rfl hw rfl) (fun _ _ => ?_)
      refine r1' rfl rfl (t_callb (n := 7) (i := 4) (dk_sub _ _ _ (by rw [hg2 (by omega)]; exact hb2 _ _) (hb2 _ _) (by rw [hg2 (by omega)]; exact hb3 _ _ _ _)) rfl rfl rfl ⟨rfl, rfl, rfl, trivial⟩ Tryz.call119 rfl (by decide) pre_nil rfl hw rfl) (fun _ _ => ?_)
      refine r0' rfl rfl rfl rfl (st1 4 rfl (d_ixa (ii := 3) (i := ((xs.length - 1 - j - (ys.length - 1)) + i)) rfl rfl rfl rfl (rd_osl pV) Tryz.underlying23 Tryz.sizeOf28 (by omega) (by omega))) ?_
      refine r3' rfl rfl (t_ste (i := 3) (enc := wv) _ rfl rfl rfl rfl rfl rfl (by decide) pV (by omega) rfl hw) (fun _ _ => ?_)
      refine r_end ?_
      refine x_bn ?_
      refine x_then (e_reg (dt (d_add rfl rfl rfl ⟨by omega, by omega⟩) rfl ?_))
      refine mv rfl rfl (l_nil ?_)
      exact x_rnd (i + 1) (by first | omega | (dsimp only <;> omega)) (by first | omega | (dsimp only <;> omega)) ⟨rfl, rfl, rfl, rfl, rfl, rfl, rfl, rfl, rfl, trivial⟩ ⟨by rw [← sub2_set (by omega), ← hg2 (by omega)]; rfl, rfl, rfl, rfl, rfl, rfl, rfl, trivial⟩
     ·refine e_exit ?_
      refine x_exit (x_exit (x_be ?_))
      refine x_bn ?_
      refine x_then (e_reg (mv rfl rfl (dt (d_sub rfl rfl rfl ⟨by omega, by omega⟩) rfl ?_)))
      refine as_ rfl rfl (l_nil ?_)
      obtain rfl : i = ys.length := by omega
      exact x_rnd (j + 1) (by first | omega | (dsimp only <;> omega)) (by first | omega | (dsimp only <;> omega)) ⟨by rw [show (xs.length : Int) - 1 - ((j + 1 : Nat) : Int) = (xs.length : Int) - 1 - (j : Int) - 1 by omega]; rfl, rfl, rfl, rfl, rfl, trivial⟩ ⟨by rfl, rfl, rfl, rfl, rfl, rfl, trivial⟩
   ·refine e_exit ?_
    refine x_exit (x_exit (x_be ?_))
    refine x_then (e_seq ?_)
    obtain rfl : j = xs.length - ys.length + 1 := by omega
    refine e_imp (s_pub 3 rfl rfl pV) ?_
    refine e_reg (mv rfl rfl (tt (t_callb (n := 8) (i := 4) (d_done_b _ _ _ (sz_prest hF)) rfl rfl rfl ⟨rfl, rfl, trivial⟩ Tryz.call115 rfl (by decide) (pre_same 3 rfl rfl rfl pre_nil) rfl hw trivial) rfl (fun _ _ => ?_)))
    refine dt (d_ex rfl rfl rfl) rfl ?_
    refine dt (d_ex rfl rfl rfl) rfl ?_
    refine as_ rfl rfl (as_ rfl rfl (l_nil (x_then (e_ret ?_))))
    exact x_end (.inl rfl) hsc _ _ (fun a w hs => res2 hs Tryz.results116 rfl rfl) rfl trivial rfl (give_samee 8 rfl rfl rfl (by unfold prest; rw [if_neg (by omega)] <;> rfl) give_nil)
theorem poly_divide (v u : Value) (xs ys : List Int) (hv : Vp xs) (hu : Vp ys) (hd : derr xs ys = 0) : Cal Tryz.prog 67 #[v, u] [slp 2 wv v xs, slp 2 wv u ys] true (G := Value) (fun r => True) (fun r => .tuple #[r, .int .i64 (if pdv xs ys then 0 else 10)]) (fun r => [slp 2 wv r (if pdv xs ys then pquoz xs ys else [])]) := by
 refine cal_in Tryz.func67 rfl Tryz.ntmps67 rfl ⟨rfl, rfl, trivial⟩ ?_
 intro w0 sc hw hsc
 simp only [enumEnv, enumPre]
 have hlen := hv.len
 have hlen2 := hu.len
 have hm1 := msz_le hv.sz
 have hm2 := msz_le hu.sz
 obtain ⟨hm0, hF0⟩ := derr_ok hd
 have hdl := dlow_eq (p := xs) hm0
 have hyz : cf ys (ys.length - 1) ≠ 0 := hu.tr.mem (fun e => hm0 (by rw [e]; rfl))
 refine e_seq (e_reg (as_ rfl rfl (as_ rfl rfl (l_nil (x_then (e_seq (e_reg (mv rfl rfl (mv rfl rfl (tt (t_call (n := 2) (poly_dividing _ _ _ _ hv hu) rfl rfl rfl ⟨rfl, rfl, trivial⟩ Tryz.call117 (pre_same 1 rfl rfl rfl (pre_same 2 rfl rfl rfl pre_nil)) rfl hw) rfl (fun _ _ => ?_)))))))))))
 refine mv rfl rfl (dt (d_ex rfl rfl rfl) rfl ?_)
 refine dt (d_ex rfl rfl rfl) rfl ?_
 refine as_ rfl rfl (as_ rfl rfl (l_nil (x_then (e_seq (e_block (e_seq (e_reg (mv rfl rfl (dt (d_neq rfl rfl rfl) rfl ?_)))))))))
 refine as_ rfl rfl (l_nil (x_then (e_cond rfl (fun h337 => ?_) (fun h337 => ?_))))
 ·exfalso; exact h337 hd
 ·refine e_seq (e_reg (mv rfl rfl (dt (d_len rfl rfl (i := 1) rfl rd_slp Tryz.underlying23) rfl ?_)))
  refine dt (d_eql rfl rfl rfl) rfl ?_
  refine as_ rfl rfl (l_nil (x_then (e_cond rfl (fun h339 => ?_) (fun h339 => ?_))))
  ·refine e_seq (e_reg (as_ rfl rfl (as_ rfl rfl (l_nil (x_then (e_ret (x_br ?_)))))))
   refine x_ret ?_
   have hx0 : xs = [] := List.eq_nil_of_length_eq_zero (by omega)
   have hp : pdv xs ys := .inl hx0
   exact x_end (.inl rfl) hsc _ _ (fun a w hs => res2 hs Tryz.results67 rfl rfl) (by rw [if_pos hp]) trivial rfl (give_none (by rw [if_pos hp, hx0]; rfl) give_nil)
  ·have hnx : xs ≠ [] := fun e => by rw [e] at h339; simp at h339
   refine e_seq (e_reg (mv rfl rfl (as_ rfl rfl (l_nil (x_then (e_condb rfl (fun h341 => ?_) (fun h341 => ?_)))))))
   ·have hlt : xs.length < ys.length := by rw [hdl] at h341; simpa using h341
    refine e_seq (e_reg (as_ rfl rfl (as_ rfl rfl (l_nil (x_then (e_ret (x_br ?_)))))))
    refine x_ret ?_
    have hp : ¬ pdv xs ys := fun h => by rcases h with h | h; (exact hnx h); (have := h.1; omega)
    exact x_end (.inl rfl) hsc _ _ (fun a w hs => res2 hs Tryz.results67 rfl rfl) (by rw [if_neg hp]) trivial rfl (give_none (if_neg hp) give_nil)
   ·have hge : ys.length ≤ xs.length := by rw [hdl] at h341; simpa using h341
    have hF := hF0 hge
    refine e_skip ?_
    refine x_bn ?_
    refine x_then (e_seq (e_reg (tt (t_alloc (i := 3) rfl rfl rfl Tryz.zeroValue146 rfl rfl hw) rfl (fun b _ => ?_))))
    refine l_nil (x_then (e_seq (e_reg (mv rfl rfl (tt (t_callo (n := 4) (clone_p _ _ (by omega)) rfl rfl rfl ⟨rfl, trivial⟩ Tryz.call118 (pre_same 1 rfl rfl rfl pre_nil) rfl hw) rfl (fun v _ => ?_))))))
    refine as_ rfl rfl (l_nil (x_then (e_seq (e_reg (mv rfl rfl (dt (d_len rfl rfl (i := 1) rfl rd_slp Tryz.underlying23) rfl ?_))))))
    refine mv rfl rfl (dt (d_len rfl rfl (i := 2) rfl rd_slp Tryz.underlying23) rfl ?_)
    refine dt (d_sub rfl rfl rfl ⟨by omega, by omega⟩) rfl ?_
    refine dt (d_add rfl rfl rfl ⟨by omega, by omega⟩) rfl ?_
    refine tt (t_mkn (i := 5) (n := (xs.length - ys.length + 1)) (by_ := 24) (enc := wv) 0 rfl rfl rfl rfl rfl (by omega) Tryz.underlying23 Tryz.ti28 rfl pV.cells pV.pos rfl rfl (by omega) (by decide) rfl hw) rfl (fun v_2 _ => ?_)
    refine as_ rfl rfl (l_nil (x_then (e_seq (e_seq (e_reg (mv rfl rfl (dt (d_len rfl rfl (i := 5) rfl (rd_osl pV) Tryz.underlying23) rfl ?_)))))))
    refine dt (d_sub rfl rfl rfl ⟨by simp only [List.length_replicate]; omega, by simp only [List.length_replicate]; omega⟩) rfl ?_
    refine as_ rfl rfl (l_nil (x_then (e_block (e_lp [(1, _), (8, _), (9, _), (10, _)] [(0, _), (1, _), (2, _), (3, _)] (fun (j : Nat) => [(11, .int .i64 ((xs.length : Int) - (ys.length : Int) - (j : Int)))]) (fun (j : Nat) => [(4, osl 2 28 wv v (dsteps xs ys j)), (5, osl 2 28 wv v_2 (dout xs ys j))]) (fun (j : Nat) => (j ≤ xs.length - ys.length + 1) ∧ (∀ k, xs.length - ys.length < k + j → k ≤ xs.length - ys.length → dexact xs ys k)) (fun (j : Nat) => xs.length - ys.length + 1 - j) 0 ⟨by first | omega | (dsimp only <;> omega), fun k h1 h2 => by omega⟩ ⟨by simp only [List.length_replicate]; exact congrArg some (i64_eq (by omega)), rfl, rfl, rfl, rfl, trivial⟩ ⟨rfl, by rw [dout_zero]; rfl, rfl, rfl, rfl, rfl, trivial⟩ ?_))))
    rintro j ⟨hj, hx⟩
    simp only [List.cons_append, List.nil_append]
    have hol := length_dout xs ys j
    refine e_seq (e_seq (e_reg (mv rfl rfl (dt (d_geq rfl rfl rfl) rfl ?_))))
    refine l_nil (x_then (e_cond rfl (fun h347 => ?_) (fun h347 => ?_)))
    ·obtain ⟨hb1, hb5⟩ := div_b hF (j := j) (by omega) hx
     have hRl := length_dsteps xs ys j
     have hi1 : xs.length - ys.length - j + ys.length - 1 < xs.length := by omega
     refine e_skip ?_
     refine x_then (e_seq (e_block (e_jn [(1, _), (8, _), (9, _), (10, _), (11, _)] [(0, _), (4, _), (5, _), (1, _), (2, _), (3, _)] (fun (q : Nat × Nat) => [(12, .pointer (some ⟨q.1, 0, none⟩)), (13, .pointer (some ⟨q.2, 0, none⟩)), (14, .int .i64 0)]) (fun (q : Nat × Nat) => [(97, box q.1 28 (wc (clip (dq ys (dsteps xs ys j) (xs.length - ys.length - j))))), (98, box q.2 28 (wc (clip (cf (dsteps xs ys j) ((xs.length - ys.length - j) + ys.length - 1) % cf ys (ys.length - 1)))))]) (fun (q : Nat × Nat) => True) ⟨rfl, rfl, rfl, rfl, rfl, trivial⟩ ⟨rfl, rfl, rfl, rfl, rfl, rfl, trivial⟩ ?_ ?_)))
     ·refine e_dregf [2, 4] [23] (by kernel_rfl) ?_
      refine a_lin' (n := 10) [(0, 0), (1, 0), (2, 0), (3, 0), (4, 0), (5, 0), (6, 0), (7, 0), (8, 0), (9, 0), (10, 0), (11, 0), (12, 0), (13, 0)] (by kernel_rfl) ?_
      refine r0' rfl rfl rfl rfl (stf (d_mv rfl rfl) ⟨rfl, rfl, trivial⟩) ?_
      refine r0' rfl rfl rfl rfl (stf (d_mv rfl rfl) ⟨rfl, rfl, trivial⟩) ?_
      refine r0' rfl rfl rfl rfl (stf (d_mv rfl rfl) ⟨rfl, rfl, trivial⟩) ?_
      refine r0' rfl rfl rfl rfl (stf (d_len rfl rfl (i := 2) rfl rd_slp Tryz.underlying23) ⟨rfl, rfl, trivial⟩) ?_
      refine r0' rfl rfl rfl rfl (stf (d_add rfl rfl rfl ⟨by omega, by omega⟩) ⟨rfl, rfl, trivial⟩) ?_
      refine r0' rfl rfl rfl rfl (stf (d_sub rfl rfl rfl ⟨by omega, by omega⟩) ⟨rfl, rfl, trivial⟩) ?_
      refine r0' rfl rfl rfl rfl (stf (d_ixa (ii := 4) (i := ((xs.length - ys.length - j) + ys.length - 1)) rfl rfl rfl rfl (rd_osl pV) Tryz.underlying23 Tryz.sizeOf28 (by omega) (by omega)) ⟨rfl, rfl, trivial⟩) ?_
      refine r0' rfl rfl rfl rfl (stf (d_lde (ii := 4) 0 rfl rfl rfl (rd_osl pV) pV (by omega)) ⟨rfl, rfl, trivial⟩) ?_
      refine r0' rfl rfl rfl rfl (stf (d_mv rfl rfl) ⟨rfl, rfl, trivial⟩) ?_
      refine r0' rfl rfl rfl rfl (stf (d_mv rfl rfl) ⟨rfl, rfl, trivial⟩) ?_
      refine r0' rfl rfl rfl rfl (stf (d_len rfl rfl (i := 2) rfl rd_slp Tryz.underlying23) ⟨rfl, rfl, trivial⟩) ?_
      refine r0' rfl rfl rfl rfl (stf (d_sub rfl rfl rfl ⟨by omega, by omega⟩) ⟨rfl, rfl, trivial⟩) ?_
      refine r0' rfl rfl rfl rfl (stf (d_ixa (ii := 2) (i := (ys.length - 1)) rfl rfl rfl rfl rd_slp Tryz.underlying23 Tryz.sizeOf28 (by omega) (by omega)) ⟨rfl, rfl, trivial⟩) ?_
      refine r0' rfl rfl rfl rfl (stf (d_lde (ii := 2) 0 rfl rfl rfl rd_slp pV (by omega)) ⟨rfl, rfl, trivial⟩) ?_
      refine r_fin ?_
      refine a_br3 (n := 9) 14 19 20 (by kernel_rfl) ?_ ?_ ?_
      ·refine aact' rfl rfl (t_call (n := 5) (wide_quo _ _ (hb1 _) (hu.sz _) hyz) rfl rfl rfl ⟨rfl, rfl, trivial⟩ Tryz.call53 pre_nil rfl hw) (fun _ _ => ?_)
       refine a_lin' (n := 5) [(15, 0), (16, 0), (17, 0), (18, 0)] (by kernel_rfl) ?_
       refine r0' rfl rfl rfl rfl (stf (d_mv rfl rfl) ⟨rfl, rfl, trivial⟩) ?_
       refine r0' rfl rfl rfl rfl (stf (d_ex rfl rfl rfl) ⟨rfl, rfl, trivial⟩) ?_
       refine r0' rfl rfl rfl rfl (stf (d_ex rfl rfl rfl) ⟨rfl, rfl, trivial⟩) ?_
       refine r0' rfl rfl rfl rfl (stf (d_ex rfl rfl rfl) ⟨rfl, rfl, trivial⟩) ?_
       refine r_fin ?_
       refine a_br2 (n := 4) 19 20 (by kernel_rfl) ?_ ?_
       ·refine aact' rfl rfl (t_allocf (i := 97) rfl rfl rfl Tryz.zeroValue28 rfl rfl hw ⟨rfl, rfl, trivial⟩) (fun b_2 hoff => ?_)
        refine a_lin' (n := 0) [(20, 1), (21, 1), (22, 1), (23, 3)] (by kernel_rfl) ?_
        refine r1' rfl rfl (t_allocf (i := 98) rfl rfl rfl Tryz.zeroValue28 rfl rfl hw ⟨rfl, rfl, trivial⟩) (fun b_3 hoff_2 => ?_)
        refine r1' rfl rfl (t_stw (i := 97) rfl rfl rfl rfl rfl (by decide) rfl Tryz.sizeOf28 rfl rfl ⟨(one_rfl rfl), (one_rfl rfl), trivial⟩ rfl hw hoff) (fun _ _ => ?_)
        refine r1' rfl rfl (t_stw (i := 98) rfl rfl rfl rfl rfl (by decide) rfl Tryz.sizeOf28 rfl rfl ⟨(one_rfl rfl), (one_rfl rfl), trivial⟩ rfl hw hoff_2) (fun _ _ => ?_)
        refine r3' rfl rfl (t_det (d_as rfl rfl) rfl rfl) (fun _ _ => ?_)
        refine r_fin ?_
        refine a_done (by kernel_rfl) ?_
        exact x_jn (_, _) trivial ⟨rfl, rfl, rfl, rfl, rfl, rfl, rfl, rfl, trivial⟩ ⟨rfl, rfl, rfl, rfl, rfl, rfl, rfl, rfl, trivial⟩
       ·refine aact' rfl rfl (t_allocf (i := 98) rfl rfl rfl Tryz.zeroValue28 rfl rfl hw ⟨rfl, rfl, trivial⟩) (fun b_4 hoff_3 => ?_)
        refine a_lin' (n := 0) [(19, 1), (21, 1), (22, 1), (23, 3)] (by kernel_rfl) ?_
        refine r1' rfl rfl (t_allocf (i := 97) rfl rfl rfl Tryz.zeroValue28 rfl rfl hw ⟨rfl, rfl, trivial⟩) (fun b_5 hoff_4 => ?_)
        refine r1' rfl rfl (t_stw (i := 97) rfl rfl rfl rfl rfl (by decide) rfl Tryz.sizeOf28 rfl rfl ⟨(one_rfl rfl), (one_rfl rfl), trivial⟩ rfl hw hoff_4) (fun _ _ => ?_)
        refine r1' rfl rfl (t_stw (i := 98) rfl rfl rfl rfl rfl (by decide) rfl Tryz.sizeOf28 rfl rfl ⟨(one_rfl rfl), (one_rfl rfl), trivial⟩ rfl hw hoff_3) (fun _ _ => ?_)
        refine r3' rfl rfl (t_det (d_as rfl rfl) rfl rfl) (fun _ _ => ?_)
        refine r_fin ?_
        refine a_done (by kernel_rfl) ?_
        exact x_jn (_, _) trivial ⟨rfl, rfl, rfl, rfl, rfl, rfl, rfl, rfl, trivial⟩ ⟨rfl, rfl, rfl, rfl, rfl, rfl, rfl, rfl, trivial⟩
      ·refine aact' rfl rfl (t_allocf (i := 97) rfl rfl rfl Tryz.zeroValue28 rfl rfl hw ⟨rfl, rfl, trivial⟩) (fun b_6 hoff_5 => ?_)
       refine a_br2 (n := 8) 14 20 (by kernel_rfl) ?_ ?_
       ·refine aact' rfl rfl (t_call (n := 5) (wide_quo _ _ (hb1 _) (hu.sz _) hyz) rfl rfl rfl ⟨rfl, rfl, trivial⟩ Tryz.call53 pre_nil rfl hw) (fun _ _ => ?_)
        refine a_lin' (n := 0) [(15, 0), (16, 0), (17, 0), (18, 0), (20, 1), (21, 1), (22, 1), (23, 3)] (by kernel_rfl) ?_
        refine r0' rfl rfl rfl rfl (stf (d_mv rfl rfl) ⟨rfl, rfl, trivial⟩) ?_
        refine r0' rfl rfl rfl rfl (stf (d_ex rfl rfl rfl) ⟨rfl, rfl, trivial⟩) ?_
        refine r0' rfl rfl rfl rfl (stf (d_ex rfl rfl rfl) ⟨rfl, rfl, trivial⟩) ?_
        refine r0' rfl rfl rfl rfl (stf (d_ex rfl rfl rfl) ⟨rfl, rfl, trivial⟩) ?_
        refine r1' rfl rfl (t_allocf (i := 98) rfl rfl rfl Tryz.zeroValue28 rfl rfl hw ⟨rfl, rfl, trivial⟩) (fun b_7 hoff_6 => ?_)
        refine r1' rfl rfl (t_stw (i := 97) rfl rfl rfl rfl rfl (by decide) rfl Tryz.sizeOf28 rfl rfl ⟨(one_rfl rfl), (one_rfl rfl), trivial⟩ rfl hw hoff_5) (fun _ _ => ?_)
        refine r1' rfl rfl (t_stw (i := 98) rfl rfl rfl rfl rfl (by decide) rfl Tryz.sizeOf28 rfl rfl ⟨(one_rfl rfl), (one_rfl rfl), trivial⟩ rfl hw hoff_6) (fun _ _ => ?_)
        refine r3' rfl rfl (t_det (d_as rfl rfl) rfl rfl) (fun _ _ => ?_)
        refine r_fin ?_
        refine a_done (by kernel_rfl) ?_
        exact x_jn (_, _) trivial ⟨rfl, rfl, rfl, rfl, rfl, rfl, rfl, rfl, trivial⟩ ⟨rfl, rfl, rfl, rfl, rfl, rfl, rfl, rfl, trivial⟩
       ·refine aact' rfl rfl (t_allocf (i := 98) rfl rfl rfl Tryz.zeroValue28 rfl rfl hw ⟨rfl, rfl, trivial⟩) (fun b_8 hoff_7 => ?_)
        refine a_lin' (n := 0) [(14, 1), (15, 0), (16, 0), (17, 0), (18, 0), (21, 1), (22, 1), (23, 3)] (by kernel_rfl) ?_
        refine r1' rfl rfl (t_call (n := 5) (wide_quo _ _ (hb1 _) (hu.sz _) hyz) rfl rfl rfl ⟨rfl, rfl, trivial⟩ Tryz.call53 pre_nil rfl hw) (fun _ _ => ?_)
        refine r0' rfl rfl rfl rfl (stf (d_mv rfl rfl) ⟨rfl, rfl, trivial⟩) ?_
        refine r0' rfl rfl rfl rfl (stf (d_ex rfl rfl rfl) ⟨rfl, rfl, trivial⟩) ?_
        refine r0' rfl rfl rfl rfl (stf (d_ex rfl rfl rfl) ⟨rfl, rfl, trivial⟩) ?_
        refine r0' rfl rfl rfl rfl (stf (d_ex rfl rfl rfl) ⟨rfl, rfl, trivial⟩) ?_
        refine r1' rfl rfl (t_stw (i := 97) rfl rfl rfl rfl rfl (by decide) rfl Tryz.sizeOf28 rfl rfl ⟨(one_rfl rfl), (one_rfl rfl), trivial⟩ rfl hw hoff_5) (fun _ _ => ?_)
        refine r1' rfl rfl (t_stw (i := 98) rfl rfl rfl rfl rfl (by decide) rfl Tryz.sizeOf28 rfl rfl ⟨(one_rfl rfl), (one_rfl rfl), trivial⟩ rfl hw hoff_7) (fun _ _ => ?_)
        refine r3' rfl rfl (t_det (d_as rfl rfl) rfl rfl) (fun _ _ => ?_)
        refine r_fin ?_
        refine a_done (by kernel_rfl) ?_
        exact x_jn (_, _) trivial ⟨rfl, rfl, rfl, rfl, rfl, rfl, rfl, rfl, trivial⟩ ⟨rfl, rfl, rfl, rfl, rfl, rfl, rfl, rfl, trivial⟩
      ·refine aact' rfl rfl (t_allocf (i := 98) rfl rfl rfl Tryz.zeroValue28 rfl rfl hw ⟨rfl, rfl, trivial⟩) (fun b_9 hoff_8 => ?_)
       refine a_br2 (n := 8) 14 19 (by kernel_rfl) ?_ ?_
       ·refine aact' rfl rfl (t_call (n := 5) (wide_quo _ _ (hb1 _) (hu.sz _) hyz) rfl rfl rfl ⟨rfl, rfl, trivial⟩ Tryz.call53 pre_nil rfl hw) (fun _ _ => ?_)
        refine a_lin' (n := 0) [(15, 0), (16, 0), (17, 0), (18, 0), (19, 1), (21, 1), (22, 1), (23, 3)] (by kernel_rfl) ?_
        refine r0' rfl rfl rfl rfl (stf (d_mv rfl rfl) ⟨rfl, rfl, trivial⟩) ?_
        refine r0' rfl rfl rfl rfl (stf (d_ex rfl rfl rfl) ⟨rfl, rfl, trivial⟩) ?_
        refine r0' rfl rfl rfl rfl (stf (d_ex rfl rfl rfl) ⟨rfl, rfl, trivial⟩) ?_
        refine r0' rfl rfl rfl rfl (stf (d_ex rfl rfl rfl) ⟨rfl, rfl, trivial⟩) ?_
        refine r1' rfl rfl (t_allocf (i := 97) rfl rfl rfl Tryz.zeroValue28 rfl rfl hw ⟨rfl, rfl, trivial⟩) (fun b_10 hoff_9 => ?_)
        refine r1' rfl rfl (t_stw (i := 97) rfl rfl rfl rfl rfl (by decide) rfl Tryz.sizeOf28 rfl rfl ⟨(one_rfl rfl), (one_rfl rfl), trivial⟩ rfl hw hoff_9) (fun _ _ => ?_)
        refine r1' rfl rfl (t_stw (i := 98) rfl rfl rfl rfl rfl (by decide) rfl Tryz.sizeOf28 rfl rfl ⟨(one_rfl rfl), (one_rfl rfl), trivial⟩ rfl hw hoff_8) (fun _ _ => ?_)
        refine r3' rfl rfl (t_det (d_as rfl rfl) rfl rfl) (fun _ _ => ?_)
        refine r_fin ?_
        refine a_done (by kernel_rfl) ?_
        exact x_jn (_, _) trivial ⟨rfl, rfl, rfl, rfl, rfl, rfl, rfl, rfl, trivial⟩ ⟨rfl, rfl, rfl, rfl, rfl, rfl, rfl, rfl, trivial⟩
       ·refine aact' rfl rfl (t_allocf (i := 97) rfl rfl rfl Tryz.zeroValue28 rfl rfl hw ⟨rfl, rfl, trivial⟩) (fun b_11 hoff_10 => ?_)
        refine a_lin' (n := 0) [(14, 1), (15, 0), (16, 0), (17, 0), (18, 0), (21, 1), (22, 1), (23, 3)] (by kernel_rfl) ?_
        refine r1' rfl rfl (t_call (n := 5) (wide_quo _ _ (hb1 _) (hu.sz _) hyz) rfl rfl rfl ⟨rfl, rfl, trivial⟩ Tryz.call53 pre_nil rfl hw) (fun _ _ => ?_)
        refine r0' rfl rfl rfl rfl (stf (d_mv rfl rfl) ⟨rfl, rfl, trivial⟩) ?_
        refine r0' rfl rfl rfl rfl (stf (d_ex rfl rfl rfl) ⟨rfl, rfl, trivial⟩) ?_
        refine r0' rfl rfl rfl rfl (stf (d_ex rfl rfl rfl) ⟨rfl, rfl, trivial⟩) ?_
        refine r0' rfl rfl rfl rfl (stf (d_ex rfl rfl rfl) ⟨rfl, rfl, trivial⟩) ?_
        refine r1' rfl rfl (t_stw (i := 97) rfl rfl rfl rfl rfl (by decide) rfl Tryz.sizeOf28 rfl rfl ⟨(one_rfl rfl), (one_rfl rfl), trivial⟩ rfl hw hoff_10) (fun _ _ => ?_)
        refine r1' rfl rfl (t_stw (i := 98) rfl rfl rfl rfl rfl (by decide) rfl Tryz.sizeOf28 rfl rfl ⟨(one_rfl rfl), (one_rfl rfl), trivial⟩ rfl hw hoff_8) (fun _ _ => ?_)
        refine r3' rfl rfl (t_det (d_as rfl rfl) rfl rfl) (fun _ _ => ?_)
        refine r_fin ?_
        refine a_done (by kernel_rfl) ?_
        exact x_jn (_, _) trivial ⟨rfl, rfl, rfl, rfl, rfl, rfl, rfl, rfl, trivial⟩ ⟨rfl, rfl, rfl, rfl, rfl, rfl, rfl, rfl, trivial⟩
     ·rintro ⟨b7, b8⟩ -
      simp only [List.cons_append, List.nil_append]
      refine e_seq (e_seq (e_reg (mv rfl rfl (dt (d_neq rfl rfl rfl) rfl ?_))))
      refine l_nil (x_then (e_cond rfl (fun h349 => ?_) (fun h349 => ?_)))
      ·exfalso; exact h349 rfl
      ·refine e_skip ?_
       refine x_then (e_seq (e_seq (e_reg (dt (d_lb2 (i := 98) rfl rfl rfl Tryz.isAgg28 Tryz.sizeOf28 rfl rfl) rfl ?_))))
       refine tt (t_call (n := 5) (wide_sign _ (clip_bl _)) rfl rfl rfl ⟨rfl, trivial⟩ Tryz.call80 pre_nil rfl hw) rfl (fun _ _ => ?_)
       refine dt (d_neq rfl rfl rfl) rfl ?_
       refine l_nil (x_then (e_cond rfl (fun h352 => ?_) (fun h352 => ?_)))
       ·have hne : ¬ dexact xs ys (xs.length - ys.length - j) := fun he => h352 (by rw [clip_mod hyz (hu.sz _), (dexact_j (by omega)).1 he]; rfl)
        refine e_seq (e_reg (as_ rfl rfl (as_ rfl rfl (l_nil (x_then (e_ret (x_ret ?_)))))))
        refine x_br ?_
        refine x_ret ?_
        refine x_ret ?_
        refine x_br ?_
        refine x_ret ?_
        have hp : ¬ pdv xs ys := fun h => by rcases h with h | h; (exact hnx h); (exact hne (h.2.1 _ (by omega)))
        exact x_end (.inl rfl) hsc _ _ (fun a w hs => res2 hs Tryz.results67 rfl rfl) (by rw [if_neg hp]) trivial rfl (give_none (if_neg hp) give_nil)
       ·have hde : dexact xs ys (xs.length - ys.length - j) := (dexact_j (by omega)).2 (by have h0 := Decidable.byContradiction h352; rw [clip_mod hyz (hu.sz _)] at h0; exact Int.sign_eq_zero_iff_zero.1 h0)
        obtain ⟨hb2, hb3, hb4⟩ := hb5 hde
        refine e_imp (s_eqp 97 (q := box b7 28 (wc (dq ys (dsteps xs ys j) (xs.length - ys.length - j)))) (by rw [clip_ok hb2]) rfl rfl) ?_
        refine e_skip ?_
        refine x_then (e_seq (e_reg (mv rfl rfl (mv rfl rfl (dt (d_lb2 (i := 97) rfl rfl rfl Tryz.isAgg28 Tryz.sizeOf28 rfl rfl) rfl ?_)))))
        refine dt (d_ixa (ii := 5) (i := (xs.length - ys.length - j)) rfl rfl rfl rfl (rd_osl pV) Tryz.underlying23 Tryz.sizeOf28 (by omega) (by omega)) rfl ?_
        refine tt (t_ste (i := 5) (enc := wv) _ rfl rfl rfl rfl rfl rfl (by decide) pV (by omega) rfl hw) rfl (fun _ _ => ?_)
        refine l_nil (x_then (e_seq (e_reg (mv rfl rfl (dt (d_len rfl rfl (i := 2) rfl rd_slp Tryz.underlying23) rfl ?_)))))
        refine mv rfl rfl (l_nil (x_then (e_block (e_lp [(1, _), (8, _), (9, _), (10, _), (11, _), (12, _), (78, _), (79, _)] [(0, _), (97, _), (98, _), (5, _), (1, _), (2, _), (3, _)] (fun (i : Nat) => [(80, .int .i64 (i : Int))]) (fun (i : Nat) => [(4, osl 2 28 wv v (dsub ys (dsteps xs ys j) (dq ys (dsteps xs ys j) (xs.length - ys.length - j)) (xs.length - ys.length - j) i))]) (fun (i : Nat) => (i ≤ ys.length)) (fun (i : Nat) => ys.length - i) 0 (by first | omega | (dsimp only <;> omega)) ⟨rfl, rfl, rfl, rfl, rfl, rfl, rfl, rfl, rfl, trivial⟩ ⟨by rw [← dsub_zero]; rfl, rfl, rfl, rfl, rfl, rfl, rfl, rfl, trivial⟩ ?_))))
        rintro i hi
        simp only [List.cons_append, List.nil_append]
        have hg2 : i < ys.length → (dsub ys (dsteps xs ys j) (dq ys (dsteps xs ys j) (xs.length - ys.length - j)) (xs.length - ys.length - j) i).getD ((xs.length - ys.length - j) + i) 0 = cf (dsteps xs ys j) ((xs.length - ys.length - j) + i) := fun h => dsub_get (by omega)
        have hl2 := length_dsub ys (dsteps xs ys j) (dq ys (dsteps xs ys j) (xs.length - ys.length - j)) (xs.length - ys.length - j) i
        refine e_seq (e_reg (dt (d_lss rfl rfl rfl) rfl ?_))
        refine l_nil (x_then (e_seq (e_cond rfl (fun h356 => ?_) (fun h356 => ?_))))
        ·refine e_skip ?_
         refine x_then (e_seq (e_block (e_seq (e_reg (mv rfl rfl (dt (d_ixa (ii := 2) rfl rfl rfl rfl rd_slp Tryz.underlying23 Tryz.sizeOf28 rfl (by first | omega | (simp only [List.length_set]; omega))) rfl ?_))))))
         refine dt (d_lde (ii := 2) 0 rfl rfl rfl rd_slp pV (by first | omega | (simp only [List.length_set]; omega))) rfl ?_
         refine tt (t_alloc (i := 6) rfl rfl rfl Tryz.zeroValue28 rfl rfl hw) rfl (fun b_12 _ => ?_)
         refine as_ rfl rfl (tt (t_stw (i := 6) rfl rfl rfl rfl rfl (by decide) rfl Tryz.sizeOf28 rfl rfl ⟨(one_rfl rfl), (one_rfl rfl), trivial⟩ rfl hw trivial) rfl (fun _ _ => ?_))
         refine l_nil (x_then (e_dreg (fun x => x = b) [(0, 0), (1, 0), (2, 0), (3, 0), (4, 0), (5, 0), (6, 0), (7, 0), (8, 0), (9, 0), (10, 0), (11, 0), (12, 1), (13, 1), (14, 0), (15, 3)] (by kernel_rfl) ?_ ?_))
         ·kernel_rfl
         refine r0' rfl rfl rfl rfl (st1 3 rfl (d_mv rfl rfl)) ?_
         refine r0' rfl rfl rfl rfl (st1 3 rfl (d_mv rfl rfl)) ?_
         refine r0' rfl rfl rfl rfl (st1 3 rfl (d_mv rfl rfl)) ?_
         refine r0' rfl rfl rfl rfl (st1 3 rfl (d_add rfl rfl rfl ⟨by omega, by omega⟩)) ?_
         refine r0' rfl rfl rfl rfl (st1 3 rfl (d_mv rfl rfl)) ?_
         refine r0' rfl rfl rfl rfl (st1 3 rfl (d_mv rfl rfl)) ?_
         refine r0' rfl rfl rfl rfl (st1 3 rfl (d_mv rfl rfl)) ?_
         refine r0' rfl rfl rfl rfl (st1 3 rfl (d_add rfl rfl rfl ⟨by omega, by omega⟩)) ?_
         refine r0' rfl rfl rfl rfl (st1 3 rfl (d_ixa (ii := 4) (i := ((xs.length - ys.length - j) + i)) rfl rfl rfl rfl (rd_osl pV) Tryz.underlying23 Tryz.sizeOf28 (by omega) (by omega))) ?_
         refine r0' rfl rfl rfl rfl (st1 3 rfl (d_lde (ii := 4) 0 rfl rfl rfl (rd_osl pV) pV (by omega))) ?_
         refine r0' rfl rfl rfl rfl (st1 3 rfl (d_lb2 (i := 97) rfl rfl rfl Tryz.isAgg28 Tryz.sizeOf28 rfl rfl)) ?_
         refine r0' rfl rfl rfl rfl (st1 3 rfl (d_lb2 (i := 6) rfl rfl rfl Tryz.isAgg28 Tryz.sizeOf28 rfl rfl)) ?_
         refine r1' rfl rfl (t_callb (n := 6) (i := 3) (dk_mul _ _ _ hb2 (hu.sz _) (hb3 _)) rfl rfl rfl ⟨rfl, rfl, rfl, trivial⟩ Tryz.call114 rfl (by decide) pre_nil rfl hw rfl) (fun _ _ => ?_)
         refine r1' rfl rfl (t_callb (n := 6) (i := 3) (dk_sub _ _ _ (by rw [hg2 (by omega)]; exact hb1 _) (hb3 _) (by rw [hg2 (by omega)]; exact hb4 _ _)) rfl rfl rfl ⟨rfl, rfl, rfl, trivial⟩ Tryz.call119 rfl (by decide) pre_nil rfl hw rfl) (fun _ _ => ?_)
         refine r0' rfl rfl rfl rfl (st1 3 rfl (d_ixa (ii := 4) (i := ((xs.length - ys.length - j) + i)) rfl rfl rfl rfl (rd_osl pV) Tryz.underlying23 Tryz.sizeOf28 (by omega) (by omega))) ?_
         refine r3' rfl rfl (t_ste (i := 4) (enc := wv) _ rfl rfl rfl rfl rfl rfl (by decide) pV (by omega) rfl hw) (fun _ _ => ?_)
         refine r_end ?_
         refine x_bn ?_
         refine x_then (e_reg (dt (d_add rfl rfl rfl ⟨by omega, by omega⟩) rfl ?_))
         refine mv rfl rfl (l_nil ?_)
         exact x_rnd (i + 1) (by first | omega | (dsimp only <;> omega)) (by first | omega | (dsimp only <;> omega)) ⟨rfl, rfl, rfl, rfl, rfl, rfl, rfl, rfl, rfl, trivial⟩ ⟨by rw [← dsub_set (by omega), ← hg2 (by omega)]; rfl, rfl, rfl, rfl, rfl, rfl, rfl, rfl, trivial⟩
        ·refine e_exit ?_
         refine x_exit (x_exit (x_be ?_))
         refine x_bn ?_
         refine x_then (e_reg (mv rfl rfl (dt (d_sub rfl rfl rfl ⟨by omega, by omega⟩) rfl ?_)))
         refine as_ rfl rfl (l_nil ?_)
         obtain rfl : i = ys.length := by omega
         exact x_rnd (j + 1) ⟨by first | omega | (dsimp only <;> omega), fun k h1 h2 => by rcases Nat.lt_or_ge (xs.length - ys.length) (k + j) with h3 | h3; (exact hx k h3 h2); (rw [show k = xs.length - ys.length - j by omega]; exact hde)⟩ (by first | omega | (dsimp only <;> omega)) ⟨by rw [show (xs.length : Int) - (ys.length : Int) - ((j + 1 : Nat) : Int) = (xs.length : Int) - (ys.length : Int) - (j : Int) - 1 by omega]; rfl, rfl, rfl, rfl, rfl, trivial⟩ ⟨by rfl, by rw [← dout_set (by omega)]; rfl, rfl, rfl, rfl, rfl, trivial⟩
    ·refine e_exit ?_
     refine x_exit (x_exit (x_be ?_))
     refine x_then (e_seq (e_seq ?_))
     obtain rfl : j = xs.length - ys.length + 1 := by omega
     have hall : ∀ k, k ≤ xs.length - ys.length → dexact xs ys k := fun k hk => hx k (by omega) hk
     refine e_imp (s_pub 4 rfl rfl pV) ?_
     refine e_reg (dt (d_fa rfl rfl Tryz.underlying146 rfl Tryz.sizeOf144 rfl rfl) rfl ?_)
     refine dt (d_fa rfl rfl Tryz.underlying144 rfl Tryz.sizeOf29 rfl rfl) rfl ?_
     refine dt (d_lb (i := 3) rfl rfl rfl Tryz.isAgg29 rfl) rfl ?_
     refine dt (d_eql rfl rfl rfl) rfl ?_
     refine mv rfl rfl (l_split (d := 105) rfl (fun s360 => ?_) (fun s360 => ?_))
     ·refine gdt (d_mv rfl rfl) rfl rfl rfl rfl ?_
      refine gtt (t_call (n := 7) (poly_trim _ _ (sz_dlast hF hall)) rfl rfl rfl ⟨rfl, trivial⟩ Tryz.call120 (pre_same 4 rfl rfl rfl pre_nil) rfl hw) rfl rfl rfl rfl (fun _ _ => ?_)
      refine gdt (d_len rfl rfl (i := 7) rfl rd_slp Tryz.underlying23) rfl rfl rfl rfl ?_
      refine gdt (d_gtr rfl rfl rfl) rfl rfl rfl rfl ?_
      refine dt (d_pickt rfl rfl rfl) rfl ?_
      refine l_nil (x_then (e_cond rfl (fun h360 => ?_) (fun h360 => ?_)))
      ·refine e_seq (e_reg (as_ rfl rfl (as_ rfl rfl (l_nil (x_then (e_ret (x_ret ?_)))))))
       have hp : ¬ pdv xs ys := fun h => by rcases h with h | h; (exact hnx h); (rw [h.2.2] at h360; simp at h360)
       exact x_end (.inl rfl) hsc _ _ (fun a w hs => res2 hs Tryz.results67 rfl rfl) (by rw [if_neg hp]) trivial rfl (give_none (if_neg hp) give_nil)
      ·refine e_skip ?_
       refine x_then (e_seq (e_imp (s_pub 5 rfl rfl pV) ?_))
       refine e_reg (mv rfl rfl (tt (t_callb (n := 8) (i := 3) (d_done_b _ _ _ (sz_pquo hF hall _)) rfl rfl rfl ⟨rfl, rfl, trivial⟩ Tryz.call115 rfl (by decide) (pre_same 5 rfl rfl rfl pre_nil) rfl hw trivial) rfl (fun _ _ => ?_)))
       refine dt (d_ex rfl rfl rfl) rfl ?_
       refine dt (d_ex rfl rfl rfl) rfl ?_
       refine as_ rfl rfl (as_ rfl rfl (l_nil (x_then (e_ret ?_))))
       have hp : pdv xs ys := .inr ⟨hge, hall, List.eq_nil_of_length_eq_zero (by omega)⟩
       exact x_end (.inl rfl) hsc _ _ (fun a w hs => res2 hs Tryz.results67 rfl rfl) (by rw [if_pos hp] <;> rfl) trivial rfl (give_samee 8 rfl rfl rfl (by rw [if_pos hp, pquoz_eq hnx, ← dout_all] <;> rfl) give_nil)
     ·exfalso; exact s360 rfl
theorem poly_gcd (v u : Value) (xs ys : List Int) (hv : Vp xs) (hu : Vp ys) (F : Nat) (hg : ¬ gfull xs ys) (hok : eok F (gA xs ys) (gB xs ys)) : Cal Tryz.prog 66 #[v, u] [slp 2 wv v xs, slp 2 wv u ys] true (G := Value) (fun r => True) (fun r => .tuple #[r, .int .i64 0]) (fun r => [slp 2 wv r (pgcd F xs ys)]) := by
 refine cal_in Tryz.func66 rfl Tryz.ntmps66 rfl ⟨rfl, rfl, trivial⟩ ?_
 intro w0 sc hw hsc
 simp only [enumEnv, enumPre]
 have hlen := hv.len
 have hlen2 := hu.len
 have hm1 := msz_le hv.sz
 have hm2 := msz_le hu.sz
 have hpx := length_pprim xs
 have hpy := length_pprim ys
 have hN2 : (max xs.length ys.length + 2) * (max xs.length ys.length + 2) ≤ 27 * 27 := Nat.mul_le_mul (by omega) (by omega)
 have hN3 : (max xs.length ys.length + 2) * (max xs.length ys.length + 2) * (max (msz xs) (msz ys) + 8) ≤ 27 * 27 * 65544 := Nat.mul_le_mul hN2 (by omega)
 have hN4 : (max (xs.length : Int) (ys.length : Int) + 2) * (max (xs.length : Int) (ys.length : Int) + 2) = (((max xs.length ys.length + 2) * (max xs.length ys.length + 2) : Nat) : Int) := by rw [Int.natCast_mul, show (((max xs.length ys.length + 2) : Nat) : Int) = (max (xs.length : Int) (ys.length : Int) + 2) by omega]
 have hN5 : (max (xs.length : Int) (ys.length : Int) + 2) * (max (xs.length : Int) (ys.length : Int) + 2) * (max (msz xs : Int) (msz ys : Int) + 8) = (((max xs.length ys.length + 2) * (max xs.length ys.length + 2) * (max (msz xs) (msz ys) + 8) : Nat) : Int) := by rw [hN4, Int.natCast_mul ((max xs.length ys.length + 2) * (max xs.length ys.length + 2)), show ((max (msz xs) (msz ys) + 8 : Nat) : Int) = max (msz xs : Int) (msz ys : Int) + 8 by omega]
 refine e_seq (e_reg (as_ rfl rfl (as_ rfl rfl (l_nil (x_then (e_seq (e_seq (e_reg (mv rfl rfl (tt (t_call (n := 2) (poly_valid_ok _ _ (by assumption)) rfl rfl rfl ⟨rfl, trivial⟩ Tryz.call56 (pre_same 1 rfl rfl rfl pre_nil) rfl hw) rfl (fun _ _ => ?_)))))))))))
 refine dt (d_notb rfl rfl) rfl ?_
 refine mv rfl rfl (gdt (d_mv rfl rfl) rfl rfl rfl rfl ?_)
 refine gtt (t_call (n := 2) (poly_valid_ok _ _ (by assumption)) rfl rfl rfl ⟨rfl, trivial⟩ Tryz.call56 (pre_same 2 rfl rfl rfl pre_nil) rfl hw) rfl rfl rfl rfl (fun _ _ => ?_)
 refine gdt (d_notb rfl rfl) rfl rfl rfl rfl ?_
 refine dt (d_pickf rfl rfl rfl) rfl ?_
 refine l_nil (x_then (e_condf rfl ?_))
 refine e_skip ?_
 refine x_then (e_seq (e_seq (e_reg (mv rfl rfl (dt (d_len rfl rfl (i := 1) rfl rd_slp Tryz.underlying23) rfl ?_)))))
 refine mv rfl rfl (dt (d_len rfl rfl (i := 2) rfl rd_slp Tryz.underlying23) rfl ?_)
 refine dt (d_max rfl rfl rfl) rfl ?_
 refine dt (d_add rfl rfl rfl ⟨by omega, by omega⟩) rfl ?_
 refine as_ rfl rfl (l_nil (x_then (e_jn [(0, _), (1, _)] [(0, _), (1, _), (2, _)] (fun (_ : Unit) => [(46, .bool (decide (gfull xs ys)))]) (fun (_ : Unit) => []) (fun (_ : Unit) => True) ⟨rfl, rfl, trivial⟩ ⟨rfl, rfl, rfl, trivial⟩ ?_ ?_)))
 ·refine e_reg (mv rfl rfl (dt (d_len rfl rfl (i := 1) rfl rd_slp Tryz.underlying23) rfl ?_))
  refine dt (d_gtr rfl rfl rfl) rfl ?_
  refine mv rfl rfl (l_split (d := 29) rfl (fun s371 => ?_) (fun s371 => ?_))
  ·refine gdt (d_mv rfl rfl) rfl rfl rfl rfl ?_
   refine gdt (d_len rfl rfl (i := 2) rfl rd_slp Tryz.underlying23) rfl rfl rfl rfl ?_
   refine gdt (d_gtr rfl rfl rfl) rfl rfl rfl rfl ?_
   refine dt (d_pickt rfl rfl rfl) rfl ?_
   refine mv rfl rfl (l_split (d := 34) rfl (fun s371_2 => ?_) (fun s371_2 => ?_))
   ·refine gdt (d_mv rfl rfl) rfl rfl rfl rfl ?_
    refine gdt (d_mv rfl rfl) rfl rfl rfl rfl ?_
    refine gdt (d_mul rfl rfl rfl (by rw [hN4]; exact ⟨by omega, by omega⟩)) rfl rfl rfl rfl ?_
    refine gdt (d_mv rfl rfl) rfl rfl rfl rfl ?_
    refine gtt (t_call (n := 2) (poly_size _ _ (by first | exact hv.sz | exact hu.sz)) rfl rfl rfl ⟨rfl, trivial⟩ Tryz.call110 (pre_same 1 rfl rfl rfl pre_nil) rfl hw) rfl rfl rfl rfl (fun _ _ => ?_)
    refine gdt (d_mv rfl rfl) rfl rfl rfl rfl ?_
    refine gtt (t_call (n := 2) (poly_size _ _ (by first | exact hv.sz | exact hu.sz)) rfl rfl rfl ⟨rfl, trivial⟩ Tryz.call110 (pre_same 2 rfl rfl rfl pre_nil) rfl hw) rfl rfl rfl rfl (fun _ _ => ?_)
    refine gdt (d_max rfl rfl rfl) rfl rfl rfl rfl ?_
    refine gdt (d_add rfl rfl rfl ⟨by omega, by omega⟩) rfl rfl rfl rfl ?_
    refine gdt (d_mul rfl rfl rfl (by rw [hN5]; exact ⟨by omega, by omega⟩)) rfl rfl rfl rfl ?_
    refine gdt (d_gtr rfl rfl rfl) rfl rfl rfl rfl ?_
    refine dt (d_pickt rfl rfl rfl) rfl ?_
    refine l_nil ?_
    exact x_jn () trivial ⟨by first | (rw [hN5]; exact congrArg some (congrArg Value.bool (decide_eq_decide.2 ⟨fun h => ⟨by omega, by omega, by omega⟩, fun h => by have := h.2.2; omega⟩))) | exact congrArg some (congrArg Value.bool (decide_eq_false (fun h => by have h1 := h.1; have h2 := h.2.1; omega)).symm), rfl, rfl, trivial⟩ ⟨rfl, rfl, rfl, trivial⟩
   ·refine gsk rfl rfl rfl rfl rfl (gsk rfl rfl rfl rfl rfl (gsk rfl rfl rfl rfl rfl (gsk rfl rfl rfl rfl rfl (gsk rfl rfl rfl rfl rfl (gsk rfl rfl rfl rfl rfl (gsk rfl rfl rfl rfl rfl (gsk rfl rfl rfl rfl rfl (gsk rfl rfl rfl rfl rfl (gsk rfl rfl rfl rfl rfl (gsk rfl rfl rfl rfl rfl (dt (d_pickf rfl rfl rfl) rfl ?_)))))))))))
    refine l_nil ?_
    exact x_jn () trivial ⟨by first | (rw [hN5]; exact congrArg some (congrArg Value.bool (decide_eq_decide.2 ⟨fun h => ⟨by omega, by omega, by omega⟩, fun h => by have := h.2.2; omega⟩))) | exact congrArg some (congrArg Value.bool (decide_eq_false (fun h => by have h1 := h.1; have h2 := h.2.1; omega)).symm), rfl, rfl, trivial⟩ ⟨rfl, rfl, rfl, trivial⟩
  ·refine gsk rfl rfl rfl rfl rfl (gsk rfl rfl rfl rfl rfl (gsk rfl rfl rfl rfl rfl (dt (d_pickf rfl rfl rfl) rfl ?_)))
   refine mv rfl rfl (gsk rfl rfl rfl rfl rfl (gsk rfl rfl rfl rfl rfl (gsk rfl rfl rfl rfl rfl (gsk rfl rfl rfl rfl rfl (gsk rfl rfl rfl rfl rfl (gsk rfl rfl rfl rfl rfl (gsk rfl rfl rfl rfl rfl (gsk rfl rfl rfl rfl rfl (gsk rfl rfl rfl rfl rfl (gsk rfl rfl rfl rfl rfl (gsk rfl rfl rfl rfl rfl (dt (d_pickf rfl rfl rfl) rfl ?_))))))))))))
   refine l_nil ?_
   exact x_jn () trivial ⟨by first | (rw [hN5]; exact congrArg some (congrArg Value.bool (decide_eq_decide.2 ⟨fun h => ⟨by omega, by omega, by omega⟩, fun h => by have := h.2.2; omega⟩))) | exact congrArg some (congrArg Value.bool (decide_eq_false (fun h => by have h1 := h.1; have h2 := h.2.1; omega)).symm), rfl, rfl, trivial⟩ ⟨rfl, rfl, rfl, trivial⟩
 ·rintro _ -
  simp only [List.cons_append, List.nil_append]
  refine e_cond rfl (fun h371 => ?_) (fun h371 => ?_)
  ·exfalso; exact hg h371
  ·refine e_skip ?_
   refine x_then (e_seq (e_reg (mv rfl rfl (tt (t_call (n := 3) (poly_primitive _ _ hv) rfl rfl rfl ⟨rfl, trivial⟩ Tryz.call68 (pre_same 1 rfl rfl rfl pre_nil) rfl hw) rfl (fun _ _ => ?_)))))
   refine mv rfl rfl (dt (d_ex rfl rfl rfl) rfl ?_)
   refine dt (d_ex rfl rfl rfl) rfl ?_
   refine as_ rfl rfl (as_ rfl rfl (l_nil (x_then (e_seq (e_seq (e_reg (mv rfl rfl (dt (d_neq rfl rfl rfl) rfl ?_))))))))
   refine l_nil (x_then (e_cond rfl (fun h375 => ?_) (fun h375 => ?_)))
   ·exfalso; exact h375 rfl
   ·refine e_skip ?_
    refine x_then (e_seq (e_reg (mv rfl rfl (tt (t_call (n := 4) (poly_primitive _ _ hu) rfl rfl rfl ⟨rfl, trivial⟩ Tryz.call68 (pre_same 2 rfl rfl rfl pre_nil) rfl hw) rfl (fun _ _ => ?_)))))
    refine mv rfl rfl (dt (d_ex rfl rfl rfl) rfl ?_)
    refine dt (d_ex rfl rfl rfl) rfl ?_
    refine as_ rfl rfl (as_ rfl rfl (l_nil (x_then (e_seq (e_seq (e_reg (mv rfl rfl (dt (d_neq rfl rfl rfl) rfl ?_))))))))
    refine l_nil (x_then (e_cond rfl (fun h379 => ?_) (fun h379 => ?_)))
    ·exfalso; exact h379 rfl
    ·refine e_skip ?_
     refine x_then (e_jn [] [(0, _), (1, _), (2, _), (3, _), (4, _)] (fun (q : Value × Value) => [(7, q.1), (9, q.2)]) (fun (q : Value × Value) => [(80, slp 2 wv q.1 (gA xs ys)), (81, slp 2 wv q.2 (gB xs ys))]) (fun (q : Value × Value) => True) trivial ⟨rfl, rfl, rfl, rfl, rfl, trivial⟩ ?_ ?_)
     ·refine e_seq (e_reg (mv rfl rfl (dt (d_len rfl rfl (i := 3) rfl rd_slp Tryz.underlying23) rfl ?_)))
      refine mv rfl rfl (dt (d_len rfl rfl (i := 4) rfl rd_slp Tryz.underlying23) rfl ?_)
      refine dt (d_lss rfl rfl rfl) rfl ?_
      refine l_nil (x_then (e_cond rfl (fun h382 => ?_) (fun h382 => ?_)))
      ·refine e_reg (mv rfl rfl (mv rfl rfl (as_ rfl rfl (as_ rfl rfl (l_nil (x_imp (s_dup 4 80 rfl rfl rfl) ?_))))))
       refine x_imp (s_dup 3 81 rfl rfl rfl) ?_
       exact x_jn (_, _) trivial ⟨rfl, rfl, trivial⟩ ⟨by unfold gA; first | rw [if_pos (by omega)]; rfl | rw [if_neg (by omega)]; rfl, by unfold gB; first | rw [if_pos (by omega)]; rfl | rw [if_neg (by omega)]; rfl, rfl, rfl, rfl, rfl, rfl, trivial⟩
      ·refine e_skip ?_
       refine x_imp (s_dup 3 80 rfl rfl rfl) ?_
       refine x_imp (s_dup 4 81 rfl rfl rfl) ?_
       exact x_jn (_, _) trivial ⟨rfl, rfl, trivial⟩ ⟨by unfold gA; first | rw [if_pos (by omega)]; rfl | rw [if_neg (by omega)]; rfl, by unfold gB; first | rw [if_pos (by omega)]; rfl | rw [if_neg (by omega)]; rfl, rfl, rfl, rfl, rfl, rfl, trivial⟩
     ·rintro ⟨va, vb⟩ -
      simp only [List.cons_append, List.nil_append]
      refine e_seq (e_block (e_lp [] [(0, _), (1, _), (2, _), (3, _), (4, _)] (fun (q : Value × Value × List Int × List Int × Nat) => [(7, q.1), (9, q.2.1)]) (fun (q : Value × Value × List Int × List Int × Nat) => [(80, slp 2 wv q.1 q.2.2.1), (81, slp 2 wv q.2.1 q.2.2.2.1)]) (fun (q : Value × Value × List Int × List Int × Nat) => (Vp q.2.2.1) ∧ (Vp q.2.2.2.1) ∧ (eok q.2.2.2.2 q.2.2.1 q.2.2.2.1) ∧ (eu q.2.2.2.2 q.2.2.1 q.2.2.2.1 = eu F (gA xs ys) (gB xs ys))) (fun (q : Value × Value × List Int × List Int × Nat) => q.2.2.2.2) (va, vb, gA xs ys, gB xs ys, F) ⟨vp_gA hv hu, vp_gB hv hu, hok, rfl⟩ ⟨rfl, rfl, trivial⟩ ⟨rfl, rfl, rfl, rfl, rfl, rfl, rfl, trivial⟩ ?_))
      rintro ⟨va, vb, a, b, f⟩ ⟨hva, hvb, hok0, heu⟩
      dsimp only at hva hvb hok0 heu
      simp only [List.cons_append, List.nil_append]
      refine e_seq (e_seq (e_reg (mv rfl rfl (dt (d_len rfl rfl (i := 81) rfl rd_slp Tryz.underlying23) rfl ?_))))
      refine dt (d_gtr rfl rfl rfl) rfl ?_
      refine l_nil (x_then (e_cond rfl (fun h385 => ?_) (fun h385 => ?_)))
      ·have hbn : b ≠ [] := fun e => by rw [e] at h385; simp at h385
       obtain ⟨f1, rfl, hde, hok1, heu1⟩ := eok_step hok0 hbn
       refine e_skip ?_
       refine x_then (e_block (e_seq (e_reg (mv rfl rfl (mv rfl rfl (tt (t_call (n := 5) (poly_rest _ _ _ _ hva hvb hde) rfl rfl rfl ⟨rfl, rfl, trivial⟩ Tryz.call116 (pre_same 80 rfl rfl rfl (pre_same 81 rfl rfl rfl pre_nil)) rfl hw) rfl (fun _ _ => ?_)))))))
       refine mv rfl rfl (dt (d_ex rfl rfl rfl) rfl ?_)
       refine dt (d_ex rfl rfl rfl) rfl ?_
       refine as_ rfl rfl (as_ rfl rfl (l_nil (x_then (e_seq (e_seq (e_reg (mv rfl rfl (dt (d_neq rfl rfl rfl) rfl ?_))))))))
       refine l_nil (x_then (e_cond rfl (fun h387 => ?_) (fun h387 => ?_)))
       ·exfalso; exact h387 rfl
       ·refine e_skip ?_
        refine x_then (e_seq (e_seq (e_reg (mv rfl rfl (tt (t_call (n := 6) (poly_primitive _ _ (vp_prest hva hde)) rfl rfl rfl ⟨rfl, trivial⟩ Tryz.call68 (pre_same 5 rfl rfl rfl pre_nil) rfl hw) rfl (fun _ _ => ?_))))))
        refine mv rfl rfl (dt (d_ex rfl rfl rfl) rfl ?_)
        refine dt (d_ex rfl rfl rfl) rfl ?_
        refine as_ rfl rfl (as_ rfl rfl (l_nil (x_then (e_seq (e_reg (mv rfl rfl (dt (d_neq rfl rfl rfl) rfl ?_)))))))
        refine l_nil (x_then (e_cond rfl (fun h390 => ?_) (fun h390 => ?_)))
        ·exfalso; exact h390 rfl
        ·refine e_skip ?_
         refine x_then (e_reg (mv rfl rfl (mv rfl rfl (as_ rfl rfl (as_ rfl rfl (l_nil (x_bn ?_)))))))
         refine x_imp (s_dup 81 80 rfl rfl rfl) ?_
         refine x_imp (s_dup 6 81 rfl rfl rfl) ?_
         exact x_rnd (_, _, b, pprim (prest a b), f1) ⟨hvb, vp_pprim (vp_prest hva hde), hok1, by rw [← heu1]; exact heu⟩ (Nat.lt_succ_self f1) ⟨rfl, rfl, trivial⟩ ⟨rfl, rfl, rfl, rfl, rfl, rfl, rfl, trivial⟩
      ·obtain rfl : b = [] := List.eq_nil_of_length_eq_zero (by omega)
       rw [eu_nil] at heu
       have hal := hva.len
       refine e_exit ?_
       refine x_exit (x_exit (x_be ?_))
       refine x_then (e_seq (e_seq (e_reg (mv rfl rfl (dt (d_len rfl rfl (i := 80) rfl rd_slp Tryz.underlying23) rfl ?_)))))
       refine dt (d_gtr rfl rfl rfl) rfl ?_
       refine mv rfl rfl (l_split (d := 95) rfl (fun s395 => ?_) (fun s395 => ?_))
       ·refine gdt (d_mv rfl rfl) rfl rfl rfl rfl ?_
        refine gdt (d_mv rfl rfl) rfl rfl rfl rfl ?_
        refine gdt (d_len rfl rfl (i := 80) rfl rd_slp Tryz.underlying23) rfl rfl rfl rfl ?_
        refine gdt (d_sub rfl rfl rfl ⟨by omega, by omega⟩) rfl rfl rfl rfl ?_
        refine gdt (d_ixa (ii := 80) (i := (a.length - 1)) rfl rfl rfl rfl rd_slp Tryz.underlying23 Tryz.sizeOf28 (by omega) (by omega)) rfl rfl rfl rfl ?_
        refine gdt (d_lde (ii := 80) 0 rfl rfl rfl rd_slp pV (by omega)) rfl rfl rfl rfl ?_
        refine gtt (t_call (n := 6) (wide_sign _ (hva.sz _)) rfl rfl rfl ⟨rfl, trivial⟩ Tryz.call80 pre_nil rfl hw) rfl rfl rfl rfl (fun _ _ => ?_)
        refine gdt (d_lss rfl rfl rfl) rfl rfl rfl rfl ?_
        refine dt (d_pickt rfl rfl rfl) rfl ?_
        refine l_nil (x_then (e_cond rfl (fun h395 => ?_) (fun h395 => ?_)))
        ·have hneg : a.length ≠ 0 ∧ cf a (a.length - 1) < 0 := ⟨by omega, (sign_neg_iff _).1 h395⟩
         refine e_seq (e_reg (mv rfl rfl (tt (t_call (n := 6) (wide_of_int (-1) (by first | assumption | exact ⟨by omega, by omega⟩)) rfl rfl rfl ⟨rfl, trivial⟩ Tryz.call55 pre_nil rfl hw) rfl (fun _ _ => ?_))))
         refine tt (t_call (n := 7) (poly_scale _ _ (-1) hva (by decide) (bl_negm hva.sz)) rfl rfl rfl ⟨rfl, rfl, trivial⟩ Tryz.call113 (pre_same 80 rfl rfl rfl pre_nil) rfl hw) rfl (fun _ _ => ?_)
         refine dt (d_ex rfl rfl rfl) rfl ?_
         refine dt (d_ex rfl rfl rfl) rfl ?_
         refine as_ rfl rfl (as_ rfl rfl (l_nil (x_then (e_ret (x_ret ?_)))))
         exact x_end (.inl rfl) hsc _ _ (fun a w hs => res2 hs Tryz.results66 rfl rfl) rfl trivial rfl (give_samee 7 rfl rfl rfl (by unfold pgcd gnorm; rw [← heu, if_pos hneg] <;> rfl) give_nil)
        ·refine e_skip ?_
         refine x_then (e_seq (e_reg (mv rfl rfl (as_ rfl rfl (as_ rfl rfl (l_nil (x_then (e_ret ?_))))))))
         have hneg : ¬ (a.length ≠ 0 ∧ cf a (a.length - 1) < 0) := fun h => by first | omega | exact absurd ((sign_neg_iff (cf a (a.length - 1))).2 h.2) (by assumption)
         exact x_end (.inl rfl) hsc _ _ (fun a w hs => res2 hs Tryz.results66 rfl rfl) rfl trivial rfl (give_samee 80 rfl rfl rfl (by unfold pgcd gnorm; rw [← heu, if_neg hneg] <;> rfl) give_nil)
       ·refine gsk rfl rfl rfl rfl rfl (gsk rfl rfl rfl rfl rfl (gsk rfl rfl rfl rfl rfl (gsk rfl rfl rfl rfl rfl (gsk rfl rfl rfl rfl rfl (gsk rfl rfl rfl rfl rfl (gsk rfl rfl rfl rfl rfl (gsk rfl rfl rfl rfl rfl (dt (d_pickf rfl rfl rfl) rfl ?_))))))))
        refine l_nil (x_then (e_condf rfl ?_))
        refine e_skip ?_
        refine x_then (e_seq (e_reg (mv rfl rfl (as_ rfl rfl (as_ rfl rfl (l_nil (x_then (e_ret ?_))))))))
        have hneg : ¬ (a.length ≠ 0 ∧ cf a (a.length - 1) < 0) := fun h => by first | omega | exact absurd ((sign_neg_iff (cf a (a.length - 1))).2 h.2) (by assumption)
        exact x_end (.inl rfl) hsc _ _ (fun a w hs => res2 hs Tryz.results66 rfl rfl) rfl trivial rfl (give_samee 80 rfl rfl rfl (by unfold pgcd gnorm; rw [← heu, if_neg hneg] <;> rfl) give_nil)
end Go.Sky

