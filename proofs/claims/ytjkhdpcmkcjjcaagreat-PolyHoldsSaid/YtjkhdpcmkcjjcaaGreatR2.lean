/- the law
   Proved without conditions of its own: each theorem bears its own. -/
import Derived.Test.YtjkhdpcmkcjjcaaGreatD
import Derived.Test.YtjkhdpcmkcjjcaaGreatB
import Derived.Test.YtjkhdpcmkcjjcaaGreatC
import Derived.Test.YtjkhdpcmkcjjcaaGreatK
import Derived.Test.YtjkhdpcmkcjjcaaGreatR1
set_option linter.all false
namespace Go.Sky
open Go.Proofs
set_option maxRecDepth 20000
set_option maxHeartbeats 4000000
set_option linter.unusedVariables false
set_option linter.unusedSimpArgs false
set_option maxHeartbeats 4000000 in
theorem law_holds_ok (v u : Value) (xs ys : List Int) (hv : Vp xs) (hu : Vp ys) (x y : Int) (hx : bl x.natAbs ≤ 65536) (hy : bl y.natAbs ≤ 65536) (hy0 : 0 < y) : Cal Tryz.prog 8 #[v, u, .agg #[.bool (decide (x < 0)), .string (bstr x.natAbs), .bool (decide (y < 0)), .string (bstr y.natAbs)]] [slp 2 wv v xs, slp 2 wv u ys] false (G := Unit) (fun _ => True) (fun _ => .bool true) (fun _ => []) := by
 refine cal_in Tryz.func8 rfl Tryz.ntmps8 rfl ⟨rfl, rfl, trivial⟩ ?_
 intro w0 sc hw hsc
 simp only [enumEnv, enumPre]
 refine e_imp (s_nil 999 2 25 wv) ?_
 refine e_imp (s_pub 999 rfl rfl pV) ?_
 refine e_seq ?_
 have hx25 := hv.len
 have hy25 := hu.len
 refine e_reg (tt (t_box (i := 3) rfl rfl rfl rfl rfl rfl hw) rfl (fun b _ => ?_))
 refine as_ rfl rfl (l_nil (x_then (e_seq (e_seq (e_ex (f_slice 1 rfl rd_slp) (fun sx hssx => ?_))))))
 subst hssx
 refine e_ex (f_slice 2 rfl rd_slp) (fun sx_2 hssx_2 => ?_)
 subst hssx_2
 refine e_reg (mv rfl rfl (mv rfl rfl (tt (t_bsg (i := 4) (ivs := [(0, _), (1, _)]) (enc := encS) [(sx, xs), (sx_2, ys)] rfl rfl rfl ⟨rfl, rfl, rfl, rfl, trivial⟩ Tryz.underlying68 Tryz.ti23 rfl rfl rfl rfl rfl rfl pS.cells rfl rfl hw) rfl (fun v _ => ?_))))
 refine l_imp (s_many_nil qZ 900) ?_
 refine l_imp (s_many_snoc (q := qZ) (z := (sx, xs)) 900 1 901 rfl rfl rfl rfl rfl) ?_
 refine l_imp (s_many_snoc (q := qZ) (z := (sx_2, ys)) 901 2 902 rfl rfl rfl rfl rfl) ?_
 refine l_imp (s_pub 4 rfl rfl pS) ?_
 refine l_imp (s_mkdeep 4 902 984 rfl rfl rfl rfl) ?_
 refine tt (t_call (n := 4) (law_short_z _ _) rfl rfl rfl ⟨rfl, trivial⟩ Tryz.call10 (pre_same 984 rfl rfl rfl pre_nil) rfl hw) rfl (fun _ _ => ?_)
 refine dt (d_notb rfl rfl) rfl ?_
 refine mv rfl rfl (l_splitb (d := 37) rfl (fun s265 => ?_) (fun s265 => ?_))
 ·refine gsk rfl rfl rfl rfl rfl (gsk rfl rfl rfl rfl rfl (gsk rfl rfl rfl rfl rfl (dt (d_pickt rfl rfl rfl) rfl ?_)))
  refine mv rfl rfl (gsk rfl rfl rfl rfl rfl (gsk rfl rfl rfl rfl rfl (gsk rfl rfl rfl rfl rfl (dt (d_pickt rfl rfl rfl) rfl ?_))))
  refine mv rfl rfl (gsk rfl rfl rfl rfl rfl (gsk rfl rfl rfl rfl rfl (gsk rfl rfl rfl rfl rfl (gsk rfl rfl rfl rfl rfl (gsk rfl rfl rfl rfl rfl (dt (d_pickt rfl rfl rfl) rfl ?_))))))
  refine mv rfl rfl (gsk rfl rfl rfl rfl rfl (gsk rfl rfl rfl rfl rfl (gsk rfl rfl rfl rfl rfl (dt (d_pickt rfl rfl rfl) rfl ?_))))
  refine mv rfl rfl (gsk rfl rfl rfl rfl rfl (gsk rfl rfl rfl rfl rfl (gsk rfl rfl rfl rfl rfl (gsk rfl rfl rfl rfl rfl (gsk rfl rfl rfl rfl rfl (dt (d_pickt rfl rfl rfl) rfl ?_))))))
  refine mv rfl rfl (gsk rfl rfl rfl rfl rfl (gsk rfl rfl rfl rfl rfl (gsk rfl rfl rfl rfl rfl (gsk rfl rfl rfl rfl rfl (gsk rfl rfl rfl rfl rfl (dt (d_pickt rfl rfl rfl) rfl ?_))))))
  refine l_nil (x_then (e_condt rfl ?_))
  refine e_seq (e_reg (tt (t_call (n := 4) (law_known) rfl rfl rfl trivial Tryz.call11 pre_nil rfl hw) rfl (fun _ _ => ?_)))
  refine as_ rfl rfl (l_nil (x_then (e_ret (x_ret ?_))))
  exact x_end (.inl rfl) hsc () _ (fun a w hs => res1 hs Tryz.results8 rfl) rfl trivial rfl give_nil
 ·refine gdt (d_mv rfl rfl) rfl rfl rfl rfl ?_
  refine gdt (d_len rfl rfl (i := 1) rfl rd_slp Tryz.underlying23) rfl rfl rfl rfl ?_
  refine gdt (d_gtr rfl rfl rfl) rfl rfl rfl rfl ?_
  refine dt (d_pickf rfl rfl rfl) rfl ?_
  refine mv rfl rfl (l_split (d := 42) rfl (fun s265_2 => ?_) (fun s265_2 => ?_))
  ·refine gsk rfl rfl rfl rfl rfl (gsk rfl rfl rfl rfl rfl (gsk rfl rfl rfl rfl rfl (dt (d_pickt rfl rfl rfl) rfl ?_)))
   refine mv rfl rfl (gsk rfl rfl rfl rfl rfl (gsk rfl rfl rfl rfl rfl (gsk rfl rfl rfl rfl rfl (gsk rfl rfl rfl rfl rfl (gsk rfl rfl rfl rfl rfl (dt (d_pickt rfl rfl rfl) rfl ?_))))))
   refine mv rfl rfl (gsk rfl rfl rfl rfl rfl (gsk rfl rfl rfl rfl rfl (gsk rfl rfl rfl rfl rfl (dt (d_pickt rfl rfl rfl) rfl ?_))))
   refine mv rfl rfl (gsk rfl rfl rfl rfl rfl (gsk rfl rfl rfl rfl rfl (gsk rfl rfl rfl rfl rfl (gsk rfl rfl rfl rfl rfl (gsk rfl rfl rfl rfl rfl (dt (d_pickt rfl rfl rfl) rfl ?_))))))
   refine mv rfl rfl (gsk rfl rfl rfl rfl rfl (gsk rfl rfl rfl rfl rfl (gsk rfl rfl rfl rfl rfl (gsk rfl rfl rfl rfl rfl (gsk rfl rfl rfl rfl rfl (dt (d_pickt rfl rfl rfl) rfl ?_))))))
   refine l_nil (x_then (e_condt rfl ?_))
   refine e_seq (e_reg (tt (t_call (n := 4) (law_known) rfl rfl rfl trivial Tryz.call11 pre_nil rfl hw) rfl (fun _ _ => ?_)))
   refine as_ rfl rfl (l_nil (x_then (e_ret (x_ret ?_))))
   exact x_end (.inl rfl) hsc () _ (fun a w hs => res1 hs Tryz.results8 rfl) rfl trivial rfl give_nil
  ·refine gdt (d_mv rfl rfl) rfl rfl rfl rfl ?_
   refine gdt (d_len rfl rfl (i := 2) rfl rd_slp Tryz.underlying23) rfl rfl rfl rfl ?_
   refine gdt (d_gtr rfl rfl rfl) rfl rfl rfl rfl ?_
   refine dt (d_pickf rfl rfl rfl) rfl ?_
   refine mv rfl rfl (l_split (d := 47) rfl (fun s265_3 => ?_) (fun s265_3 => ?_))
   ·refine gsk rfl rfl rfl rfl rfl (gsk rfl rfl rfl rfl rfl (gsk rfl rfl rfl rfl rfl (gsk rfl rfl rfl rfl rfl (gsk rfl rfl rfl rfl rfl (dt (d_pickt rfl rfl rfl) rfl ?_)))))
    refine mv rfl rfl (gsk rfl rfl rfl rfl rfl (gsk rfl rfl rfl rfl rfl (gsk rfl rfl rfl rfl rfl (dt (d_pickt rfl rfl rfl) rfl ?_))))
    refine mv rfl rfl (gsk rfl rfl rfl rfl rfl (gsk rfl rfl rfl rfl rfl (gsk rfl rfl rfl rfl rfl (gsk rfl rfl rfl rfl rfl (gsk rfl rfl rfl rfl rfl (dt (d_pickt rfl rfl rfl) rfl ?_))))))
    refine mv rfl rfl (gsk rfl rfl rfl rfl rfl (gsk rfl rfl rfl rfl rfl (gsk rfl rfl rfl rfl rfl (gsk rfl rfl rfl rfl rfl (gsk rfl rfl rfl rfl rfl (dt (d_pickt rfl rfl rfl) rfl ?_))))))
    refine l_nil (x_then (e_condt rfl ?_))
    refine e_seq (e_reg (tt (t_call (n := 4) (law_known) rfl rfl rfl trivial Tryz.call11 pre_nil rfl hw) rfl (fun _ _ => ?_)))
    refine as_ rfl rfl (l_nil (x_then (e_ret (x_ret ?_))))
    exact x_end (.inl rfl) hsc () _ (fun a w hs => res1 hs Tryz.results8 rfl) rfl trivial rfl give_nil
   ·refine gdt (d_mv rfl rfl) rfl rfl rfl rfl ?_
    refine gdt (d_mv rfl rfl) rfl rfl rfl rfl ?_
    refine gtt (t_bsg (i := 5) (ivs := [(0, _), (1, _)]) (enc := encS) [(sx, xs), (sx_2, ys)] rfl rfl rfl ⟨rfl, rfl, rfl, rfl, trivial⟩ Tryz.underlying68 Tryz.ti23 rfl rfl rfl rfl rfl rfl pS.cells rfl rfl hw) rfl rfl rfl rfl (fun v_2 _ => ?_)
    refine l_imp (s_many_nil qZ 900) ?_
    refine l_imp (s_many_snoc (q := qZ) (z := (sx, xs)) 900 1 901 rfl rfl rfl rfl rfl) ?_
    refine l_imp (s_many_snoc (q := qZ) (z := (sx_2, ys)) 901 2 902 rfl rfl rfl rfl rfl) ?_
    refine l_imp (s_pub 5 rfl rfl pS) ?_
    refine l_imp (s_mkdeep 5 902 1000 rfl rfl rfl rfl) ?_
    refine gtt (t_call (n := 5) (law_valid_z _ _ (fun z hz => by cases hz with | head => exact hv | tail _ hz => cases hz with | head => exact hu | tail _ h => cases h)) rfl rfl rfl ⟨rfl, trivial⟩ Tryz.call16 (pre_same 1000 rfl rfl rfl pre_nil) rfl hw) rfl rfl rfl rfl (fun _ _ => ?_)
    refine gdt (det_is (r' := .bool false) (d_notb rfl rfl) (congrArg Value.bool (by simp))) rfl rfl rfl rfl ?_
    refine dt (d_pickf rfl rfl rfl) rfl ?_
    refine mv rfl rfl (gdt (d_lb4 (i := 3) rfl rfl rfl Tryz.isAgg49 Tryz.sizeOf49 rfl rfl rfl rfl) rfl rfl rfl rfl ?_)
    refine gtt (t_call (n := 5) (r_validratio _ _ _ _) rfl rfl rfl ⟨rfl, trivial⟩ Tryz.call29 pre_nil rfl hw) rfl rfl rfl rfl (fun _ _ => ?_)
    refine gdt (det_is (r' := .bool false) (d_notb rfl rfl) (congrArg Value.bool (by rw [okR_wv hx hy hy0]; rfl))) rfl rfl rfl rfl ?_
    refine dt (d_pickf rfl rfl rfl) rfl ?_
    refine mv rfl rfl (gdt (d_fa rfl rfl Tryz.underlying49 rfl Tryz.sizeOf25 rfl rfl) rfl rfl rfl rfl ?_)
    refine gdt (d_fa rfl rfl Tryz.underlying25 rfl Tryz.sizeOf9 rfl rfl) rfl rfl rfl rfl ?_
    refine gdt (d_lb (i := 3) rfl rfl rfl Tryz.isAgg9 rfl) rfl rfl rfl rfl ?_
    refine gdt (d_lens rfl rfl Tryz.underlying9) rfl rfl rfl rfl ?_
    refine gdt (d_gtr rfl rfl rfl) rfl rfl rfl rfl ?_
    refine dt (d_pickf rfl rfl rfl) rfl ?_
    refine mv rfl rfl (l_split (d := 66) rfl (fun s265_4 => ?_) (fun s265_4 => ?_))
    ·refine gsk rfl rfl rfl rfl rfl (gsk rfl rfl rfl rfl rfl (gsk rfl rfl rfl rfl rfl (gsk rfl rfl rfl rfl rfl (gsk rfl rfl rfl rfl rfl (dt (d_pickt rfl rfl rfl) rfl ?_)))))
     refine l_nil (x_then (e_condt rfl ?_))
     refine e_seq (e_reg (tt (t_call (n := 5) (law_known) rfl rfl rfl trivial Tryz.call11 pre_nil rfl hw) rfl (fun _ _ => ?_)))
     refine as_ rfl rfl (l_nil (x_then (e_ret (x_ret ?_))))
     exact x_end (.inl rfl) hsc () _ (fun a w hs => res1 hs Tryz.results8 rfl) rfl trivial rfl give_nil
    ·refine gdt (d_fa rfl rfl Tryz.underlying49 rfl Tryz.sizeOf25 rfl rfl) rfl rfl rfl rfl ?_
     refine gdt (d_fa rfl rfl Tryz.underlying25 rfl Tryz.sizeOf9 rfl rfl) rfl rfl rfl rfl ?_
     refine gdt (d_lb (i := 3) rfl rfl rfl Tryz.isAgg9 rfl) rfl rfl rfl rfl ?_
     refine gdt (d_lens rfl rfl Tryz.underlying9) rfl rfl rfl rfl ?_
     refine gdt (d_gtr rfl rfl rfl) rfl rfl rfl rfl ?_
     refine dt (d_pickf rfl rfl rfl) rfl ?_
     refine l_nil (x_then (e_cond rfl (fun h265 => ?_) (fun h265 => ?_)))
     ·refine e_seq (e_reg (tt (t_call (n := 5) (law_known) rfl rfl rfl trivial Tryz.call11 pre_nil rfl hw) rfl (fun _ _ => ?_)))
      refine as_ rfl rfl (l_nil (x_then (e_ret (x_ret ?_))))
      exact x_end (.inl rfl) hsc () _ (fun a w hs => res1 hs Tryz.results8 rfl) rfl trivial rfl give_nil
     ·refine e_skip ?_
      refine x_then (e_seq (e_seq (e_reg (mv rfl rfl (mv rfl rfl (tt (t_bsg (i := 6) (ivs := [(0, _), (1, _)]) (enc := encS) [(sx, xs), (sx_2, ys)] rfl rfl rfl ⟨rfl, rfl, rfl, rfl, trivial⟩ Tryz.underlying68 Tryz.ti23 rfl rfl rfl rfl rfl rfl pS.cells rfl rfl hw) rfl (fun v_3 _ => ?_)))))))
      refine l_imp (s_many_nil qZ 900) ?_
      refine l_imp (s_many_snoc (q := qZ) (z := (sx, xs)) 900 1 901 rfl rfl rfl rfl rfl) ?_
      refine l_imp (s_many_snoc (q := qZ) (z := (sx_2, ys)) 901 2 902 rfl rfl rfl rfl rfl) ?_
      refine l_imp (s_pub 6 rfl rfl pS) ?_
      refine l_imp (s_mkdeep 6 902 1026 rfl rfl rfl rfl) ?_
      refine dt (d_len rfl rfl (i := 1026) rfl rd_deep Tryz.underlying68) rfl ?_
      refine mv rfl rfl (l_nil (x_then (e_block ?_)))
      have hll : ([(sx, xs), (sx_2, ys)] : List (SL × List Int)).length = 2 := rfl
      refine e_lp [(0, _), (1, _), (5, _), (76, _), (77, _)] [(0, _), (1, _), (2, _), (999, _), (3, _), (4, _), (984, _), (5, _), (1000, _), (6, _), (1026, _)] (fun (i : Nat) => [(78, .int .i64 (i : Int))]) (fun (i : Nat) => []) (fun (i : Nat) => (i ≤ 2) ∧ (∀ k, k < i → s8 ([(sx, xs), (sx_2, ys)].getD k Z0).2)) (fun (i : Nat) => 2 - i) 0 ⟨by first | omega | (dsimp only <;> omega), fun k hk => absurd hk (Nat.not_lt_zero _)⟩ ⟨rfl, rfl, rfl, rfl, rfl, rfl, trivial⟩ ⟨rfl, rfl, rfl, rfl, rfl, rfl, rfl, rfl, rfl, rfl, rfl, trivial⟩ ?_
      rintro i ⟨hi, ha⟩
      simp only [List.cons_append, List.nil_append]
      refine e_seq (e_reg (dt (d_lss rfl rfl rfl) rfl ?_))
      refine l_nil (x_then (e_seq (e_cond rfl (fun h268 => ?_) (fun h268 => ?_))))
      ·refine e_skip ?_
       refine x_then (e_seq (e_block (e_seq (e_reg (dt (d_ixa (ii := 1026) rfl rfl rfl rfl rd_deep Tryz.underlying68 Tryz.sizeOf23 rfl (by first | omega | (simp only [List.length_set]; omega))) rfl ?_)))))
       refine dt (d_lde (ii := 1026) Z0 rfl rfl rfl rd_deep pS (by first | omega | (simp only [List.length_set]; omega))) rfl ?_
       refine as_ rfl rfl (l_nil (x_then (e_seq (e_imp (s_deep 1026 991 ([(sx, xs), (sx_2, ys)].getD i Z0) rfl rfl (getD_mem (by omega)) rfl) ?_))))
       refine e_fact (f_len (i := 991) rfl rd_slp) (fun hlr => ?_)
       refine e_reg (mv rfl rfl (dt (d_len rfl rfl (i := 991) rfl rd_slp Tryz.underlying23) rfl ?_))
       refine mv rfl rfl (l_nil (x_then (e_block (e_lp [(0, _), (1, _), (5, _), (76, _), (77, _), (78, _), (82, _), (83, _)] [(0, _), (1, _), (2, _), (999, _), (3, _), (4, _), (984, _), (5, _), (1000, _), (6, _), (1026, _), (991, _)] (fun (j : Nat) => [(84, .int .i64 (j : Int))]) (fun (j : Nat) => []) (fun (j : Nat) => (j ≤ ([(sx, xs), (sx_2, ys)].getD i Z0).2.length) ∧ (s8 (([(sx, xs), (sx_2, ys)].getD i Z0).2.take j))) (fun (j : Nat) => ([(sx, xs), (sx_2, ys)].getD i Z0).2.length - j) 0 ⟨by first | omega | (dsimp only <;> omega), s8_zero _⟩ ⟨rfl, rfl, rfl, rfl, rfl, rfl, rfl, rfl, rfl, trivial⟩ ⟨rfl, rfl, rfl, rfl, rfl, rfl, rfl, rfl, rfl, rfl, rfl, rfl, trivial⟩ ?_))))
       rintro j ⟨hj, hb⟩
       simp only [List.cons_append, List.nil_append]
       refine e_seq (e_reg (dt (d_lss rfl rfl rfl) rfl ?_))
       refine l_nil (x_then (e_seq (e_cond rfl (fun h269 => ?_) (fun h269 => ?_))))
       ·refine e_skip ?_
        refine x_then (e_seq (e_block (e_seq (e_reg (dt (d_ixa (ii := 991) rfl rfl rfl rfl rd_slp Tryz.underlying23 Tryz.sizeOf25 rfl (by first | omega | (simp only [List.length_set]; omega))) rfl ?_)))))
        refine dt (d_lde (ii := 991) 0 rfl rfl rfl rd_slp pV (by first | omega | (simp only [List.length_set]; omega))) rfl ?_
        refine tt (t_alloc (i := 7) rfl rfl rfl Tryz.zeroValue25 rfl rfl hw) rfl (fun b_2 _ => ?_)
        refine tt (t_stw (i := 7) rfl rfl rfl rfl rfl (by decide) rfl Tryz.sizeOf25 rfl rfl ⟨(one_rfl rfl), (one_rfl rfl), trivial⟩ rfl hw trivial) rfl (fun _ _ => ?_)
        refine l_nil (x_then (e_seq (e_reg (dt (d_fa rfl rfl Tryz.underlying25 rfl Tryz.sizeOf9 rfl rfl) rfl ?_))))
        refine dt (d_lb (i := 7) rfl rfl rfl Tryz.isAgg9 rfl) rfl ?_
        refine dt (d_lens rfl rfl Tryz.underlying9) rfl ?_
        refine dt (d_gtr rfl rfl rfl) rfl ?_
        refine l_nil (x_then (e_cond rfl (fun h270 => ?_) (fun h270 => ?_)))
        ·refine e_seq (e_reg (tt (t_call (n := 7) (law_known) rfl rfl rfl trivial Tryz.call11 pre_nil rfl hw) rfl (fun _ _ => ?_)))
         refine as_ rfl rfl (l_nil (x_then (e_ret (x_br ?_))))
         refine x_ret ?_
         refine x_ret ?_
         refine x_br ?_
         refine x_br ?_
         refine x_ret ?_
         refine x_ret ?_
         refine x_br ?_
         refine x_ret ?_
         exact x_end (.inl rfl) hsc () _ (fun a w hs => res1 hs Tryz.results8 rfl) rfl trivial rfl give_nil
        ·refine e_skip ?_
         refine x_bn ?_
         refine x_then (e_reg (dt (d_add rfl rfl rfl ⟨by omega, by omega⟩) rfl ?_))
         refine mv rfl rfl (l_nil ?_)
         exact x_rnd (j + 1) ⟨by first | omega | (dsimp only <;> omega), s8_snoc (by omega) hb (by omega)⟩ (by first | omega | (dsimp only <;> omega)) ⟨rfl, rfl, rfl, rfl, rfl, rfl, rfl, rfl, rfl, trivial⟩ ⟨rfl, rfl, rfl, rfl, rfl, rfl, rfl, rfl, rfl, rfl, rfl, rfl, trivial⟩
       ·refine e_exit ?_
        refine x_exit (x_exit (x_be ?_))
        refine x_bn ?_
        refine x_then (e_reg (dt (d_add rfl rfl rfl ⟨by omega, by omega⟩) rfl ?_))
        refine mv rfl rfl (l_nil ?_)
        exact x_rnd (i + 1) ⟨by first | omega | (dsimp only <;> omega), s8_next ha hb (by omega)⟩ (by first | omega | (dsimp only <;> omega)) ⟨rfl, rfl, rfl, rfl, rfl, rfl, trivial⟩ ⟨rfl, rfl, rfl, rfl, rfl, rfl, rfl, rfl, rfl, rfl, rfl, trivial⟩
      ·refine e_exit ?_
       refine x_exit (x_exit (x_be ?_))
       refine x_then (e_seq ?_)
       obtain ⟨h8x, h8y⟩ : s8 xs ∧ s8 ys := s8_two ha (by omega)
       have hx8 : xs.length ≤ 8 := by omega
       have hy8 : ys.length ≤ 8 := by omega
       have hxs := s8_sz h8x
       have hys := s8_sz h8y
       have hmx := msz_le hxs
       have hmy := msz_le hys
       have hxb : bl x.natAbs ≤ 64 := bstr_bl (n := 8) (by omega)
       have hyb : bl y.natAbs ≤ 64 := bstr_bl (n := 8) (by omega)
       obtain ⟨hvs, hss⟩ := vp_padd hxs hys hx8 hy8
       obtain ⟨hvm, hsm⟩ := vp_pmul hxs hys hx8 hy8
       obtain ⟨hvt, hmt, hlt⟩ := sz_twice hxs hx8
       have hyx := padd_comm ys xs
       have hmm := pmul_comm ys xs
       have hM := not_mulfull hmx hmy hx8 hy8
       have hy1 : y ≠ 0 := by omega
       have hEa := ev_nf hxs hxb hyb hv.len (by omega)
       have hEb := ev_nf hys hxb hyb hu.len (by omega)
       have hEs := ev_nf hss hxb hyb hvs.len (by omega)
       have hEm := ev_nf hsm hxb hyb hvm.len (by omega)
       have hG := eok8g hv.tr hu.tr (by omega) (by omega) hx8 hy8
       have hGt := eok8g hvt.tr hu.tr hmt (by omega) hlt hy8
       have hsame : pgcd 12 (pscale xs (-2)) ys = pgcd 12 xs ys := (pgcd_sim hv.tr hvt.tr hu.tr (sim_pscale xs (by decide))).symm
       have hdv := pgcd_dv hv.tr hu.tr hG
       have hvg := vp_pgcd hv hu hG
       refine e_reg (mv rfl rfl (mv rfl rfl (tt (t_call (n := 8) (poly_add _ _ _ _ hv hu (fun i => by have h1 := bl_iadd (cf xs i) (cf ys i); have h2 := hxs i; have h3 := hys i; omega)) rfl rfl rfl ⟨rfl, rfl, trivial⟩ Tryz.call43 (pre_same 1 rfl rfl rfl (pre_same 2 rfl rfl rfl pre_nil)) rfl hw) rfl (fun _ _ => ?_))))
       refine mv rfl rfl (dt (d_ex rfl rfl rfl) rfl ?_)
       refine dt (d_ex rfl rfl rfl) rfl ?_
       refine as_ rfl rfl (as_ rfl rfl (l_nil (x_then (e_seq (e_reg (mv rfl rfl (mv rfl rfl (tt (t_call (n := 9) (poly_add _ _ _ _ hu hv (fun i => by have h1 := bl_iadd (cf ys i) (cf xs i); have h2 := hxs i; have h3 := hys i; omega)) rfl rfl rfl ⟨rfl, rfl, trivial⟩ Tryz.call43 (pre_same 2 rfl rfl rfl (pre_same 1 rfl rfl rfl pre_nil)) rfl hw) rfl (fun _ _ => ?_)))))))))
       refine mv rfl rfl (dt (d_ex rfl rfl rfl) rfl ?_)
       refine dt (d_ex rfl rfl rfl) rfl ?_
       refine as_ rfl rfl (as_ rfl rfl (l_nil (x_then (e_seq (e_reg (mv rfl rfl (mv rfl rfl (tt (t_call (n := 10) (poly_mul _ _ _ _ hv hu hM) rfl rfl rfl ⟨rfl, rfl, trivial⟩ Tryz.call45 (pre_same 1 rfl rfl rfl (pre_same 2 rfl rfl rfl pre_nil)) rfl hw) rfl (fun _ _ => ?_)))))))))
       refine mv rfl rfl (dt (d_ex rfl rfl rfl) rfl ?_)
       refine dt (d_ex rfl rfl rfl) rfl ?_
       refine as_ rfl rfl (as_ rfl rfl (l_nil (x_then (e_seq (e_reg (mv rfl rfl (mv rfl rfl (tt (t_call (n := 11) (poly_mul _ _ _ _ hu hv (mulfull_comm hM)) rfl rfl rfl ⟨rfl, rfl, trivial⟩ Tryz.call45 (pre_same 2 rfl rfl rfl (pre_same 1 rfl rfl rfl pre_nil)) rfl hw) rfl (fun _ _ => ?_)))))))))
       refine mv rfl rfl (dt (d_ex rfl rfl rfl) rfl ?_)
       refine dt (d_ex rfl rfl rfl) rfl ?_
       refine as_ rfl rfl (as_ rfl rfl (l_nil (x_then (e_seq (e_seq (e_reg (mv rfl rfl (dt (det_is (r' := .bool false) (d_neq rfl rfl rfl) (congrArg Value.bool (by decide))) rfl ?_))))))))
       refine mv rfl rfl (gdt (d_mv rfl rfl) rfl rfl rfl rfl ?_)
       refine gdt (det_is (r' := .bool false) (d_neq rfl rfl rfl) (congrArg Value.bool (by decide))) rfl rfl rfl rfl ?_
       refine dt (d_pickf rfl rfl rfl) rfl ?_
       refine mv rfl rfl (gdt (d_mv rfl rfl) rfl rfl rfl rfl ?_)
       refine gdt (det_is (r' := .bool false) (d_neq rfl rfl rfl) (congrArg Value.bool (by decide))) rfl rfl rfl rfl ?_
       refine dt (d_pickf rfl rfl rfl) rfl ?_
       refine mv rfl rfl (gdt (d_mv rfl rfl) rfl rfl rfl rfl ?_)
       refine gdt (det_is (r' := .bool false) (d_neq rfl rfl rfl) (congrArg Value.bool (by decide))) rfl rfl rfl rfl ?_
       refine dt (d_pickf rfl rfl rfl) rfl ?_
       refine mv rfl rfl (gdt (d_mv rfl rfl) rfl rfl rfl rfl ?_)
       refine gdt (d_mv rfl rfl) rfl rfl rfl rfl ?_
       refine gtt (t_call (n := 11) (r_same_ii _ _ _ _) rfl rfl rfl ⟨rfl, rfl, trivial⟩ Tryz.call49 (pre_same 8 rfl rfl rfl (pre_same 9 rfl rfl rfl pre_nil)) rfl hw) rfl rfl rfl rfl (fun _ _ => ?_)
       refine gdt (det_is (r' := .bool false) (d_not rfl rfl) (congrArg Value.bool (by simp [hyx]))) rfl rfl rfl rfl ?_
       refine dt (d_pickf rfl rfl rfl) rfl ?_
       refine mv rfl rfl (gdt (d_mv rfl rfl) rfl rfl rfl rfl ?_)
       refine gdt (d_mv rfl rfl) rfl rfl rfl rfl ?_
       refine gtt (t_call (n := 11) (r_same_ii _ _ _ _) rfl rfl rfl ⟨rfl, rfl, trivial⟩ Tryz.call49 (pre_same 10 rfl rfl rfl (pre_same 11 rfl rfl rfl pre_nil)) rfl hw) rfl rfl rfl rfl (fun _ _ => ?_)
       refine gdt (det_is (r' := .bool false) (d_not rfl rfl) (congrArg Value.bool (by simp [hmm]))) rfl rfl rfl rfl ?_
       refine dt (d_pickf rfl rfl rfl) rfl ?_
       refine l_nil (x_then (e_condf rfl ?_))
       refine e_skip ?_
       refine x_then (e_seq (e_reg (mv rfl rfl (dt (d_lb4 (i := 3) rfl rfl rfl Tryz.isAgg49 Tryz.sizeOf49 rfl rfl rfl rfl) rfl ?_))))
       refine tt (t_call (n := 11) (poly_value _ _ _ _ hv hx hy hy0 hEa) rfl rfl rfl ⟨rfl, rfl, trivial⟩ Tryz.call27 (pre_same 1 rfl rfl rfl pre_nil) rfl hw) rfl (fun _ _ => ?_)
       refine mv rfl rfl (dt (d_ex rfl rfl rfl) rfl ?_)
       refine dt (d_ex rfl rfl rfl) rfl ?_
       refine tt (t_alloc (i := 12) rfl rfl rfl Tryz.zeroValue49 rfl rfl hw) rfl (fun b_3 _ => ?_)
       refine tt (t_stw (i := 12) rfl rfl rfl rfl rfl (by decide) rfl Tryz.sizeOf49 rfl rfl ⟨(one_rfl rfl), (one_rfl rfl), (one_rfl rfl), (one_rfl rfl), trivial⟩ rfl hw trivial) rfl (fun _ _ => ?_)
       refine as_ rfl rfl (l_nil (x_then (e_seq (e_reg (mv rfl rfl (dt (d_lb4 (i := 3) rfl rfl rfl Tryz.isAgg49 Tryz.sizeOf49 rfl rfl rfl rfl) rfl ?_))))))
       refine tt (t_call (n := 12) (poly_value _ _ _ _ hu hx hy hy0 hEb) rfl rfl rfl ⟨rfl, rfl, trivial⟩ Tryz.call27 (pre_same 2 rfl rfl rfl pre_nil) rfl hw) rfl (fun _ _ => ?_)
       refine mv rfl rfl (dt (d_ex rfl rfl rfl) rfl ?_)
       refine dt (d_ex rfl rfl rfl) rfl ?_
       refine tt (t_alloc (i := 13) rfl rfl rfl Tryz.zeroValue49 rfl rfl hw) rfl (fun b_4 _ => ?_)
       refine tt (t_stw (i := 13) rfl rfl rfl rfl rfl (by decide) rfl Tryz.sizeOf49 rfl rfl ⟨(one_rfl rfl), (one_rfl rfl), (one_rfl rfl), (one_rfl rfl), trivial⟩ rfl hw trivial) rfl (fun _ _ => ?_)
       refine as_ rfl rfl (l_nil (x_then (e_seq (e_reg (mv rfl rfl (dt (d_lb4 (i := 3) rfl rfl rfl Tryz.isAgg49 Tryz.sizeOf49 rfl rfl rfl rfl) rfl ?_))))))
       refine tt (t_call (n := 13) (poly_value _ _ _ _ hvs hx hy hy0 hEs) rfl rfl rfl ⟨rfl, rfl, trivial⟩ Tryz.call27 (pre_same 8 rfl rfl rfl pre_nil) rfl hw) rfl (fun _ _ => ?_)
       refine mv rfl rfl (dt (d_ex rfl rfl rfl) rfl ?_)
       refine dt (d_ex rfl rfl rfl) rfl ?_
       refine tt (t_alloc (i := 14) rfl rfl rfl Tryz.zeroValue49 rfl rfl hw) rfl (fun b_5 _ => ?_)
       refine tt (t_stw (i := 14) rfl rfl rfl rfl rfl (by decide) rfl Tryz.sizeOf49 rfl rfl ⟨(one_rfl rfl), (one_rfl rfl), (one_rfl rfl), (one_rfl rfl), trivial⟩ rfl hw trivial) rfl (fun _ _ => ?_)
       refine as_ rfl rfl (l_nil (x_then (e_seq (e_reg (mv rfl rfl (dt (d_lb4 (i := 3) rfl rfl rfl Tryz.isAgg49 Tryz.sizeOf49 rfl rfl rfl rfl) rfl ?_))))))
       refine tt (t_call (n := 14) (poly_value _ _ _ _ hvm hx hy hy0 hEm) rfl rfl rfl ⟨rfl, rfl, trivial⟩ Tryz.call27 (pre_same 10 rfl rfl rfl pre_nil) rfl hw) rfl (fun _ _ => ?_)
       refine mv rfl rfl (dt (d_ex rfl rfl rfl) rfl ?_)
       refine dt (d_ex rfl rfl rfl) rfl ?_
       refine tt (t_alloc (i := 15) rfl rfl rfl Tryz.zeroValue49 rfl rfl hw) rfl (fun b_6 _ => ?_)
       refine tt (t_stw (i := 15) rfl rfl rfl rfl rfl (by decide) rfl Tryz.sizeOf49 rfl rfl ⟨(one_rfl rfl), (one_rfl rfl), (one_rfl rfl), (one_rfl rfl), trivial⟩ rfl hw trivial) rfl (fun _ _ => ?_)
       refine as_ rfl rfl (l_nil (x_then (e_seq (e_seq (e_reg (mv rfl rfl (dt (det_is (r' := .bool false) (d_neq rfl rfl rfl) (congrArg Value.bool (by rw [rerr_ok hEa hv]; rfl))) rfl ?_)))))))
       refine mv rfl rfl (gdt (d_mv rfl rfl) rfl rfl rfl rfl ?_)
       refine gdt (det_is (r' := .bool false) (d_neq rfl rfl rfl) (congrArg Value.bool (by rw [rerr_ok hEb hu]; rfl))) rfl rfl rfl rfl ?_
       refine dt (d_pickf rfl rfl rfl) rfl ?_
       refine mv rfl rfl (gdt (d_mv rfl rfl) rfl rfl rfl rfl ?_)
       refine gdt (det_is (r' := .bool false) (d_neq rfl rfl rfl) (congrArg Value.bool (by rw [rerr_ok hEs hvs]; rfl))) rfl rfl rfl rfl ?_
       refine dt (d_pickf rfl rfl rfl) rfl ?_
       refine mv rfl rfl (gdt (d_mv rfl rfl) rfl rfl rfl rfl ?_)
       refine gdt (det_is (r' := .bool false) (d_neq rfl rfl rfl) (congrArg Value.bool (by rw [rerr_ok hEm hvm]; rfl))) rfl rfl rfl rfl ?_
       refine dt (d_pickf rfl rfl rfl) rfl ?_
       refine mv rfl rfl (gdt (d_lb4 (i := 12) rfl rfl rfl Tryz.isAgg49 Tryz.sizeOf49 rfl rfl rfl rfl) rfl rfl rfl rfl ?_)
       refine gtt (t_call (n := 15) (r_validratio _ _ _ _) rfl rfl rfl ⟨rfl, trivial⟩ Tryz.call29 pre_nil rfl hw) rfl rfl rfl rfl (fun _ _ => ?_)
       refine gdt (det_is (r' := .bool false) (d_notb rfl rfl) (congrArg Value.bool (by rw [okR_val hEa hv hy0]; rfl))) rfl rfl rfl rfl ?_
       refine dt (d_pickf rfl rfl rfl) rfl ?_
       refine mv rfl rfl (gdt (d_lb4 (i := 13) rfl rfl rfl Tryz.isAgg49 Tryz.sizeOf49 rfl rfl rfl rfl) rfl rfl rfl rfl ?_)
       refine gtt (t_call (n := 15) (r_validratio _ _ _ _) rfl rfl rfl ⟨rfl, trivial⟩ Tryz.call29 pre_nil rfl hw) rfl rfl rfl rfl (fun _ _ => ?_)
       refine gdt (det_is (r' := .bool false) (d_notb rfl rfl) (congrArg Value.bool (by rw [okR_val hEb hu hy0]; rfl))) rfl rfl rfl rfl ?_
       refine dt (d_pickf rfl rfl rfl) rfl ?_
       refine mv rfl rfl (gdt (d_lb4 (i := 14) rfl rfl rfl Tryz.isAgg49 Tryz.sizeOf49 rfl rfl rfl rfl) rfl rfl rfl rfl ?_)
       refine gtt (t_call (n := 15) (r_validratio _ _ _ _) rfl rfl rfl ⟨rfl, trivial⟩ Tryz.call29 pre_nil rfl hw) rfl rfl rfl rfl (fun _ _ => ?_)
       refine gdt (det_is (r' := .bool false) (d_notb rfl rfl) (congrArg Value.bool (by rw [okR_val hEs hvs hy0]; rfl))) rfl rfl rfl rfl ?_
       refine dt (d_pickf rfl rfl rfl) rfl ?_
       refine mv rfl rfl (gdt (d_lb4 (i := 15) rfl rfl rfl Tryz.isAgg49 Tryz.sizeOf49 rfl rfl rfl rfl) rfl rfl rfl rfl ?_)
       refine gtt (t_call (n := 15) (r_validratio _ _ _ _) rfl rfl rfl ⟨rfl, trivial⟩ Tryz.call29 pre_nil rfl hw) rfl rfl rfl rfl (fun _ _ => ?_)
       refine gdt (det_is (r' := .bool false) (d_notb rfl rfl) (congrArg Value.bool (by rw [okR_val hEm hvm hy0]; rfl))) rfl rfl rfl rfl ?_
       refine dt (d_pickf rfl rfl rfl) rfl ?_
       refine l_nil (x_then (e_condf rfl ?_))
       refine e_skip ?_
       refine x_then (e_jn [(0, _), (1, _), (15, _), (21, _), (22, _)] [(0, _), (1, _), (2, _), (999, _), (3, _), (4, _), (984, _), (5, _), (1000, _), (6, _), (1026, _), (8, _), (9, _), (10, _), (11, _), (12, _), (13, _), (14, _), (15, _)] (fun (q : Value × Value × Value × Value × Nat × Nat) => [(23, .pointer (some ⟨q.2.2.2.2.1, 0, none⟩)), (24, .pointer (some ⟨q.2.2.2.2.2, 0, none⟩))]) (fun (q : Value × Value × Value × Value × Nat × Nat) => [(80, d9p q.1 (rnum (pev xs x y) (y ^ (xs.length - 1))).natAbs), (81, d9p q.2.1 (rden (pev xs x y) (y ^ (xs.length - 1))).natAbs), (82, d9p q.2.2.1 (rnum (pev ys x y) (y ^ (ys.length - 1))).natAbs), (83, d9p q.2.2.2.1 (rden (pev ys x y) (y ^ (ys.length - 1))).natAbs), (97, box q.2.2.2.2.1 57 #[.bool (decide ((rnum (pev xs x y) (y ^ (xs.length - 1))) < 0)), q.1, .bool (decide ((rden (pev xs x y) (y ^ (xs.length - 1))) < 0)), q.2.1]), (98, box q.2.2.2.2.2 57 #[.bool (decide ((rnum (pev ys x y) (y ^ (ys.length - 1))) < 0)), q.2.2.1, .bool (decide ((rden (pev ys x y) (y ^ (ys.length - 1))) < 0)), q.2.2.2.1])]) (fun (q : Value × Value × Value × Value × Nat × Nat) => True) ⟨rfl, rfl, rfl, rfl, rfl, trivial⟩ ⟨rfl, rfl, rfl, rfl, rfl, rfl, rfl, rfl, rfl, rfl, rfl, rfl, rfl, rfl, rfl, rfl, rfl, rfl, rfl, trivial⟩ ?_ ?_)
       ·refine e_dregf [12, 13] [7] (by kernel_rfl) ?_
        refine a_lin' (n := 6) [(0, 0), (2, 0)] (by kernel_rfl) ?_
        refine r0' rfl rfl rfl rfl (stf (d_lb4 (i := 12) rfl rfl rfl Tryz.isAgg49 Tryz.sizeOf49 rfl rfl rfl rfl) ⟨rfl, rfl, trivial⟩) ?_
        refine r0' rfl rfl rfl rfl (stf (d_lb4 (i := 13) rfl rfl rfl Tryz.isAgg49 Tryz.sizeOf49 rfl rfl rfl rfl) ⟨rfl, rfl, trivial⟩) ?_
        refine r_fin ?_
        refine a_br3 (n := 5) 1 4 5 (by kernel_rfl) ?_ ?_ ?_
        ·refine aact' rfl rfl (t_call (n := 80) (r_fromratio _ _ (by have := rnum_b hEa hv; omega) (by have := rden_b hEa hv; omega)) rfl rfl rfl ⟨rfl, trivial⟩ Tryz.call30 pre_nil rfl hw) (fun g _ => ?_)
         refine a_br3 (n := 4) 3 4 5 (by kernel_rfl) ?_ ?_ ?_
         ·refine aact' rfl rfl (t_call (n := 82) (r_fromratio _ _ (by have := rnum_b hEb hu; omega) (by have := rden_b hEb hu; omega)) rfl rfl rfl ⟨rfl, trivial⟩ Tryz.call30 pre_nil rfl hw) (fun g_2 _ => ?_)
          refine a_br2 (n := 3) 4 5 (by kernel_rfl) ?_ ?_
          ·refine aact' rfl rfl (t_allocf (i := 97) rfl rfl rfl Tryz.zeroValue57 rfl rfl hw ⟨rfl, rfl, trivial⟩) (fun b_7 hoff => ?_)
           refine a_lin' (n := 0) [(5, 1), (6, 1), (7, 3)] (by kernel_rfl) ?_
           refine r1' rfl rfl (t_allocf (i := 98) rfl rfl rfl Tryz.zeroValue57 rfl rfl hw ⟨rfl, rfl, trivial⟩) (fun b_8 hoff_2 => ?_)
           refine r1' rfl rfl (t_stw (i := 97) rfl rfl rfl rfl rfl (by decide) rfl Tryz.sizeOf57 rfl rfl ⟨(one_rfl rfl), (one_rd (i := 80) rfl rd_slp), (one_rfl rfl), (one_rd (i := 81) rfl rd_slp), trivial⟩ rfl hw hoff) (fun _ _ => ?_)
           refine r3' rfl rfl (t_stw (i := 98) rfl rfl rfl rfl rfl (by decide) rfl Tryz.sizeOf57 rfl rfl ⟨(one_rfl rfl), (one_rd (i := 82) rfl rd_slp), (one_rfl rfl), (one_rd (i := 83) rfl rd_slp), trivial⟩ rfl hw trivial) (fun _ _ => ?_)
           refine r_fin ?_
           refine a_done (by kernel_rfl) ?_
           exact x_jn (_, _, _, _, _, _) trivial ⟨rfl, rfl, rfl, rfl, rfl, rfl, rfl, trivial⟩ ⟨rfl, rfl, rfl, rfl, rfl, rfl, rfl, rfl, rfl, rfl, rfl, rfl, rfl, rfl, rfl, rfl, rfl, rfl, rfl, rfl, rfl, rfl, rfl, rfl, rfl, trivial⟩
          ·refine aact' rfl rfl (t_allocf (i := 98) rfl rfl rfl Tryz.zeroValue57 rfl rfl hw ⟨rfl, rfl, trivial⟩) (fun b_9 hoff_3 => ?_)
           refine a_lin' (n := 0) [(4, 1), (6, 1), (7, 3)] (by kernel_rfl) ?_
           refine r1' rfl rfl (t_allocf (i := 97) rfl rfl rfl Tryz.zeroValue57 rfl rfl hw ⟨rfl, rfl, trivial⟩) (fun b_10 hoff_4 => ?_)
           refine r1' rfl rfl (t_stw (i := 97) rfl rfl rfl rfl rfl (by decide) rfl Tryz.sizeOf57 rfl rfl ⟨(one_rfl rfl), (one_rd (i := 80) rfl rd_slp), (one_rfl rfl), (one_rd (i := 81) rfl rd_slp), trivial⟩ rfl hw hoff_4) (fun _ _ => ?_)
           refine r3' rfl rfl (t_stw (i := 98) rfl rfl rfl rfl rfl (by decide) rfl Tryz.sizeOf57 rfl rfl ⟨(one_rfl rfl), (one_rd (i := 82) rfl rd_slp), (one_rfl rfl), (one_rd (i := 83) rfl rd_slp), trivial⟩ rfl hw trivial) (fun _ _ => ?_)
           refine r_fin ?_
           refine a_done (by kernel_rfl) ?_
           exact x_jn (_, _, _, _, _, _) trivial ⟨rfl, rfl, rfl, rfl, rfl, rfl, rfl, trivial⟩ ⟨rfl, rfl, rfl, rfl, rfl, rfl, rfl, rfl, rfl, rfl, rfl, rfl, rfl, rfl, rfl, rfl, rfl, rfl, rfl, rfl, rfl, rfl, rfl, rfl, rfl, trivial⟩
         ·refine aact' rfl rfl (t_allocf (i := 97) rfl rfl rfl Tryz.zeroValue57 rfl rfl hw ⟨rfl, rfl, trivial⟩) (fun b_11 hoff_5 => ?_)
          refine a_br2 (n := 3) 3 5 (by kernel_rfl) ?_ ?_
          ·refine aact' rfl rfl (t_call (n := 82) (r_fromratio _ _ (by have := rnum_b hEb hu; omega) (by have := rden_b hEb hu; omega)) rfl rfl rfl ⟨rfl, trivial⟩ Tryz.call30 pre_nil rfl hw) (fun g_3 _ => ?_)
           refine a_lin' (n := 0) [(5, 1), (6, 1), (7, 3)] (by kernel_rfl) ?_
           refine r1' rfl rfl (t_allocf (i := 98) rfl rfl rfl Tryz.zeroValue57 rfl rfl hw ⟨rfl, rfl, trivial⟩) (fun b_12 hoff_6 => ?_)
           refine r1' rfl rfl (t_stw (i := 97) rfl rfl rfl rfl rfl (by decide) rfl Tryz.sizeOf57 rfl rfl ⟨(one_rfl rfl), (one_rd (i := 80) rfl rd_slp), (one_rfl rfl), (one_rd (i := 81) rfl rd_slp), trivial⟩ rfl hw hoff_5) (fun _ _ => ?_)
           refine r3' rfl rfl (t_stw (i := 98) rfl rfl rfl rfl rfl (by decide) rfl Tryz.sizeOf57 rfl rfl ⟨(one_rfl rfl), (one_rd (i := 82) rfl rd_slp), (one_rfl rfl), (one_rd (i := 83) rfl rd_slp), trivial⟩ rfl hw trivial) (fun _ _ => ?_)
           refine r_fin ?_
           refine a_done (by kernel_rfl) ?_
           exact x_jn (_, _, _, _, _, _) trivial ⟨rfl, rfl, rfl, rfl, rfl, rfl, rfl, trivial⟩ ⟨rfl, rfl, rfl, rfl, rfl, rfl, rfl, rfl, rfl, rfl, rfl, rfl, rfl, rfl, rfl, rfl, rfl, rfl, rfl, rfl, rfl, rfl, rfl, rfl, rfl, trivial⟩
          ·refine aact' rfl rfl (t_allocf (i := 98) rfl rfl rfl Tryz.zeroValue57 rfl rfl hw ⟨rfl, rfl, trivial⟩) (fun b_13 hoff_7 => ?_)
           refine a_lin' (n := 0) [(3, 1), (6, 1), (7, 3)] (by kernel_rfl) ?_
           refine r1' rfl rfl (t_call (n := 82) (r_fromratio _ _ (by have := rnum_b hEb hu; omega) (by have := rden_b hEb hu; omega)) rfl rfl rfl ⟨rfl, trivial⟩ Tryz.call30 pre_nil rfl hw) (fun g_4 _ => ?_)
           refine r1' rfl rfl (t_stw (i := 97) rfl rfl rfl rfl rfl (by decide) rfl Tryz.sizeOf57 rfl rfl ⟨(one_rfl rfl), (one_rd (i := 80) rfl rd_slp), (one_rfl rfl), (one_rd (i := 81) rfl rd_slp), trivial⟩ rfl hw hoff_5) (fun _ _ => ?_)
           refine r3' rfl rfl (t_stw (i := 98) rfl rfl rfl rfl rfl (by decide) rfl Tryz.sizeOf57 rfl rfl ⟨(one_rfl rfl), (one_rd (i := 82) rfl rd_slp), (one_rfl rfl), (one_rd (i := 83) rfl rd_slp), trivial⟩ rfl hw trivial) (fun _ _ => ?_)
           refine r_fin ?_
           refine a_done (by kernel_rfl) ?_
           exact x_jn (_, _, _, _, _, _) trivial ⟨rfl, rfl, rfl, rfl, rfl, rfl, rfl, trivial⟩ ⟨rfl, rfl, rfl, rfl, rfl, rfl, rfl, rfl, rfl, rfl, rfl, rfl, rfl, rfl, rfl, rfl, rfl, rfl, rfl, rfl, rfl, rfl, rfl, rfl, rfl, trivial⟩
         ·refine aact' rfl rfl (t_allocf (i := 98) rfl rfl rfl Tryz.zeroValue57 rfl rfl hw ⟨rfl, rfl, trivial⟩) (fun b_14 hoff_8 => ?_)
          refine a_br2 (n := 3) 3 4 (by kernel_rfl) ?_ ?_
          ·refine aact' rfl rfl (t_call (n := 82) (r_fromratio _ _ (by have := rnum_b hEb hu; omega) (by have := rden_b hEb hu; omega)) rfl rfl rfl ⟨rfl, trivial⟩ Tryz.call30 pre_nil rfl hw) (fun g_5 _ => ?_)
           refine a_lin' (n := 0) [(4, 1), (6, 1), (7, 3)] (by kernel_rfl) ?_
           refine r1' rfl rfl (t_allocf (i := 97) rfl rfl rfl Tryz.zeroValue57 rfl rfl hw ⟨rfl, rfl, trivial⟩) (fun b_15 hoff_9 => ?_)
           refine r1' rfl rfl (t_stw (i := 97) rfl rfl rfl rfl rfl (by decide) rfl Tryz.sizeOf57 rfl rfl ⟨(one_rfl rfl), (one_rd (i := 80) rfl rd_slp), (one_rfl rfl), (one_rd (i := 81) rfl rd_slp), trivial⟩ rfl hw hoff_9) (fun _ _ => ?_)
           refine r3' rfl rfl (t_stw (i := 98) rfl rfl rfl rfl rfl (by decide) rfl Tryz.sizeOf57 rfl rfl ⟨(one_rfl rfl), (one_rd (i := 82) rfl rd_slp), (one_rfl rfl), (one_rd (i := 83) rfl rd_slp), trivial⟩ rfl hw trivial) (fun _ _ => ?_)
           refine r_fin ?_
           refine a_done (by kernel_rfl) ?_
           exact x_jn (_, _, _, _, _, _) trivial ⟨rfl, rfl, rfl, rfl, rfl, rfl, rfl, trivial⟩ ⟨rfl, rfl, rfl, rfl, rfl, rfl, rfl, rfl, rfl, rfl, rfl, rfl, rfl, rfl, rfl, rfl, rfl, rfl, rfl, rfl, rfl, rfl, rfl, rfl, rfl, trivial⟩
          ·refine aact' rfl rfl (t_allocf (i := 97) rfl rfl rfl Tryz.zeroValue57 rfl rfl hw ⟨rfl, rfl, trivial⟩) (fun b_16 hoff_10 => ?_)
           refine a_lin' (n := 0) [(3, 1), (6, 1), (7, 3)] (by kernel_rfl) ?_
           refine r1' rfl rfl (t_call (n := 82) (r_fromratio _ _ (by have := rnum_b hEb hu; omega) (by have := rden_b hEb hu; omega)) rfl rfl rfl ⟨rfl, trivial⟩ Tryz.call30 pre_nil rfl hw) (fun g_6 _ => ?_)
           refine r1' rfl rfl (t_stw (i := 97) rfl rfl rfl rfl rfl (by decide) rfl Tryz.sizeOf57 rfl rfl ⟨(one_rfl rfl), (one_rd (i := 80) rfl rd_slp), (one_rfl rfl), (one_rd (i := 81) rfl rd_slp), trivial⟩ rfl hw hoff_10) (fun _ _ => ?_)
           refine r3' rfl rfl (t_stw (i := 98) rfl rfl rfl rfl rfl (by decide) rfl Tryz.sizeOf57 rfl rfl ⟨(one_rfl rfl), (one_rd (i := 82) rfl rd_slp), (one_rfl rfl), (one_rd (i := 83) rfl rd_slp), trivial⟩ rfl hw trivial) (fun _ _ => ?_)
           refine r_fin ?_
           refine a_done (by kernel_rfl) ?_
           exact x_jn (_, _, _, _, _, _) trivial ⟨rfl, rfl, rfl, rfl, rfl, rfl, rfl, trivial⟩ ⟨rfl, rfl, rfl, rfl, rfl, rfl, rfl, rfl, rfl, rfl, rfl, rfl, rfl, rfl, rfl, rfl, rfl, rfl, rfl, rfl, rfl, rfl, rfl, rfl, rfl, trivial⟩
        ·refine aact' rfl rfl (t_allocf (i := 97) rfl rfl rfl Tryz.zeroValue57 rfl rfl hw ⟨rfl, rfl, trivial⟩) (fun b_17 hoff_11 => ?_)
         refine a_br2 (n := 4) 1 5 (by kernel_rfl) ?_ ?_
         ·refine aact' rfl rfl (t_call (n := 80) (r_fromratio _ _ (by have := rnum_b hEa hv; omega) (by have := rden_b hEa hv; omega)) rfl rfl rfl ⟨rfl, trivial⟩ Tryz.call30 pre_nil rfl hw) (fun g_7 _ => ?_)
          refine a_br2 (n := 3) 3 5 (by kernel_rfl) ?_ ?_
          ·refine aact' rfl rfl (t_call (n := 82) (r_fromratio _ _ (by have := rnum_b hEb hu; omega) (by have := rden_b hEb hu; omega)) rfl rfl rfl ⟨rfl, trivial⟩ Tryz.call30 pre_nil rfl hw) (fun g_8 _ => ?_)
           refine a_lin' (n := 0) [(5, 1), (6, 1), (7, 3)] (by kernel_rfl) ?_
           refine r1' rfl rfl (t_allocf (i := 98) rfl rfl rfl Tryz.zeroValue57 rfl rfl hw ⟨rfl, rfl, trivial⟩) (fun b_18 hoff_12 => ?_)
           refine r1' rfl rfl (t_stw (i := 97) rfl rfl rfl rfl rfl (by decide) rfl Tryz.sizeOf57 rfl rfl ⟨(one_rfl rfl), (one_rd (i := 80) rfl rd_slp), (one_rfl rfl), (one_rd (i := 81) rfl rd_slp), trivial⟩ rfl hw hoff_11) (fun _ _ => ?_)
           refine r3' rfl rfl (t_stw (i := 98) rfl rfl rfl rfl rfl (by decide) rfl Tryz.sizeOf57 rfl rfl ⟨(one_rfl rfl), (one_rd (i := 82) rfl rd_slp), (one_rfl rfl), (one_rd (i := 83) rfl rd_slp), trivial⟩ rfl hw trivial) (fun _ _ => ?_)
           refine r_fin ?_
           refine a_done (by kernel_rfl) ?_
           exact x_jn (_, _, _, _, _, _) trivial ⟨rfl, rfl, rfl, rfl, rfl, rfl, rfl, trivial⟩ ⟨rfl, rfl, rfl, rfl, rfl, rfl, rfl, rfl, rfl, rfl, rfl, rfl, rfl, rfl, rfl, rfl, rfl, rfl, rfl, rfl, rfl, rfl, rfl, rfl, rfl, trivial⟩
          ·refine aact' rfl rfl (t_allocf (i := 98) rfl rfl rfl Tryz.zeroValue57 rfl rfl hw ⟨rfl, rfl, trivial⟩) (fun b_19 hoff_13 => ?_)
           refine a_lin' (n := 0) [(3, 1), (6, 1), (7, 3)] (by kernel_rfl) ?_
           refine r1' rfl rfl (t_call (n := 82) (r_fromratio _ _ (by have := rnum_b hEb hu; omega) (by have := rden_b hEb hu; omega)) rfl rfl rfl ⟨rfl, trivial⟩ Tryz.call30 pre_nil rfl hw) (fun g_9 _ => ?_)
           refine r1' rfl rfl (t_stw (i := 97) rfl rfl rfl rfl rfl (by decide) rfl Tryz.sizeOf57 rfl rfl ⟨(one_rfl rfl), (one_rd (i := 80) rfl rd_slp), (one_rfl rfl), (one_rd (i := 81) rfl rd_slp), trivial⟩ rfl hw hoff_11) (fun _ _ => ?_)
           refine r3' rfl rfl (t_stw (i := 98) rfl rfl rfl rfl rfl (by decide) rfl Tryz.sizeOf57 rfl rfl ⟨(one_rfl rfl), (one_rd (i := 82) rfl rd_slp), (one_rfl rfl), (one_rd (i := 83) rfl rd_slp), trivial⟩ rfl hw trivial) (fun _ _ => ?_)
           refine r_fin ?_
           refine a_done (by kernel_rfl) ?_
           exact x_jn (_, _, _, _, _, _) trivial ⟨rfl, rfl, rfl, rfl, rfl, rfl, rfl, trivial⟩ ⟨rfl, rfl, rfl, rfl, rfl, rfl, rfl, rfl, rfl, rfl, rfl, rfl, rfl, rfl, rfl, rfl, rfl, rfl, rfl, rfl, rfl, rfl, rfl, rfl, rfl, trivial⟩
         ·refine aact' rfl rfl (t_allocf (i := 98) rfl rfl rfl Tryz.zeroValue57 rfl rfl hw ⟨rfl, rfl, trivial⟩) (fun b_20 hoff_14 => ?_)
          refine a_lin' (n := 0) [(1, 1), (3, 1), (6, 1), (7, 3)] (by kernel_rfl) ?_
          refine r1' rfl rfl (t_call (n := 80) (r_fromratio _ _ (by have := rnum_b hEa hv; omega) (by have := rden_b hEa hv; omega)) rfl rfl rfl ⟨rfl, trivial⟩ Tryz.call30 pre_nil rfl hw) (fun g_10 _ => ?_)
          refine r1' rfl rfl (t_call (n := 82) (r_fromratio _ _ (by have := rnum_b hEb hu; omega) (by have := rden_b hEb hu; omega)) rfl rfl rfl ⟨rfl, trivial⟩ Tryz.call30 pre_nil rfl hw) (fun g_11 _ => ?_)
          refine r1' rfl rfl (t_stw (i := 97) rfl rfl rfl rfl rfl (by decide) rfl Tryz.sizeOf57 rfl rfl ⟨(one_rfl rfl), (one_rd (i := 80) rfl rd_slp), (one_rfl rfl), (one_rd (i := 81) rfl rd_slp), trivial⟩ rfl hw hoff_11) (fun _ _ => ?_)
          refine r3' rfl rfl (t_stw (i := 98) rfl rfl rfl rfl rfl (by decide) rfl Tryz.sizeOf57 rfl rfl ⟨(one_rfl rfl), (one_rd (i := 82) rfl rd_slp), (one_rfl rfl), (one_rd (i := 83) rfl rd_slp), trivial⟩ rfl hw trivial) (fun _ _ => ?_)
          refine r_fin ?_
          refine a_done (by kernel_rfl) ?_
          exact x_jn (_, _, _, _, _, _) trivial ⟨rfl, rfl, rfl, rfl, rfl, rfl, rfl, trivial⟩ ⟨rfl, rfl, rfl, rfl, rfl, rfl, rfl, rfl, rfl, rfl, rfl, rfl, rfl, rfl, rfl, rfl, rfl, rfl, rfl, rfl, rfl, rfl, rfl, rfl, rfl, trivial⟩
        ·refine aact' rfl rfl (t_allocf (i := 98) rfl rfl rfl Tryz.zeroValue57 rfl rfl hw ⟨rfl, rfl, trivial⟩) (fun b_21 hoff_15 => ?_)
         refine a_br2 (n := 4) 1 4 (by kernel_rfl) ?_ ?_
         ·refine aact' rfl rfl (t_call (n := 80) (r_fromratio _ _ (by have := rnum_b hEa hv; omega) (by have := rden_b hEa hv; omega)) rfl rfl rfl ⟨rfl, trivial⟩ Tryz.call30 pre_nil rfl hw) (fun g_12 _ => ?_)
          refine a_br2 (n := 3) 3 4 (by kernel_rfl) ?_ ?_
          ·refine aact' rfl rfl (t_call (n := 82) (r_fromratio _ _ (by have := rnum_b hEb hu; omega) (by have := rden_b hEb hu; omega)) rfl rfl rfl ⟨rfl, trivial⟩ Tryz.call30 pre_nil rfl hw) (fun g_13 _ => ?_)
           refine a_lin' (n := 0) [(4, 1), (6, 1), (7, 3)] (by kernel_rfl) ?_
           refine r1' rfl rfl (t_allocf (i := 97) rfl rfl rfl Tryz.zeroValue57 rfl rfl hw ⟨rfl, rfl, trivial⟩) (fun b_22 hoff_16 => ?_)
           refine r1' rfl rfl (t_stw (i := 97) rfl rfl rfl rfl rfl (by decide) rfl Tryz.sizeOf57 rfl rfl ⟨(one_rfl rfl), (one_rd (i := 80) rfl rd_slp), (one_rfl rfl), (one_rd (i := 81) rfl rd_slp), trivial⟩ rfl hw hoff_16) (fun _ _ => ?_)
           refine r3' rfl rfl (t_stw (i := 98) rfl rfl rfl rfl rfl (by decide) rfl Tryz.sizeOf57 rfl rfl ⟨(one_rfl rfl), (one_rd (i := 82) rfl rd_slp), (one_rfl rfl), (one_rd (i := 83) rfl rd_slp), trivial⟩ rfl hw trivial) (fun _ _ => ?_)
           refine r_fin ?_
           refine a_done (by kernel_rfl) ?_
           exact x_jn (_, _, _, _, _, _) trivial ⟨rfl, rfl, rfl, rfl, rfl, rfl, rfl, trivial⟩ ⟨rfl, rfl, rfl, rfl, rfl, rfl, rfl, rfl, rfl, rfl, rfl, rfl, rfl, rfl, rfl, rfl, rfl, rfl, rfl, rfl, rfl, rfl, rfl, rfl, rfl, trivial⟩
          ·refine aact' rfl rfl (t_allocf (i := 97) rfl rfl rfl Tryz.zeroValue57 rfl rfl hw ⟨rfl, rfl, trivial⟩) (fun b_23 hoff_17 => ?_)
           refine a_lin' (n := 0) [(3, 1), (6, 1), (7, 3)] (by kernel_rfl) ?_
           refine r1' rfl rfl (t_call (n := 82) (r_fromratio _ _ (by have := rnum_b hEb hu; omega) (by have := rden_b hEb hu; omega)) rfl rfl rfl ⟨rfl, trivial⟩ Tryz.call30 pre_nil rfl hw) (fun g_14 _ => ?_)
           refine r1' rfl rfl (t_stw (i := 97) rfl rfl rfl rfl rfl (by decide) rfl Tryz.sizeOf57 rfl rfl ⟨(one_rfl rfl), (one_rd (i := 80) rfl rd_slp), (one_rfl rfl), (one_rd (i := 81) rfl rd_slp), trivial⟩ rfl hw hoff_17) (fun _ _ => ?_)
           refine r3' rfl rfl (t_stw (i := 98) rfl rfl rfl rfl rfl (by decide) rfl Tryz.sizeOf57 rfl rfl ⟨(one_rfl rfl), (one_rd (i := 82) rfl rd_slp), (one_rfl rfl), (one_rd (i := 83) rfl rd_slp), trivial⟩ rfl hw trivial) (fun _ _ => ?_)
           refine r_fin ?_
           refine a_done (by kernel_rfl) ?_
           exact x_jn (_, _, _, _, _, _) trivial ⟨rfl, rfl, rfl, rfl, rfl, rfl, rfl, trivial⟩ ⟨rfl, rfl, rfl, rfl, rfl, rfl, rfl, rfl, rfl, rfl, rfl, rfl, rfl, rfl, rfl, rfl, rfl, rfl, rfl, rfl, rfl, rfl, rfl, rfl, rfl, trivial⟩
         ·refine aact' rfl rfl (t_allocf (i := 97) rfl rfl rfl Tryz.zeroValue57 rfl rfl hw ⟨rfl, rfl, trivial⟩) (fun b_24 hoff_18 => ?_)
          refine a_lin' (n := 0) [(1, 1), (3, 1), (6, 1), (7, 3)] (by kernel_rfl) ?_
          refine r1' rfl rfl (t_call (n := 80) (r_fromratio _ _ (by have := rnum_b hEa hv; omega) (by have := rden_b hEa hv; omega)) rfl rfl rfl ⟨rfl, trivial⟩ Tryz.call30 pre_nil rfl hw) (fun g_15 _ => ?_)
          refine r1' rfl rfl (t_call (n := 82) (r_fromratio _ _ (by have := rnum_b hEb hu; omega) (by have := rden_b hEb hu; omega)) rfl rfl rfl ⟨rfl, trivial⟩ Tryz.call30 pre_nil rfl hw) (fun g_16 _ => ?_)
          refine r1' rfl rfl (t_stw (i := 97) rfl rfl rfl rfl rfl (by decide) rfl Tryz.sizeOf57 rfl rfl ⟨(one_rfl rfl), (one_rd (i := 80) rfl rd_slp), (one_rfl rfl), (one_rd (i := 81) rfl rd_slp), trivial⟩ rfl hw hoff_18) (fun _ _ => ?_)
          refine r3' rfl rfl (t_stw (i := 98) rfl rfl rfl rfl rfl (by decide) rfl Tryz.sizeOf57 rfl rfl ⟨(one_rfl rfl), (one_rd (i := 82) rfl rd_slp), (one_rfl rfl), (one_rd (i := 83) rfl rd_slp), trivial⟩ rfl hw trivial) (fun _ _ => ?_)
          refine r_fin ?_
          refine a_done (by kernel_rfl) ?_
          exact x_jn (_, _, _, _, _, _) trivial ⟨rfl, rfl, rfl, rfl, rfl, rfl, rfl, trivial⟩ ⟨rfl, rfl, rfl, rfl, rfl, rfl, rfl, rfl, rfl, rfl, rfl, rfl, rfl, rfl, rfl, rfl, rfl, rfl, rfl, rfl, rfl, rfl, rfl, rfl, rfl, trivial⟩
       ·rintro ⟨v1, v2, v3, v4, b12, b13⟩ -
        simp only [List.cons_append, List.nil_append]
        refine e_seq (e_seq (e_dreg (fun _ => False) [(0, 0), (1, 0), (3, 0), (2, 1), (4, 1), (5, 1), (6, 0), (7, 0), (8, 0), (9, 0), (11, 0), (10, 1), (12, 1), (13, 1), (14, 0), (15, 0)] (by kernel_rfl) ?_ ?_))
        ·kernel_rfl
        refine r0' rfl rfl rfl rfl (st0 (d_lb4 (i := 97) rfl rfl rfl Tryz.isAgg57 Tryz.sizeOf57 rfl rfl rfl rfl)) ?_
        refine r0' rfl rfl rfl rfl (st0 (d_lb4 (i := 98) rfl rfl rfl Tryz.isAgg57 Tryz.sizeOf57 rfl rfl rfl rfl)) ?_
        refine r0' rfl rfl rfl rfl (st0 (d_lb4 (i := 14) rfl rfl rfl Tryz.isAgg49 Tryz.sizeOf49 rfl rfl rfl rfl)) ?_
        refine r1' rfl rfl (t_call (n := 16) (r_addq _ _ _ _ _ _ _ _ (by have := rnum_b hEa hv; omega) (by have := rden_b hEa hv; omega) (by have := rnum_b hEb hu; omega) (by have := rden_b hEb hu; omega) (by have := rden_p hEa hv hy0; omega) (by have := rden_p hEb hu hy0; omega)) rfl rfl rfl ⟨rfl, rfl, trivial⟩ Tryz.call51 (pre_same 80 rfl rfl rfl (pre_same 81 rfl rfl rfl (pre_same 82 rfl rfl rfl (pre_same 83 rfl rfl rfl pre_nil)))) rfl hw) (fun g_17 _ => ?_)
        refine r1' rfl rfl (t_call (n := 18) (r_fromratio _ _ (by have := rnum_b hEs hvs; omega) (by have := rden_b hEs hvs; omega)) rfl rfl rfl ⟨rfl, trivial⟩ Tryz.call30 pre_nil rfl hw) (fun g_18 _ => ?_)
        refine r1' rfl rfl (t_call (n := 19) (r_compareq _ _ _ _ _ _ _ _ (addq_n (rnum_b hEa hv) (rden_b hEa hv) (rnum_b hEb hu) (rden_b hEb hu) _ (lgcd_dv1 _ _)) (mulq_n (rden_b hEa hv) (rden_b hEb hu) _ (lgcd_dv2 _ _)) (by have := rnum_b hEs hvs; omega) (by have := rden_b hEs hvs; omega)) rfl rfl rfl ⟨rfl, rfl, trivial⟩ Tryz.call50 (pre_same 16 rfl rfl rfl (pre_same 17 rfl rfl rfl (pre_same 18 rfl rfl rfl (pre_same 19 rfl rfl rfl pre_nil)))) rfl hw) (fun _ _ => ?_)
        refine r0' rfl rfl rfl rfl (st0 (det_is (r' := .bool false) (d_neq rfl rfl rfl) (congrArg Value.bool (by rw [holds_sum hy1 (rnum_ok hEa hv) (rden_ok hEa hv) (rnum_ok hEb hu) (rden_ok hEb hu) (rnum_ok hEs hvs) (rden_ok hEs hvs)]; rfl)))) ?_
        refine r0' rfl rfl rfl rfl (st0 (d_mv rfl rfl)) ?_
        refine r0g (st0 (d_lb4 (i := 97) rfl rfl rfl Tryz.isAgg57 Tryz.sizeOf57 rfl rfl rfl rfl)) rfl rfl rfl rfl rfl rfl rfl ?_
        refine r0g (st0 (d_lb4 (i := 98) rfl rfl rfl Tryz.isAgg57 Tryz.sizeOf57 rfl rfl rfl rfl)) rfl rfl rfl rfl rfl rfl rfl ?_
        refine r0g (st0 (d_lb4 (i := 15) rfl rfl rfl Tryz.isAgg49 Tryz.sizeOf49 rfl rfl rfl rfl)) rfl rfl rfl rfl rfl rfl rfl ?_
        refine r1g' rfl rfl rfl rfl rfl (t_call (n := 20) (r_mulq _ _ _ _ _ _ _ _ (by have := rnum_b hEa hv; omega) (by have := rden_b hEa hv; omega) (by have := rnum_b hEb hu; omega) (by have := rden_b hEb hu; omega) (by have := rden_p hEa hv hy0; omega) (by have := rden_p hEb hu hy0; omega)) rfl rfl rfl ⟨rfl, rfl, trivial⟩ Tryz.call52 (pre_same 80 rfl rfl rfl (pre_same 81 rfl rfl rfl (pre_same 82 rfl rfl rfl (pre_same 83 rfl rfl rfl pre_nil)))) rfl hw) (fun g_19 _ => ?_)
        refine r1g' rfl rfl rfl rfl rfl (t_call (n := 22) (r_fromratio _ _ (by have := rnum_b hEm hvm; omega) (by have := rden_b hEm hvm; omega)) rfl rfl rfl ⟨rfl, trivial⟩ Tryz.call30 pre_nil rfl hw) (fun g_20 _ => ?_)
        refine r1g' rfl rfl rfl rfl rfl (t_call (n := 23) (r_compareq _ _ _ _ _ _ _ _ (mulq_n (rnum_b hEa hv) (rnum_b hEb hu) _ (lgcd_dv1 _ _)) (mulq_n (rden_b hEa hv) (rden_b hEb hu) _ (lgcd_dv2 _ _)) (by have := rnum_b hEm hvm; omega) (by have := rden_b hEm hvm; omega)) rfl rfl rfl ⟨rfl, rfl, trivial⟩ Tryz.call50 (pre_same 20 rfl rfl rfl (pre_same 21 rfl rfl rfl (pre_same 22 rfl rfl rfl (pre_same 23 rfl rfl rfl pre_nil)))) rfl hw) (fun _ _ => ?_)
        refine r0g (st0 (det_is (r' := .bool false) (d_neq rfl rfl rfl) (congrArg Value.bool (by rw [holds_mul hv.tr hu.tr hy1 (rnum_ok hEa hv) (rden_ok hEa hv) (rnum_ok hEb hu) (rden_ok hEb hu) (rnum_ok hEm hvm) (rden_ok hEm hvm)]; rfl)))) rfl rfl rfl rfl rfl rfl rfl ?_
        refine r0' rfl rfl rfl rfl (st0 (d_pickf rfl rfl rfl)) ?_
        refine r_end ?_
        refine x_then (e_condf rfl ?_)
        refine e_skip ?_
        refine x_then (e_seq (e_seq (e_reg (mv rfl rfl (dt (d_len rfl rfl (i := 2) rfl rd_slp Tryz.underlying23) rfl ?_)))))
        refine dt (d_gtr rfl rfl rfl) rfl ?_
        refine l_nil (x_then (e_cond rfl (fun h293 => ?_) (fun h293 => ?_)))
        ·have hpd := pdv_mul hv.tr hu.tr (q := ys) (List.length_pos_iff.1 (by omega))
         have hdm := derr_mul hxs hys hx8 hy8 (by omega)
         refine e_seq (e_reg (mv rfl rfl (mv rfl rfl (tt (t_call (n := 24) (poly_divide _ _ _ _ hvm hu hdm) rfl rfl rfl ⟨rfl, rfl, trivial⟩ Tryz.call38 (pre_same 10 rfl rfl rfl (pre_same 2 rfl rfl rfl pre_nil)) rfl hw) rfl (fun _ _ => ?_)))))
         refine mv rfl rfl (dt (d_ex rfl rfl rfl) rfl ?_)
         refine dt (d_ex rfl rfl rfl) rfl ?_
         refine as_ rfl rfl (as_ rfl rfl (l_nil (x_then (e_seq (e_reg (mv rfl rfl (dt (det_is (r' := .bool false) (d_neq rfl rfl rfl) (congrArg Value.bool (by rw [if_pos hpd.1]; rfl))) rfl ?_)))))))
         refine mv rfl rfl (gdt (d_mv rfl rfl) rfl rfl rfl rfl ?_)
         refine gdt (d_mv rfl rfl) rfl rfl rfl rfl ?_
         refine gtt (t_call (n := 24) (r_same_ii _ _ _ _) rfl rfl rfl ⟨rfl, rfl, trivial⟩ Tryz.call49 (pre_same 24 rfl rfl rfl (pre_same 1 rfl rfl rfl pre_nil)) rfl hw) rfl rfl rfl rfl (fun _ _ => ?_)
         refine gdt (det_is (r' := .bool false) (d_not rfl rfl) (congrArg Value.bool (by rw [if_pos hpd.1, hpd.2]; simp))) rfl rfl rfl rfl ?_
         refine dt (d_pickf rfl rfl rfl) rfl ?_
         refine l_nil (x_then (e_condf rfl ?_))
         refine e_skip ?_
         refine x_then (e_seq (e_reg (mv rfl rfl (mv rfl rfl (tt (t_call (n := 25) (poly_gcd _ _ _ _ hv hu 12 (gfull8 (by omega) (by omega) hx8 hy8) hG) rfl rfl rfl ⟨rfl, rfl, trivial⟩ Tryz.call39 (pre_same 1 rfl rfl rfl (pre_same 2 rfl rfl rfl pre_nil)) rfl hw) rfl (fun _ _ => ?_))))))
         refine mv rfl rfl (dt (d_ex rfl rfl rfl) rfl ?_)
         refine dt (d_ex rfl rfl rfl) rfl ?_
         refine as_ rfl rfl (as_ rfl rfl (l_nil (x_then (e_seq (e_reg (mv rfl rfl (tt (t_call (n := 25) (law_w _ ⟨by decide, by decide⟩) rfl rfl rfl ⟨rfl, trivial⟩ Tryz.call53 pre_nil rfl hw) rfl (fun _ _ => ?_))))))))
         refine tt (t_call (n := 26) (poly_scale _ _ _ hv (by decide +kernel) (fun i => by have h2 := hvt.sz i; rwa [cf_pscale] at h2)) rfl rfl rfl ⟨rfl, rfl, trivial⟩ Tryz.call12 (pre_same 1 rfl rfl rfl pre_nil) rfl hw) rfl (fun _ _ => ?_)
         refine mv rfl rfl (dt (d_ex rfl rfl rfl) rfl ?_)
         refine dt (d_ex rfl rfl rfl) rfl ?_
         refine as_ rfl rfl (as_ rfl rfl (l_nil (x_then (e_seq (e_reg (mv rfl rfl (mv rfl rfl (tt (t_call (n := 27) (poly_gcd _ _ _ _ hvt hu 12 (gfull8 hmt (by omega) hlt hy8) hGt) rfl rfl rfl ⟨rfl, rfl, trivial⟩ Tryz.call39 (pre_same 26 rfl rfl rfl (pre_same 2 rfl rfl rfl pre_nil)) rfl hw) rfl (fun _ _ => ?_)))))))))
         refine mv rfl rfl (dt (d_ex rfl rfl rfl) rfl ?_)
         refine dt (d_ex rfl rfl rfl) rfl ?_
         refine as_ rfl rfl (as_ rfl rfl (l_nil (x_then (e_seq (e_seq (e_reg (mv rfl rfl (dt (det_is (r' := .bool false) (d_neq rfl rfl rfl) (congrArg Value.bool (by decide))) rfl ?_))))))))
         refine mv rfl rfl (gdt (d_mv rfl rfl) rfl rfl rfl rfl ?_)
         refine gdt (det_is (r' := .bool false) (d_neq rfl rfl rfl) (congrArg Value.bool (by decide))) rfl rfl rfl rfl ?_
         refine dt (d_pickf rfl rfl rfl) rfl ?_
         refine mv rfl rfl (gdt (d_mv rfl rfl) rfl rfl rfl rfl ?_)
         refine gdt (det_is (r' := .bool false) (d_neq rfl rfl rfl) (congrArg Value.bool (by decide))) rfl rfl rfl rfl ?_
         refine dt (d_pickf rfl rfl rfl) rfl ?_
         refine mv rfl rfl (gdt (d_mv rfl rfl) rfl rfl rfl rfl ?_)
         refine gdt (d_mv rfl rfl) rfl rfl rfl rfl ?_
         refine gtt (t_call (n := 27) (r_same_ii _ _ _ _) rfl rfl rfl ⟨rfl, rfl, trivial⟩ Tryz.call49 (pre_same 25 rfl rfl rfl (pre_same 27 rfl rfl rfl pre_nil)) rfl hw) rfl rfl rfl rfl (fun _ _ => ?_)
         refine gdt (det_is (r' := .bool false) (d_not rfl rfl) (congrArg Value.bool (by simp [hsame]))) rfl rfl rfl rfl ?_
         refine dt (d_pickf rfl rfl rfl) rfl ?_
         refine l_nil (x_then (e_condf rfl ?_))
         refine e_skip ?_
         refine x_then (e_seq (e_seq (e_reg (mv rfl rfl (dt (d_len rfl rfl (i := 25) rfl rd_slp Tryz.underlying23) rfl ?_)))))
         refine dt (d_eql rfl rfl rfl) rfl ?_
         refine l_nil (x_then (e_cond rfl (fun h305 => ?_) (fun h305 => ?_)))
         ·have hnil : pgcd 12 xs ys = [] := List.eq_nil_of_length_eq_zero (by omega)
          rw [hnil] at hdv
          have hx0 : xs.length = 0 := by rw [hdv.1.zero hv.tr]; rfl
          have hy00 : ys.length = 0 := by rw [hdv.2.zero hu.tr]; rfl
          refine e_seq (e_reg (mv rfl rfl (dt (d_len rfl rfl (i := 1) rfl rd_slp Tryz.underlying23) rfl ?_)))
          refine dt (det_is (r' := .bool true) (d_eql rfl rfl rfl) (congrArg Value.bool (decide_eq_true (by omega)))) rfl ?_
          refine mv rfl rfl (gdt (d_mv rfl rfl) rfl rfl rfl rfl ?_)
          refine gdt (d_len rfl rfl (i := 2) rfl rd_slp Tryz.underlying23) rfl rfl rfl rfl ?_
          refine gdt (det_is (r' := .bool true) (d_eql rfl rfl rfl) (congrArg Value.bool (decide_eq_true (by omega)))) rfl rfl rfl rfl ?_
          refine dt (d_pickt rfl rfl rfl) rfl ?_
          refine mv rfl rfl (gtt (t_call (n := 27) (law_known) rfl rfl rfl trivial Tryz.call11 pre_nil rfl hw) rfl rfl rfl rfl (fun _ _ => ?_))
          refine dt (d_pickt rfl rfl rfl) rfl ?_
          refine as_ rfl rfl (l_nil (x_then (e_ret (x_ret ?_))))
          exact x_end (.inl rfl) hsc () _ (fun a w hs => res1 hs Tryz.results8 rfl) rfl trivial rfl give_nil
         ·have hg0 : pgcd 12 xs ys ≠ [] := List.length_pos_iff.1 (by omega)
          have hd1 := derr8 hv.tr hu.tr hmx hmy hx8 hy8 hv.tr hxs hx8 hg0 hdv.1
          have hd2 := derr8 hv.tr hu.tr hmx hmy hx8 hy8 hu.tr hys hy8 hg0 hdv.2
          have hr1 := dv_rest hvg.tr hg0 hv.tr hdv.1
          have hr2 := dv_rest hvg.tr hg0 hu.tr hdv.2
          refine e_skip ?_
          refine x_then (e_seq (e_reg (mv rfl rfl (mv rfl rfl (tt (t_call (n := 28) (poly_rest _ _ _ _ hv hvg hd1) rfl rfl rfl ⟨rfl, rfl, trivial⟩ Tryz.call37 (pre_same 1 rfl rfl rfl (pre_same 25 rfl rfl rfl pre_nil)) rfl hw) rfl (fun _ _ => ?_))))))
          refine mv rfl rfl (dt (d_ex rfl rfl rfl) rfl ?_)
          refine dt (d_ex rfl rfl rfl) rfl ?_
          refine as_ rfl rfl (as_ rfl rfl (l_nil (x_then (e_seq (e_reg (mv rfl rfl (mv rfl rfl (tt (t_call (n := 29) (poly_rest _ _ _ _ hu hvg hd2) rfl rfl rfl ⟨rfl, rfl, trivial⟩ Tryz.call37 (pre_same 2 rfl rfl rfl (pre_same 25 rfl rfl rfl pre_nil)) rfl hw) rfl (fun _ _ => ?_)))))))))
          refine mv rfl rfl (dt (d_ex rfl rfl rfl) rfl ?_)
          refine dt (d_ex rfl rfl rfl) rfl ?_
          refine as_ rfl rfl (as_ rfl rfl (l_nil (x_then (e_seq (e_reg (mv rfl rfl (dt (det_is (r' := .bool true) (d_eql rfl rfl rfl) (congrArg Value.bool (by decide))) rfl ?_)))))))
          refine mv rfl rfl (gdt (d_mv rfl rfl) rfl rfl rfl rfl ?_)
          refine gdt (det_is (r' := .bool true) (d_eql rfl rfl rfl) (congrArg Value.bool (by decide))) rfl rfl rfl rfl ?_
          refine dt (d_pickt rfl rfl rfl) rfl ?_
          refine mv rfl rfl (gdt (d_mv rfl rfl) rfl rfl rfl rfl ?_)
          refine gdt (d_len rfl rfl (i := 28) rfl rd_slp Tryz.underlying23) rfl rfl rfl rfl ?_
          refine gdt (det_is (r' := .bool true) (d_eql rfl rfl rfl) (congrArg Value.bool (by rw [hr1]; rfl))) rfl rfl rfl rfl ?_
          refine dt (d_pickt rfl rfl rfl) rfl ?_
          refine mv rfl rfl (gdt (d_mv rfl rfl) rfl rfl rfl rfl ?_)
          refine gdt (d_len rfl rfl (i := 29) rfl rd_slp Tryz.underlying23) rfl rfl rfl rfl ?_
          refine gdt (det_is (r' := .bool true) (d_eql rfl rfl rfl) (congrArg Value.bool (by rw [hr2]; rfl))) rfl rfl rfl rfl ?_
          refine dt (d_pickt rfl rfl rfl) rfl ?_
          refine mv rfl rfl (gtt (t_call (n := 29) (law_known) rfl rfl rfl trivial Tryz.call11 pre_nil rfl hw) rfl rfl rfl rfl (fun _ _ => ?_))
          refine dt (d_pickt rfl rfl rfl) rfl ?_
          refine as_ rfl rfl (l_nil (x_then (e_ret ?_)))
          exact x_end (.inl rfl) hsc () _ (fun a w hs => res1 hs Tryz.results8 rfl) rfl trivial rfl give_nil
        ·refine e_skip ?_
         refine x_then (e_seq (e_reg (mv rfl rfl (mv rfl rfl (tt (t_call (n := 30) (poly_gcd _ _ _ _ hv hu 12 (gfull8 (by omega) (by omega) hx8 hy8) hG) rfl rfl rfl ⟨rfl, rfl, trivial⟩ Tryz.call39 (pre_same 1 rfl rfl rfl (pre_same 2 rfl rfl rfl pre_nil)) rfl hw) rfl (fun _ _ => ?_))))))
         refine mv rfl rfl (dt (d_ex rfl rfl rfl) rfl ?_)
         refine dt (d_ex rfl rfl rfl) rfl ?_
         refine as_ rfl rfl (as_ rfl rfl (l_nil (x_then (e_seq (e_reg (mv rfl rfl (tt (t_call (n := 30) (law_w _ ⟨by decide, by decide⟩) rfl rfl rfl ⟨rfl, trivial⟩ Tryz.call53 pre_nil rfl hw) rfl (fun _ _ => ?_))))))))
         refine tt (t_call (n := 31) (poly_scale _ _ _ hv (by decide +kernel) (fun i => by have h2 := hvt.sz i; rwa [cf_pscale] at h2)) rfl rfl rfl ⟨rfl, rfl, trivial⟩ Tryz.call12 (pre_same 1 rfl rfl rfl pre_nil) rfl hw) rfl (fun _ _ => ?_)
         refine mv rfl rfl (dt (d_ex rfl rfl rfl) rfl ?_)
         refine dt (d_ex rfl rfl rfl) rfl ?_
         refine as_ rfl rfl (as_ rfl rfl (l_nil (x_then (e_seq (e_reg (mv rfl rfl (mv rfl rfl (tt (t_call (n := 32) (poly_gcd _ _ _ _ hvt hu 12 (gfull8 hmt (by omega) hlt hy8) hGt) rfl rfl rfl ⟨rfl, rfl, trivial⟩ Tryz.call39 (pre_same 31 rfl rfl rfl (pre_same 2 rfl rfl rfl pre_nil)) rfl hw) rfl (fun _ _ => ?_)))))))))
         refine mv rfl rfl (dt (d_ex rfl rfl rfl) rfl ?_)
         refine dt (d_ex rfl rfl rfl) rfl ?_
         refine as_ rfl rfl (as_ rfl rfl (l_nil (x_then (e_seq (e_seq (e_reg (mv rfl rfl (dt (det_is (r' := .bool false) (d_neq rfl rfl rfl) (congrArg Value.bool (by decide))) rfl ?_))))))))
         refine mv rfl rfl (gdt (d_mv rfl rfl) rfl rfl rfl rfl ?_)
         refine gdt (det_is (r' := .bool false) (d_neq rfl rfl rfl) (congrArg Value.bool (by decide))) rfl rfl rfl rfl ?_
         refine dt (d_pickf rfl rfl rfl) rfl ?_
         refine mv rfl rfl (gdt (d_mv rfl rfl) rfl rfl rfl rfl ?_)
         refine gdt (det_is (r' := .bool false) (d_neq rfl rfl rfl) (congrArg Value.bool (by decide))) rfl rfl rfl rfl ?_
         refine dt (d_pickf rfl rfl rfl) rfl ?_
         refine mv rfl rfl (gdt (d_mv rfl rfl) rfl rfl rfl rfl ?_)
         refine gdt (d_mv rfl rfl) rfl rfl rfl rfl ?_
         refine gtt (t_call (n := 32) (r_same_ii _ _ _ _) rfl rfl rfl ⟨rfl, rfl, trivial⟩ Tryz.call49 (pre_same 30 rfl rfl rfl (pre_same 32 rfl rfl rfl pre_nil)) rfl hw) rfl rfl rfl rfl (fun _ _ => ?_)
         refine gdt (det_is (r' := .bool false) (d_not rfl rfl) (congrArg Value.bool (by simp [hsame]))) rfl rfl rfl rfl ?_
         refine dt (d_pickf rfl rfl rfl) rfl ?_
         refine l_nil (x_then (e_condf rfl ?_))
         refine e_skip ?_
         refine x_then (e_seq (e_seq (e_reg (mv rfl rfl (dt (d_len rfl rfl (i := 30) rfl rd_slp Tryz.underlying23) rfl ?_)))))
         refine dt (d_eql rfl rfl rfl) rfl ?_
         refine l_nil (x_then (e_cond rfl (fun h305_2 => ?_) (fun h305_2 => ?_)))
         ·have hnil : pgcd 12 xs ys = [] := List.eq_nil_of_length_eq_zero (by omega)
          rw [hnil] at hdv
          have hx0 : xs.length = 0 := by rw [hdv.1.zero hv.tr]; rfl
          have hy00 : ys.length = 0 := by rw [hdv.2.zero hu.tr]; rfl
          refine e_seq (e_reg (mv rfl rfl (dt (d_len rfl rfl (i := 1) rfl rd_slp Tryz.underlying23) rfl ?_)))
          refine dt (det_is (r' := .bool true) (d_eql rfl rfl rfl) (congrArg Value.bool (decide_eq_true (by omega)))) rfl ?_
          refine mv rfl rfl (gdt (d_mv rfl rfl) rfl rfl rfl rfl ?_)
          refine gdt (d_len rfl rfl (i := 2) rfl rd_slp Tryz.underlying23) rfl rfl rfl rfl ?_
          refine gdt (det_is (r' := .bool true) (d_eql rfl rfl rfl) (congrArg Value.bool (decide_eq_true (by omega)))) rfl rfl rfl rfl ?_
          refine dt (d_pickt rfl rfl rfl) rfl ?_
          refine mv rfl rfl (gtt (t_call (n := 32) (law_known) rfl rfl rfl trivial Tryz.call11 pre_nil rfl hw) rfl rfl rfl rfl (fun _ _ => ?_))
          refine dt (d_pickt rfl rfl rfl) rfl ?_
          refine as_ rfl rfl (l_nil (x_then (e_ret (x_ret ?_))))
          exact x_end (.inl rfl) hsc () _ (fun a w hs => res1 hs Tryz.results8 rfl) rfl trivial rfl give_nil
         ·have hg0 : pgcd 12 xs ys ≠ [] := List.length_pos_iff.1 (by omega)
          have hd1 := derr8 hv.tr hu.tr hmx hmy hx8 hy8 hv.tr hxs hx8 hg0 hdv.1
          have hd2 := derr8 hv.tr hu.tr hmx hmy hx8 hy8 hu.tr hys hy8 hg0 hdv.2
          have hr1 := dv_rest hvg.tr hg0 hv.tr hdv.1
          have hr2 := dv_rest hvg.tr hg0 hu.tr hdv.2
          refine e_skip ?_
          refine x_then (e_seq (e_reg (mv rfl rfl (mv rfl rfl (tt (t_call (n := 33) (poly_rest _ _ _ _ hv hvg hd1) rfl rfl rfl ⟨rfl, rfl, trivial⟩ Tryz.call37 (pre_same 1 rfl rfl rfl (pre_same 30 rfl rfl rfl pre_nil)) rfl hw) rfl (fun _ _ => ?_))))))
          refine mv rfl rfl (dt (d_ex rfl rfl rfl) rfl ?_)
          refine dt (d_ex rfl rfl rfl) rfl ?_
          refine as_ rfl rfl (as_ rfl rfl (l_nil (x_then (e_seq (e_reg (mv rfl rfl (mv rfl rfl (tt (t_call (n := 34) (poly_rest _ _ _ _ hu hvg hd2) rfl rfl rfl ⟨rfl, rfl, trivial⟩ Tryz.call37 (pre_same 2 rfl rfl rfl (pre_same 30 rfl rfl rfl pre_nil)) rfl hw) rfl (fun _ _ => ?_)))))))))
          refine mv rfl rfl (dt (d_ex rfl rfl rfl) rfl ?_)
          refine dt (d_ex rfl rfl rfl) rfl ?_
          refine as_ rfl rfl (as_ rfl rfl (l_nil (x_then (e_seq (e_reg (mv rfl rfl (dt (det_is (r' := .bool true) (d_eql rfl rfl rfl) (congrArg Value.bool (by decide))) rfl ?_)))))))
          refine mv rfl rfl (gdt (d_mv rfl rfl) rfl rfl rfl rfl ?_)
          refine gdt (det_is (r' := .bool true) (d_eql rfl rfl rfl) (congrArg Value.bool (by decide))) rfl rfl rfl rfl ?_
          refine dt (d_pickt rfl rfl rfl) rfl ?_
          refine mv rfl rfl (gdt (d_mv rfl rfl) rfl rfl rfl rfl ?_)
          refine gdt (d_len rfl rfl (i := 33) rfl rd_slp Tryz.underlying23) rfl rfl rfl rfl ?_
          refine gdt (det_is (r' := .bool true) (d_eql rfl rfl rfl) (congrArg Value.bool (by rw [hr1]; rfl))) rfl rfl rfl rfl ?_
          refine dt (d_pickt rfl rfl rfl) rfl ?_
          refine mv rfl rfl (gdt (d_mv rfl rfl) rfl rfl rfl rfl ?_)
          refine gdt (d_len rfl rfl (i := 34) rfl rd_slp Tryz.underlying23) rfl rfl rfl rfl ?_
          refine gdt (det_is (r' := .bool true) (d_eql rfl rfl rfl) (congrArg Value.bool (by rw [hr2]; rfl))) rfl rfl rfl rfl ?_
          refine dt (d_pickt rfl rfl rfl) rfl ?_
          refine mv rfl rfl (gtt (t_call (n := 34) (law_known) rfl rfl rfl trivial Tryz.call11 pre_nil rfl hw) rfl rfl rfl rfl (fun _ _ => ?_))
          refine dt (d_pickt rfl rfl rfl) rfl ?_
          refine as_ rfl rfl (l_nil (x_then (e_ret ?_)))
          exact x_end (.inl rfl) hsc () _ (fun a w hs => res1 hs Tryz.results8 rfl) rfl trivial rfl give_nil
set_option maxHeartbeats 4000000 in
theorem law_holds_badP (v u : Value) (r t : RW) (b : Bool) (s : ByteArray) (c : Bool) (d : ByteArray) (hb : okP r = true → okP t = true → False) : Cal Tryz.prog 8 #[v, u, .agg #[.bool b, .string s, .bool c, .string d]] [slp 2 encW v r, slp 2 encW u t] false (G := Unit) (fun _ => True) (fun _ => .bool true) (fun _ => []) := by
 refine cal_in Tryz.func8 rfl Tryz.ntmps8 rfl ⟨rfl, rfl, trivial⟩ ?_
 intro w0 sc hw hsc
 simp only [enumEnv, enumPre]
 refine e_imp (s_nil 999 2 25 wv) ?_
 refine e_imp (s_pub 999 rfl rfl pV) ?_
 refine e_seq (e_reg (tt (t_box (i := 3) rfl rfl rfl rfl rfl rfl hw) rfl (fun b _ => ?_)))
 refine as_ rfl rfl (l_nil (x_then (e_seq (e_seq (e_ex (f_slice 1 rfl rd_slp) (fun sx hssx => ?_))))))
 subst hssx
 refine e_ex (f_slice 2 rfl rd_slp) (fun sx_2 hssx_2 => ?_)
 subst hssx_2
 refine e_reg (mv rfl rfl (mv rfl rfl (tt (t_bsg (i := 4) (ivs := [(0, _), (1, _)]) (enc := encS) [(sx, r), (sx_2, t)] rfl rfl rfl ⟨rfl, rfl, rfl, rfl, trivial⟩ Tryz.underlying68 Tryz.ti23 rfl rfl rfl rfl rfl rfl pS.cells rfl rfl hw) rfl (fun v _ => ?_))))
 refine l_imp (s_many_nil qR 900) ?_
 refine l_imp (s_many_snoc (q := qR) (z := (sx, r)) 900 1 901 rfl rfl rfl rfl rfl) ?_
 refine l_imp (s_many_snoc (q := qR) (z := (sx_2, t)) 901 2 902 rfl rfl rfl rfl rfl) ?_
 refine l_imp (s_pub 4 rfl rfl pS) ?_
 refine l_imp (s_mkdeep 4 902 984 rfl rfl rfl rfl) ?_
 refine tt (t_call (n := 4) (law_short _ _) rfl rfl rfl ⟨rfl, trivial⟩ Tryz.call10 (pre_same 984 rfl rfl rfl pre_nil) rfl hw) rfl (fun _ _ => ?_)
 refine dt (d_notb rfl rfl) rfl ?_
 refine mv rfl rfl (l_splitb (d := 37) rfl (fun s265 => ?_) (fun s265 => ?_))
 ·refine gsk rfl rfl rfl rfl rfl (gsk rfl rfl rfl rfl rfl (gsk rfl rfl rfl rfl rfl (dt (d_pickt rfl rfl rfl) rfl ?_)))
  refine mv rfl rfl (gsk rfl rfl rfl rfl rfl (gsk rfl rfl rfl rfl rfl (gsk rfl rfl rfl rfl rfl (dt (d_pickt rfl rfl rfl) rfl ?_))))
  refine mv rfl rfl (gsk rfl rfl rfl rfl rfl (gsk rfl rfl rfl rfl rfl (gsk rfl rfl rfl rfl rfl (gsk rfl rfl rfl rfl rfl (gsk rfl rfl rfl rfl rfl (dt (d_pickt rfl rfl rfl) rfl ?_))))))
  refine mv rfl rfl (gsk rfl rfl rfl rfl rfl (gsk rfl rfl rfl rfl rfl (gsk rfl rfl rfl rfl rfl (dt (d_pickt rfl rfl rfl) rfl ?_))))
  refine mv rfl rfl (gsk rfl rfl rfl rfl rfl (gsk rfl rfl rfl rfl rfl (gsk rfl rfl rfl rfl rfl (gsk rfl rfl rfl rfl rfl (gsk rfl rfl rfl rfl rfl (dt (d_pickt rfl rfl rfl) rfl ?_))))))
  refine mv rfl rfl (gsk rfl rfl rfl rfl rfl (gsk rfl rfl rfl rfl rfl (gsk rfl rfl rfl rfl rfl (gsk rfl rfl rfl rfl rfl (gsk rfl rfl rfl rfl rfl (dt (d_pickt rfl rfl rfl) rfl ?_))))))
  refine l_nil (x_then (e_condt rfl ?_))
  refine e_seq (e_reg (tt (t_call (n := 4) (law_known) rfl rfl rfl trivial Tryz.call11 pre_nil rfl hw) rfl (fun _ _ => ?_)))
  refine as_ rfl rfl (l_nil (x_then (e_ret (x_ret ?_))))
  exact x_end (.inl rfl) hsc () _ (fun a w hs => res1 hs Tryz.results8 rfl) rfl trivial rfl give_nil
 ·refine gdt (d_mv rfl rfl) rfl rfl rfl rfl ?_
  refine gdt (d_len rfl rfl (i := 1) rfl rd_slp Tryz.underlying23) rfl rfl rfl rfl ?_
  refine gdt (d_gtr rfl rfl rfl) rfl rfl rfl rfl ?_
  refine dt (d_pickf rfl rfl rfl) rfl ?_
  refine mv rfl rfl (l_split (d := 42) rfl (fun s265_2 => ?_) (fun s265_2 => ?_))
  ·refine gsk rfl rfl rfl rfl rfl (gsk rfl rfl rfl rfl rfl (gsk rfl rfl rfl rfl rfl (dt (d_pickt rfl rfl rfl) rfl ?_)))
   refine mv rfl rfl (gsk rfl rfl rfl rfl rfl (gsk rfl rfl rfl rfl rfl (gsk rfl rfl rfl rfl rfl (gsk rfl rfl rfl rfl rfl (gsk rfl rfl rfl rfl rfl (dt (d_pickt rfl rfl rfl) rfl ?_))))))
   refine mv rfl rfl (gsk rfl rfl rfl rfl rfl (gsk rfl rfl rfl rfl rfl (gsk rfl rfl rfl rfl rfl (dt (d_pickt rfl rfl rfl) rfl ?_))))
   refine mv rfl rfl (gsk rfl rfl rfl rfl rfl (gsk rfl rfl rfl rfl rfl (gsk rfl rfl rfl rfl rfl (gsk rfl rfl rfl rfl rfl (gsk rfl rfl rfl rfl rfl (dt (d_pickt rfl rfl rfl) rfl ?_))))))
   refine mv rfl rfl (gsk rfl rfl rfl rfl rfl (gsk rfl rfl rfl rfl rfl (gsk rfl rfl rfl rfl rfl (gsk rfl rfl rfl rfl rfl (gsk rfl rfl rfl rfl rfl (dt (d_pickt rfl rfl rfl) rfl ?_))))))
   refine l_nil (x_then (e_condt rfl ?_))
   refine e_seq (e_reg (tt (t_call (n := 4) (law_known) rfl rfl rfl trivial Tryz.call11 pre_nil rfl hw) rfl (fun _ _ => ?_)))
   refine as_ rfl rfl (l_nil (x_then (e_ret (x_ret ?_))))
   exact x_end (.inl rfl) hsc () _ (fun a w hs => res1 hs Tryz.results8 rfl) rfl trivial rfl give_nil
  ·refine gdt (d_mv rfl rfl) rfl rfl rfl rfl ?_
   refine gdt (d_len rfl rfl (i := 2) rfl rd_slp Tryz.underlying23) rfl rfl rfl rfl ?_
   refine gdt (d_gtr rfl rfl rfl) rfl rfl rfl rfl ?_
   refine dt (d_pickf rfl rfl rfl) rfl ?_
   refine mv rfl rfl (l_split (d := 47) rfl (fun s265_3 => ?_) (fun s265_3 => ?_))
   ·refine gsk rfl rfl rfl rfl rfl (gsk rfl rfl rfl rfl rfl (gsk rfl rfl rfl rfl rfl (gsk rfl rfl rfl rfl rfl (gsk rfl rfl rfl rfl rfl (dt (d_pickt rfl rfl rfl) rfl ?_)))))
    refine mv rfl rfl (gsk rfl rfl rfl rfl rfl (gsk rfl rfl rfl rfl rfl (gsk rfl rfl rfl rfl rfl (dt (d_pickt rfl rfl rfl) rfl ?_))))
    refine mv rfl rfl (gsk rfl rfl rfl rfl rfl (gsk rfl rfl rfl rfl rfl (gsk rfl rfl rfl rfl rfl (gsk rfl rfl rfl rfl rfl (gsk rfl rfl rfl rfl rfl (dt (d_pickt rfl rfl rfl) rfl ?_))))))
    refine mv rfl rfl (gsk rfl rfl rfl rfl rfl (gsk rfl rfl rfl rfl rfl (gsk rfl rfl rfl rfl rfl (gsk rfl rfl rfl rfl rfl (gsk rfl rfl rfl rfl rfl (dt (d_pickt rfl rfl rfl) rfl ?_))))))
    refine l_nil (x_then (e_condt rfl ?_))
    refine e_seq (e_reg (tt (t_call (n := 4) (law_known) rfl rfl rfl trivial Tryz.call11 pre_nil rfl hw) rfl (fun _ _ => ?_)))
    refine as_ rfl rfl (l_nil (x_then (e_ret (x_ret ?_))))
    exact x_end (.inl rfl) hsc () _ (fun a w hs => res1 hs Tryz.results8 rfl) rfl trivial rfl give_nil
   ·refine gdt (d_mv rfl rfl) rfl rfl rfl rfl ?_
    refine gdt (d_mv rfl rfl) rfl rfl rfl rfl ?_
    refine gtt (t_bsg (i := 5) (ivs := [(0, _), (1, _)]) (enc := encS) [(sx, r), (sx_2, t)] rfl rfl rfl ⟨rfl, rfl, rfl, rfl, trivial⟩ Tryz.underlying68 Tryz.ti23 rfl rfl rfl rfl rfl rfl pS.cells rfl rfl hw) rfl rfl rfl rfl (fun v_2 _ => ?_)
    refine l_imp (s_many_nil qR 900) ?_
    refine l_imp (s_many_snoc (q := qR) (z := (sx, r)) 900 1 901 rfl rfl rfl rfl rfl) ?_
    refine l_imp (s_many_snoc (q := qR) (z := (sx_2, t)) 901 2 902 rfl rfl rfl rfl rfl) ?_
    refine l_imp (s_pub 5 rfl rfl pS) ?_
    refine l_imp (s_mkdeep 5 902 1000 rfl rfl rfl rfl) ?_
    refine gtt (t_call (n := 5) (law_valid _ _) rfl rfl rfl ⟨rfl, trivial⟩ Tryz.call16 (pre_same 1000 rfl rfl rfl pre_nil) rfl hw) rfl rfl rfl rfl (fun _ _ => ?_)
    refine gdt (det_is (r' := .bool true) (d_notb rfl rfl) (congrArg Value.bool (by cases h1 : okP r <;> cases h2 : okP t <;> simp_all))) rfl rfl rfl rfl ?_
    refine dt (d_pickf rfl rfl rfl) rfl ?_
    refine mv rfl rfl (gsk rfl rfl rfl rfl rfl (gsk rfl rfl rfl rfl rfl (gsk rfl rfl rfl rfl rfl (dt (d_pickt rfl rfl rfl) rfl ?_))))
    refine mv rfl rfl (gsk rfl rfl rfl rfl rfl (gsk rfl rfl rfl rfl rfl (gsk rfl rfl rfl rfl rfl (gsk rfl rfl rfl rfl rfl (gsk rfl rfl rfl rfl rfl (dt (d_pickt rfl rfl rfl) rfl ?_))))))
    refine mv rfl rfl (gsk rfl rfl rfl rfl rfl (gsk rfl rfl rfl rfl rfl (gsk rfl rfl rfl rfl rfl (gsk rfl rfl rfl rfl rfl (gsk rfl rfl rfl rfl rfl (dt (d_pickt rfl rfl rfl) rfl ?_))))))
    refine l_nil (x_then (e_condt rfl ?_))
    refine e_seq (e_reg (tt (t_call (n := 5) (law_known) rfl rfl rfl trivial Tryz.call11 pre_nil rfl hw) rfl (fun _ _ => ?_)))
    refine as_ rfl rfl (l_nil (x_then (e_ret (x_ret ?_))))
    exact x_end (.inl rfl) hsc () _ (fun a w hs => res1 hs Tryz.results8 rfl) rfl trivial rfl give_nil
set_option maxHeartbeats 4000000 in
theorem law_holds_badR (v u : Value) (r t : RW) (b : Bool) (s : ByteArray) (c : Bool) (d : ByteArray) (hb1 : okP r = true) (hb2 : okP t = true) (hb : okR b s c d = false) : Cal Tryz.prog 8 #[v, u, .agg #[.bool b, .string s, .bool c, .string d]] [slp 2 encW v r, slp 2 encW u t] false (G := Unit) (fun _ => True) (fun _ => .bool true) (fun _ => []) := by
 refine cal_in Tryz.func8 rfl Tryz.ntmps8 rfl ⟨rfl, rfl, trivial⟩ ?_
 intro w0 sc hw hsc
 simp only [enumEnv, enumPre]
 refine e_imp (s_nil 999 2 25 wv) ?_
 refine e_imp (s_pub 999 rfl rfl pV) ?_
 refine e_seq (e_reg (tt (t_box (i := 3) rfl rfl rfl rfl rfl rfl hw) rfl (fun b _ => ?_)))
 refine as_ rfl rfl (l_nil (x_then (e_seq (e_seq (e_ex (f_slice 1 rfl rd_slp) (fun sx hssx => ?_))))))
 subst hssx
 refine e_ex (f_slice 2 rfl rd_slp) (fun sx_2 hssx_2 => ?_)
 subst hssx_2
 refine e_reg (mv rfl rfl (mv rfl rfl (tt (t_bsg (i := 4) (ivs := [(0, _), (1, _)]) (enc := encS) [(sx, r), (sx_2, t)] rfl rfl rfl ⟨rfl, rfl, rfl, rfl, trivial⟩ Tryz.underlying68 Tryz.ti23 rfl rfl rfl rfl rfl rfl pS.cells rfl rfl hw) rfl (fun v _ => ?_))))
 refine l_imp (s_many_nil qR 900) ?_
 refine l_imp (s_many_snoc (q := qR) (z := (sx, r)) 900 1 901 rfl rfl rfl rfl rfl) ?_
 refine l_imp (s_many_snoc (q := qR) (z := (sx_2, t)) 901 2 902 rfl rfl rfl rfl rfl) ?_
 refine l_imp (s_pub 4 rfl rfl pS) ?_
 refine l_imp (s_mkdeep 4 902 984 rfl rfl rfl rfl) ?_
 refine tt (t_call (n := 4) (law_short _ _) rfl rfl rfl ⟨rfl, trivial⟩ Tryz.call10 (pre_same 984 rfl rfl rfl pre_nil) rfl hw) rfl (fun _ _ => ?_)
 refine dt (d_notb rfl rfl) rfl ?_
 refine mv rfl rfl (l_splitb (d := 37) rfl (fun s265 => ?_) (fun s265 => ?_))
 ·refine gsk rfl rfl rfl rfl rfl (gsk rfl rfl rfl rfl rfl (gsk rfl rfl rfl rfl rfl (dt (d_pickt rfl rfl rfl) rfl ?_)))
  refine mv rfl rfl (gsk rfl rfl rfl rfl rfl (gsk rfl rfl rfl rfl rfl (gsk rfl rfl rfl rfl rfl (dt (d_pickt rfl rfl rfl) rfl ?_))))
  refine mv rfl rfl (gsk rfl rfl rfl rfl rfl (gsk rfl rfl rfl rfl rfl (gsk rfl rfl rfl rfl rfl (gsk rfl rfl rfl rfl rfl (gsk rfl rfl rfl rfl rfl (dt (d_pickt rfl rfl rfl) rfl ?_))))))
  refine mv rfl rfl (gsk rfl rfl rfl rfl rfl (gsk rfl rfl rfl rfl rfl (gsk rfl rfl rfl rfl rfl (dt (d_pickt rfl rfl rfl) rfl ?_))))
  refine mv rfl rfl (gsk rfl rfl rfl rfl rfl (gsk rfl rfl rfl rfl rfl (gsk rfl rfl rfl rfl rfl (gsk rfl rfl rfl rfl rfl (gsk rfl rfl rfl rfl rfl (dt (d_pickt rfl rfl rfl) rfl ?_))))))
  refine mv rfl rfl (gsk rfl rfl rfl rfl rfl (gsk rfl rfl rfl rfl rfl (gsk rfl rfl rfl rfl rfl (gsk rfl rfl rfl rfl rfl (gsk rfl rfl rfl rfl rfl (dt (d_pickt rfl rfl rfl) rfl ?_))))))
  refine l_nil (x_then (e_condt rfl ?_))
  refine e_seq (e_reg (tt (t_call (n := 4) (law_known) rfl rfl rfl trivial Tryz.call11 pre_nil rfl hw) rfl (fun _ _ => ?_)))
  refine as_ rfl rfl (l_nil (x_then (e_ret (x_ret ?_))))
  exact x_end (.inl rfl) hsc () _ (fun a w hs => res1 hs Tryz.results8 rfl) rfl trivial rfl give_nil
 ·refine gdt (d_mv rfl rfl) rfl rfl rfl rfl ?_
  refine gdt (d_len rfl rfl (i := 1) rfl rd_slp Tryz.underlying23) rfl rfl rfl rfl ?_
  refine gdt (d_gtr rfl rfl rfl) rfl rfl rfl rfl ?_
  refine dt (d_pickf rfl rfl rfl) rfl ?_
  refine mv rfl rfl (l_split (d := 42) rfl (fun s265_2 => ?_) (fun s265_2 => ?_))
  ·refine gsk rfl rfl rfl rfl rfl (gsk rfl rfl rfl rfl rfl (gsk rfl rfl rfl rfl rfl (dt (d_pickt rfl rfl rfl) rfl ?_)))
   refine mv rfl rfl (gsk rfl rfl rfl rfl rfl (gsk rfl rfl rfl rfl rfl (gsk rfl rfl rfl rfl rfl (gsk rfl rfl rfl rfl rfl (gsk rfl rfl rfl rfl rfl (dt (d_pickt rfl rfl rfl) rfl ?_))))))
   refine mv rfl rfl (gsk rfl rfl rfl rfl rfl (gsk rfl rfl rfl rfl rfl (gsk rfl rfl rfl rfl rfl (dt (d_pickt rfl rfl rfl) rfl ?_))))
   refine mv rfl rfl (gsk rfl rfl rfl rfl rfl (gsk rfl rfl rfl rfl rfl (gsk rfl rfl rfl rfl rfl (gsk rfl rfl rfl rfl rfl (gsk rfl rfl rfl rfl rfl (dt (d_pickt rfl rfl rfl) rfl ?_))))))
   refine mv rfl rfl (gsk rfl rfl rfl rfl rfl (gsk rfl rfl rfl rfl rfl (gsk rfl rfl rfl rfl rfl (gsk rfl rfl rfl rfl rfl (gsk rfl rfl rfl rfl rfl (dt (d_pickt rfl rfl rfl) rfl ?_))))))
   refine l_nil (x_then (e_condt rfl ?_))
   refine e_seq (e_reg (tt (t_call (n := 4) (law_known) rfl rfl rfl trivial Tryz.call11 pre_nil rfl hw) rfl (fun _ _ => ?_)))
   refine as_ rfl rfl (l_nil (x_then (e_ret (x_ret ?_))))
   exact x_end (.inl rfl) hsc () _ (fun a w hs => res1 hs Tryz.results8 rfl) rfl trivial rfl give_nil
  ·refine gdt (d_mv rfl rfl) rfl rfl rfl rfl ?_
   refine gdt (d_len rfl rfl (i := 2) rfl rd_slp Tryz.underlying23) rfl rfl rfl rfl ?_
   refine gdt (d_gtr rfl rfl rfl) rfl rfl rfl rfl ?_
   refine dt (d_pickf rfl rfl rfl) rfl ?_
   refine mv rfl rfl (l_split (d := 47) rfl (fun s265_3 => ?_) (fun s265_3 => ?_))
   ·refine gsk rfl rfl rfl rfl rfl (gsk rfl rfl rfl rfl rfl (gsk rfl rfl rfl rfl rfl (gsk rfl rfl rfl rfl rfl (gsk rfl rfl rfl rfl rfl (dt (d_pickt rfl rfl rfl) rfl ?_)))))
    refine mv rfl rfl (gsk rfl rfl rfl rfl rfl (gsk rfl rfl rfl rfl rfl (gsk rfl rfl rfl rfl rfl (dt (d_pickt rfl rfl rfl) rfl ?_))))
    refine mv rfl rfl (gsk rfl rfl rfl rfl rfl (gsk rfl rfl rfl rfl rfl (gsk rfl rfl rfl rfl rfl (gsk rfl rfl rfl rfl rfl (gsk rfl rfl rfl rfl rfl (dt (d_pickt rfl rfl rfl) rfl ?_))))))
    refine mv rfl rfl (gsk rfl rfl rfl rfl rfl (gsk rfl rfl rfl rfl rfl (gsk rfl rfl rfl rfl rfl (gsk rfl rfl rfl rfl rfl (gsk rfl rfl rfl rfl rfl (dt (d_pickt rfl rfl rfl) rfl ?_))))))
    refine l_nil (x_then (e_condt rfl ?_))
    refine e_seq (e_reg (tt (t_call (n := 4) (law_known) rfl rfl rfl trivial Tryz.call11 pre_nil rfl hw) rfl (fun _ _ => ?_)))
    refine as_ rfl rfl (l_nil (x_then (e_ret (x_ret ?_))))
    exact x_end (.inl rfl) hsc () _ (fun a w hs => res1 hs Tryz.results8 rfl) rfl trivial rfl give_nil
   ·refine gdt (d_mv rfl rfl) rfl rfl rfl rfl ?_
    refine gdt (d_mv rfl rfl) rfl rfl rfl rfl ?_
    refine gtt (t_bsg (i := 5) (ivs := [(0, _), (1, _)]) (enc := encS) [(sx, r), (sx_2, t)] rfl rfl rfl ⟨rfl, rfl, rfl, rfl, trivial⟩ Tryz.underlying68 Tryz.ti23 rfl rfl rfl rfl rfl rfl pS.cells rfl rfl hw) rfl rfl rfl rfl (fun v_2 _ => ?_)
    refine l_imp (s_many_nil qR 900) ?_
    refine l_imp (s_many_snoc (q := qR) (z := (sx, r)) 900 1 901 rfl rfl rfl rfl rfl) ?_
    refine l_imp (s_many_snoc (q := qR) (z := (sx_2, t)) 901 2 902 rfl rfl rfl rfl rfl) ?_
    refine l_imp (s_pub 5 rfl rfl pS) ?_
    refine l_imp (s_mkdeep 5 902 1000 rfl rfl rfl rfl) ?_
    refine gtt (t_call (n := 5) (law_valid _ _) rfl rfl rfl ⟨rfl, trivial⟩ Tryz.call16 (pre_same 1000 rfl rfl rfl pre_nil) rfl hw) rfl rfl rfl rfl (fun _ _ => ?_)
    refine gdt (det_is (r' := .bool false) (d_notb rfl rfl) (congrArg Value.bool (by simp [hb1, hb2]))) rfl rfl rfl rfl ?_
    refine dt (d_pickf rfl rfl rfl) rfl ?_
    refine mv rfl rfl (gdt (d_lb4 (i := 3) rfl rfl rfl Tryz.isAgg49 Tryz.sizeOf49 rfl rfl rfl rfl) rfl rfl rfl rfl ?_)
    refine gtt (t_call (n := 5) (r_validratio _ _ _ _) rfl rfl rfl ⟨rfl, trivial⟩ Tryz.call29 pre_nil rfl hw) rfl rfl rfl rfl (fun _ _ => ?_)
    refine gdt (det_is (r' := .bool true) (d_notb rfl rfl) (congrArg Value.bool (by rw [hb]; rfl))) rfl rfl rfl rfl ?_
    refine dt (d_pickf rfl rfl rfl) rfl ?_
    refine mv rfl rfl (gsk rfl rfl rfl rfl rfl (gsk rfl rfl rfl rfl rfl (gsk rfl rfl rfl rfl rfl (gsk rfl rfl rfl rfl rfl (gsk rfl rfl rfl rfl rfl (dt (d_pickt rfl rfl rfl) rfl ?_))))))
    refine mv rfl rfl (gsk rfl rfl rfl rfl rfl (gsk rfl rfl rfl rfl rfl (gsk rfl rfl rfl rfl rfl (gsk rfl rfl rfl rfl rfl (gsk rfl rfl rfl rfl rfl (dt (d_pickt rfl rfl rfl) rfl ?_))))))
    refine l_nil (x_then (e_condt rfl ?_))
    refine e_seq (e_reg (tt (t_call (n := 5) (law_known) rfl rfl rfl trivial Tryz.call11 pre_nil rfl hw) rfl (fun _ _ => ?_)))
    refine as_ rfl rfl (l_nil (x_then (e_ret (x_ret ?_))))
    exact x_end (.inl rfl) hsc () _ (fun a w hs => res1 hs Tryz.results8 rfl) rfl trivial rfl give_nil
end Go.Sky
namespace Go.Sky
open Go.Proofs
theorem law_holds (v : Value) (r : List (Bool × ByteArray)) (u : Value) (t : List (Bool × ByteArray)) (b : Bool) (s : ByteArray) (c : Bool) (d : ByteArray) : Cal Tryz.prog 8 #[v, u, .agg #[.bool b, .string s, .bool c, .string d]] [slp 2 encW v r, slp 2 encW u t] false (G := Unit) (fun _ => True) (fun _ => .bool true) (fun _ => []) := by
  by_cases h : okP r = true ∧ okP t = true
  · by_cases h2 : okR b s c d = true
    · obtain ⟨xs, hv, rfl⟩ := okP_ex h.1
      obtain ⟨ys, hu, rfl⟩ := okP_ex h.2
      obtain ⟨x, y, hx, hy, hy0, rfl, rfl, rfl, rfl⟩ := okR_ex h2
      refine Cal.imp (p := slp 2 wv v xs) ?_ (slp_wr' v xs) (fun _ h => h)
      refine Cal.imp2 (p := slp 2 wv u ys) ?_ (slp_wr' u ys) (fun _ h => h)
      exact law_holds_ok v u xs ys hv hu x y hx hy hy0
    · exact law_holds_badR v u r t b s c d h.1 h.2 (by simpa using h2)
  · exact law_holds_badP v u r t b s c d (fun a b => h ⟨a, b⟩)
end Go.Sky

