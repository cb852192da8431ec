/- the law: part 14
   Proved without conditions of its own: each theorem bears its own. -/
import Derived.Test.YtcegclhbeflgbaaGreatSk02
import Derived.Test.YtcegclhbeflgbaaGreatSk01
import Derived.Test.YtcegclhbeflgbaaGreatSk03
import Derived.Test.YtcegclhbeflgbaaGreatSk11
import Derived.Test.YtcegclhbeflgbaaGreatSk12
set_option linter.all false
namespace Go.Sky
open Go.Proofs
set_option maxRecDepth 20000
set_option maxHeartbeats 4000000
set_option linter.unusedVariables false
set_option linter.unusedSimpArgs false
set_option maxHeartbeats 4000000 in
theorem law_sknown (v : Value) (l : List Int) (d w x y : Int) : Cal Tryz.prog 6 #[v, .int .i64 d, .int .i64 w, .int .i64 x, .int .i64 y] [slp 1 encZ v l] false (G := Unit) (fun _ => True) (fun _ => .bool true) (fun _ => []) := by
 refine cal_in Tryz.func6 J Tryz.ntmps6 J ⟨J, trivial⟩ ?_
 intro w0 sc hw hsc
 simp only [enumEnv, enumPre]
 refine e_imp (s_nil 999 2 28 wv) <|e_imp (s_pub 999 J J pV) <|e_seq <|e_reg <|as_ J J <|l_nil <|x_then <|e_seq <|e_seq <|e_reg <|mv J J <|dt (d_len J J (i := 1) J rd_slp uT37) J <|dt (d_gtr J J J) J <|mv J J <|l_split (d := 25) J (fun s164 => ?_) (fun s164 => ?_)
 ·exact gsk J J J J J <|gsk J J J J J <|dt (d_pickt J J J) J <|mv J J <|gsk J J J J J <|gsk J J J J J <|dt (d_pickt J J J) J <|mv J J <|gsk J J J J J <|gsk J J J J J <|dt (d_pickt J J J) J <|mv J J <|gsk J J J J J <|gsk J J J J J <|dt (d_pickt J J J) J <|mv J J <|gsk J J J J J <|gsk J J J J J <|dt (d_pickt J J J) J <|mv J J <|gsk J J J J J <|gsk J J J J J <|dt (d_pickt J J J) J <|mv J J <|gsk J J J J J <|gsk J J J J J <|gsk J J J J J <|dt (d_pickt J J J) J <|l_nil <|x_then <|e_condt J <|e_seq <|e_reg <|tt (t_call (n := 1) (law_known) J J J trivial cF11 pre_nil J hw) J fun _ _ => as_ J J <|l_nil <|x_then <|e_ret <|x_ret <|x_end (.inl J) hsc () _ (fun a w hs => res1 hs Tryz.results6 J) J trivial J give_nil
 ·refine gdt (d_mv J J) J J J J <|gdt (d_lss J J J) J J J J <|dt (d_pickf J J J) J <|mv J J <|l_split (d := 29) J (fun s164_2 => ?_) (fun s164_2 => ?_)
  ·exact gsk J J J J J <|gsk J J J J J <|dt (d_pickt J J J) J <|mv J J <|gsk J J J J J <|gsk J J J J J <|dt (d_pickt J J J) J <|mv J J <|gsk J J J J J <|gsk J J J J J <|dt (d_pickt J J J) J <|mv J J <|gsk J J J J J <|gsk J J J J J <|dt (d_pickt J J J) J <|mv J J <|gsk J J J J J <|gsk J J J J J <|dt (d_pickt J J J) J <|mv J J <|gsk J J J J J <|gsk J J J J J <|gsk J J J J J <|dt (d_pickt J J J) J <|l_nil <|x_then <|e_condt J <|e_seq <|e_reg <|tt (t_call (n := 1) (law_known) J J J trivial cF11 pre_nil J hw) J fun _ _ => as_ J J <|l_nil <|x_then <|e_ret <|x_ret <|x_end (.inl J) hsc () _ (fun a w hs => res1 hs Tryz.results6 J) J trivial J give_nil
  ·refine gdt (d_mv J J) J J J J <|gdt (d_gtr J J J) J J J J <|dt (d_pickf J J J) J <|mv J J <|l_split (d := 33) J (fun s164_3 => ?_) (fun s164_3 => ?_)
   ·exact gsk J J J J J <|gsk J J J J J <|dt (d_pickt J J J) J <|mv J J <|gsk J J J J J <|gsk J J J J J <|dt (d_pickt J J J) J <|mv J J <|gsk J J J J J <|gsk J J J J J <|dt (d_pickt J J J) J <|mv J J <|gsk J J J J J <|gsk J J J J J <|dt (d_pickt J J J) J <|mv J J <|gsk J J J J J <|gsk J J J J J <|gsk J J J J J <|dt (d_pickt J J J) J <|l_nil <|x_then <|e_condt J <|e_seq <|e_reg <|tt (t_call (n := 1) (law_known) J J J trivial cF11 pre_nil J hw) J fun _ _ => as_ J J <|l_nil <|x_then <|e_ret <|x_ret <|x_end (.inl J) hsc () _ (fun a w hs => res1 hs Tryz.results6 J) J trivial J give_nil
   ·refine gdt (d_mv J J) J J J J <|gdt (d_lss J J J) J J J J <|dt (d_pickf J J J) J <|mv J J <|l_split (d := 37) J (fun s164_4 => ?_) (fun s164_4 => ?_)
    ·exact gsk J J J J J <|gsk J J J J J <|dt (d_pickt J J J) J <|mv J J <|gsk J J J J J <|gsk J J J J J <|dt (d_pickt J J J) J <|mv J J <|gsk J J J J J <|gsk J J J J J <|dt (d_pickt J J J) J <|mv J J <|gsk J J J J J <|gsk J J J J J <|gsk J J J J J <|dt (d_pickt J J J) J <|l_nil <|x_then <|e_condt J <|e_seq <|e_reg <|tt (t_call (n := 1) (law_known) J J J trivial cF11 pre_nil J hw) J fun _ _ => as_ J J <|l_nil <|x_then <|e_ret <|x_ret <|x_end (.inl J) hsc () _ (fun a w hs => res1 hs Tryz.results6 J) J trivial J give_nil
    ·refine gdt (d_mv J J) J J J J <|gdt (d_gtr J J J) J J J J <|dt (d_pickf J J J) J <|mv J J <|l_split (d := 41) J (fun s164_5 => ?_) (fun s164_5 => ?_)
     ·exact gsk J J J J J <|gsk J J J J J <|dt (d_pickt J J J) J <|mv J J <|gsk J J J J J <|gsk J J J J J <|dt (d_pickt J J J) J <|mv J J <|gsk J J J J J <|gsk J J J J J <|gsk J J J J J <|dt (d_pickt J J J) J <|l_nil <|x_then <|e_condt J <|e_seq <|e_reg <|tt (t_call (n := 1) (law_known) J J J trivial cF11 pre_nil J hw) J fun _ _ => as_ J J <|l_nil <|x_then <|e_ret <|x_ret <|x_end (.inl J) hsc () _ (fun a w hs => res1 hs Tryz.results6 J) J trivial J give_nil
     ·refine gdt (d_mv J J) J J J J <|gdt (d_lss J J J) J J J J <|dt (d_pickf J J J) J <|mv J J <|l_split (d := 45) J (fun s164_6 => ?_) (fun s164_6 => ?_)
      ·exact gsk J J J J J <|gsk J J J J J <|dt (d_pickt J J J) J <|mv J J <|gsk J J J J J <|gsk J J J J J <|gsk J J J J J <|dt (d_pickt J J J) J <|l_nil <|x_then <|e_condt J <|e_seq <|e_reg <|tt (t_call (n := 1) (law_known) J J J trivial cF11 pre_nil J hw) J fun _ _ => as_ J J <|l_nil <|x_then <|e_ret <|x_ret <|x_end (.inl J) hsc () _ (fun a w hs => res1 hs Tryz.results6 J) J trivial J give_nil
      ·refine gdt (d_mv J J) J J J J <|gdt (d_gtr J J J) J J J J <|dt (d_pickf J J J) J <|mv J J <|l_split (d := 49) J (fun s164_7 => ?_) (fun s164_7 => ?_)
       ·exact gsk J J J J J <|gsk J J J J J <|gsk J J J J J <|dt (d_pickt J J J) J <|l_nil <|x_then <|e_condt J <|e_seq <|e_reg <|tt (t_call (n := 1) (law_known) J J J trivial cF11 pre_nil J hw) J fun _ _ => as_ J J <|l_nil <|x_then <|e_ret <|x_ret <|x_end (.inl J) hsc () _ (fun a w hs => res1 hs Tryz.results6 J) J trivial J give_nil
       ·refine gdt (d_mv J J) J J J J <|gdt (d_mv J J) J J J J <|gdt (d_gtr J J J) J J J J <|dt (d_pickf J J J) J <|l_nil <|x_then <|e_cond J (fun h164 => ?_) (fun h164 => ?_)
        ·exact e_seq <|e_reg <|tt (t_call (n := 1) (law_known) J J J trivial cF11 pre_nil J hw) J fun _ _ => as_ J J <|l_nil <|x_then <|e_ret <|x_ret <|x_end (.inl J) hsc () _ (fun a w hs => res1 hs Tryz.results6 J) J trivial J give_nil
        ·refine e_skip <|x_then <|e_seq <|e_reg <|tt (t_bsg (i := 2) (ivs := [(0, _)]) (enc := encZ) ([1] : List Int) J J J ⟨J, J, trivial⟩ uT37 Tryz.ti3 J J J J J J pZ.cells J J hw) J fun v _ => l_imp (s_pub 2 J J pZ) <|tt (t_call (n := 80) (rp_nums _ [1] (inI_1 ⟨by omega, by omega⟩) (by decide)) J J J ⟨J, trivial⟩ cF33 (pre_same 2 J J J pre_nil) J hw) J fun g hg => as_ J J <|l_nil <|x_then <|e_seq <|e_reg <|as_ J J <|as_ J J <|l_nil <|x_then <|e_seq <|e_seq <|e_reg <|as_ J J <|l_nil <|x_then <|e_block <|e_lp [(0, _), (1, _), (2, _), (3, _), (4, _)] [(0, _), (1, _), (999, _), (2, _)] (fun (q : Nat × Value × List (Int × SL)) => [(14, .int .i64 (q.1 : Int)), (12, .int .i64 (kin l x y q.1)), (13, .int .i64 (kal l q.1)), (11, q.2.1)]) (fun (q : Nat × Value × List (Int × SL)) => [(80, pp q.2.1 q.2.2)]) (fun (q : Nat × Value × List (Int × SL)) => (q.1 ≤ l.length) ∧ (ints q.2.2 = kpol l d q.1) ∧ (∀ k, k < q.1 → (l.getD k 0).natAbs ≤ 1000)) (fun (q : Nat × Value × List (Int × SL)) => l.length - q.1) (0, _, g.2) ⟨by first | omega | (dsimp only <;> omega), hg.trans (show tzl [1] = [1] by decide +kernel), fun k hk => absurd hk (Nat.not_lt_zero k)⟩ ⟨J, J, J, J, J, J, J, J, J, trivial⟩ ⟨J, J, J, J, J, trivial⟩ ?_
         rintro ⟨i, vf, zs⟩ ⟨hi, hf, hr⟩
         dsimp only at hi hf hr
         simp only [List.cons_append, List.nil_append]
         have hzl := length_ints zs
         have hkl := kpol_ok l (show 0 < d by omega) i
         rw [← hf] at hkl
         have hks := kpol_sz (l := l) (d := d) (i := i) ⟨by omega, by omega⟩ (by omega) hr
         rw [← hf] at hks
         refine e_seq <|e_seq <|e_reg <|mv J J <|mv J J <|dt (d_len J J (i := 1) J rd_slp uT37) J <|dt (d_lss J J J) J <|l_nil <|x_then <|e_cond J (fun h169 => ?_) (fun h169 => ?_)
         ·refine e_skip <|x_then <|e_seq <|e_block <|e_seq <|e_seq <|e_reg <|mv J J <|mv J J <|dt (d_ixa (ii := 1) J J J J rd_slp uT37 zT3 J (by first | omega | (simp only [List.length_set]; omega))) J <|dt (d_lde (ii := 1) 0 J J J rd_slp pZ (by first | omega | (simp only [List.length_set]; omega))) J <|dt (d_lss J J J) J <|mv J J <|l_split (d := 68) J (fun s170 => ?_) (fun s170 => ?_)
          ·exact gsk J J J J J <|gsk J J J J J <|gsk J J J J J <|gsk J J J J J <|gsk J J J J J <|dt (d_pickt J J J) J <|l_nil <|x_then <|e_condt J <|e_seq <|e_reg <|tt (t_call (n := 2) (law_known) J J J trivial cF11 pre_nil J hw) J fun _ _ => as_ J J <|l_nil <|x_then <|e_ret <|x_ret <|x_br <|x_ret <|x_ret <|x_br <|x_ret <|x_end (.inl J) hsc () _ (fun a w hs => res1 hs Tryz.results6 J) J trivial J give_nil
          ·refine gdt (d_mv J J) J J J J <|gdt (d_mv J J) J J J J <|gdt (d_ixa (ii := 1) J J J J rd_slp uT37 zT3 J (by first | omega | (simp only [List.length_set]; omega))) J J J J <|gdt (d_lde (ii := 1) 0 J J J rd_slp pZ (by first | omega | (simp only [List.length_set]; omega))) J J J J <|gdt (d_gtr J J J) J J J J <|dt (d_pickf J J J) J <|l_nil <|x_then <|e_cond J (fun h170 => ?_) (fun h170 => ?_)
           ·exact e_seq <|e_reg <|tt (t_call (n := 2) (law_known) J J J trivial cF11 pre_nil J hw) J fun _ _ => as_ J J <|l_nil <|x_then <|e_ret <|x_ret <|x_br <|x_ret <|x_ret <|x_br <|x_ret <|x_end (.inl J) hsc () _ (fun a w hs => res1 hs Tryz.results6 J) J trivial J give_nil
           ·refine e_skip <|x_then <|e_seq <|e_reg <|mv J J <|mv J J <|mv J J <|dt (d_ixa (ii := 1) J J J J rd_slp uT37 zT3 J (by first | omega | (simp only [List.length_set]; omega))) J <|dt (d_lde (ii := 1) 0 J J J rd_slp pZ (by first | omega | (simp only [List.length_set]; omega))) J <|dt (d_negi J J ⟨by omega, by omega⟩) J <|mv J J <|tt (t_bsg (i := 3) (ivs := [(0, _), (1, _)]) (enc := encZ) ([-(l.getD i 0), d] : List Int) J J J ⟨J, J, J, J, trivial⟩ uT37 Tryz.ti3 J J J J J J pZ.cells J J hw) J fun v_2 _ => l_imp (s_pub 3 J J pZ) <|tt (t_call (n := 4) (rp_nums _ [-(l.getD i 0), d] (inI_2 ⟨by omega, by omega⟩ ⟨by omega, by omega⟩) (by simp)) J J J ⟨J, trivial⟩ cF33 (pre_same 3 J J J pre_nil) J hw) J fun g_2 hg_2 => tt (t_call (n := 80) (rp_mul _ _ _ _ (hks.mono (by omega)) (by have := hkl.2; omega) (by rw [hg_2]; exact (sz_ints (l := [-(l.getD i 0), d]) (inI_2 ⟨by omega, by omega⟩ ⟨by omega, by omega⟩)).tzl.mono (by omega)) (by rw [← length_ints, hg_2]; exact Nat.le_trans (tzl_le _) (by simp))) J J J ⟨J, J, trivial⟩ cF34 (pre_same 80 J J J (pre_same 4 J J J pre_nil)) J hw) J fun g_3 hg_3 => as_ J J <|l_nil <|x_then <|e_seq <|e_reg <|as_ J J <|l_nil <|x_then <|e_seq <|e_seq <|e_reg <|as_ J J <|l_nil <|x_then <|e_block ?_
            refine e_lp [(0, _), (1, _), (2, _), (3, _), (4, _), (11, _), (12, _), (13, _), (14, _), (69, _), (70, _), (71, _), (72, _), (73, _)] [(0, _), (80, _), (1, _), (999, _), (2, _), (3, _), (4, _)] (fun (q : Nat × Bool) => [(16, .int .i64 (q.1 : Int)), (15, .bool q.2)]) (fun (q : Nat × Bool) => []) (fun (q : Nat × Bool) => (q.1 ≤ i) ∧ (q.2 = decide ((l.getD i 0) ∈ l.take q.1))) (fun (q : Nat × Bool) => i - q.1) (0, false) ⟨by first | omega | (dsimp only <;> omega), by simp⟩ ⟨J, J, J, J, J, J, J, J, J, J, J, J, J, J, J, J, trivial⟩ ⟨J, J, J, J, J, J, J, trivial⟩ ?_
            rintro ⟨k, sn⟩ ⟨hk, hsn⟩
            dsimp only at hk hsn
            simp only [List.cons_append, List.nil_append]
            refine e_seq <|e_seq <|e_reg <|mv J J <|mv J J <|dt (d_lss J J J) J <|l_nil <|x_then <|e_cond J (fun h175 => ?_) (fun h175 => ?_)
            ·refine e_skip <|x_then <|e_seq <|e_block ?_
             cases sn
             ·refine e_dreg (fun _ => False) [(0, 0), (1, 0), (2, 0), (3, 0), (4, 0), (5, 0), (6, 0), (7, 0), (8, 0), (9, 0), (10, 0), (11, 0), (12, 3)] (by kernel_rfl) ?_ ?_
              ·kernel_rfl
              exact r0' J J J J (st0 (d_mv J J)) <|r0' J J J J (st0 (d_mv J J)) <|r0g (st0 (d_mv J J)) J J J J J J J <|r0g (st0 (d_mv J J)) J J J J J J J <|r0g (st0 (d_ixa (ii := 1) (i := k) J J J J rd_slp uT37 zT3 J (by omega))) J J J J J J J <|r0g (st0 (d_lde (ii := 1) 0 J J J rd_slp pZ (by omega))) J J J J J J J <|r0g (st0 (d_mv J J)) J J J J J J J <|r0g (st0 (d_mv J J)) J J J J J J J <|r0g (st0 (d_ixa (ii := 1) (i := i) J J J J rd_slp uT37 zT3 J (by omega))) J J J J J J J <|r0g (st0 (d_lde (ii := 1) 0 J J J rd_slp pZ (by omega))) J J J J J J J <|r0g (st0 (d_eql J J J)) J J J J J J J <|r0' J J J J (st0 (d_pickf J J J)) <|r3' J J (t_det (d_as J J) J J) fun _ _ => r_end <|x_bn <|x_then <|e_reg <|mv J J <|dt (d_add J J J ⟨by omega, by omega⟩) J <|as_ J J <|l_nil <|x_rnd (k + 1, _) ⟨by first | omega | (dsimp only <;> omega), seen_succ (by omega) (by omega) hsn rfl⟩ (by first | omega | (dsimp only <;> omega)) ⟨J, J, J, J, J, J, J, J, J, J, J, J, J, J, J, J, trivial⟩ ⟨J, J, J, J, J, J, J, trivial⟩
             ·refine e_dreg (fun _ => False) [(0, 0), (1, 0), (2, 2), (3, 2), (4, 2), (5, 2), (6, 2), (7, 2), (8, 2), (9, 2), (10, 2), (11, 0), (12, 3)] (by kernel_rfl) ?_ ?_
              ·kernel_rfl
              exact r0' J J J J (st0 (d_mv J J)) <|r0' J J J J (st0 (d_mv J J)) <|r2 J J J J J J J J <|r2 J J J J J J J J <|r2 J J J J J J J J <|r2 J J J J J J J J <|r2 J J J J J J J J <|r2 J J J J J J J J <|r2 J J J J J J J J <|r2 J J J J J J J J <|r2 J J J J J J J J <|r0' J J J J (st0 (d_pickt J J J)) <|r3' J J (t_det (d_as J J) J J) fun _ _ => r_end <|x_bn <|x_then <|e_reg <|mv J J <|dt (d_add J J J ⟨by omega, by omega⟩) J <|as_ J J <|l_nil <|x_rnd (k + 1, _) ⟨by first | omega | (dsimp only <;> omega), seen_succ (by omega) (by omega) hsn rfl⟩ (by first | omega | (dsimp only <;> omega)) ⟨J, J, J, J, J, J, J, J, J, J, J, J, J, J, J, J, trivial⟩ ⟨J, J, J, J, J, J, J, trivial⟩
            ·refine e_exit <|x_exit <|x_exit <|x_be <|x_then <|e_seq <|e_seq <|e_reg <|mv J J <|l_nil <|x_then <|e_condb J (fun h178 => ?_) (fun h178 => ?_)
             ·have hsd : (l.getD i 0) ∈ l.take i := by rw [show k = i by omega] at hsn; exact of_decide_eq_true (hsn.symm.trans h178)
              exact e_exit <|x_exit <|x_be <|x_then <|e_reg <|mv J J <|dt (d_add J J J ⟨by omega, by omega⟩) J <|as_ J J <|l_nil <|x_rnd (i + 1, _, g_3.2) ⟨by first | omega | (dsimp only <;> omega), hg_3.trans (by rw [hf, hg_2, tzl_lin (by omega)] <;> rfl), fun k hk2 => by rcases Nat.lt_succ_iff_lt_or_eq.1 hk2 with h9 | h9; exact hr k h9; subst h9; omega⟩ (by first | omega | (dsimp only <;> omega)) ⟨J, by first | (rw [kin_seen hsd] <;> rfl) | (rw [kin_in hsd hin] <;> rfl) | (rw [kin_out hsd hin] <;> rfl), by first | (rw [kal_seen hsd] <;> rfl) | (rw [kal_new hsd] <;> rfl), rfl, rfl, rfl, rfl, rfl, rfl, trivial⟩ ⟨J, J, J, J, J, trivial⟩
             ·have hsd : ¬ (l.getD i 0) ∈ l.take i := by rw [show k = i by omega] at hsn; exact of_decide_eq_false (hsn.symm.trans h178)
              refine e_skip <|x_then <|e_seq <|e_reg <|mv J J <|dt (d_add J J J (by have := kal_r (l := l) i; exact ⟨by omega, by omega⟩)) J <|as_ J J <|l_nil <|x_then <|e_seq <|e_reg <|mv J J <|mv J J <|dt (d_ixa (ii := 1) J J J J rd_slp uT37 zT3 J (by first | omega | (simp only [List.length_set]; omega))) J <|dt (d_lde (ii := 1) 0 J J J rd_slp pZ (by first | omega | (simp only [List.length_set]; omega))) J <|mv J J <|dt (d_gtr J J J) J <|mv J J <|l_split (d := 112) J (fun s182 => ?_) (fun s182 => ?_)
              ·refine gdt (d_mv J J) J J J J <|gdt (d_mv J J) J J J J <|gdt (d_ixa (ii := 1) J J J J rd_slp uT37 zT3 J (by first | omega | (simp only [List.length_set]; omega))) J J J J <|gdt (d_lde (ii := 1) 0 J J J rd_slp pZ (by first | omega | (simp only [List.length_set]; omega))) J J J J <|gdt (d_mv J J) J J J J <|gdt (d_leq J J J) J J J J <|dt (d_pickt J J J) J <|l_nil <|x_then <|e_cond J (fun h182 => ?_) (fun h182 => ?_)
               ·have hin : x < (l.getD i 0) ∧ (l.getD i 0) ≤ y := ⟨s182, h182⟩
                exact e_reg <|mv J J <|dt (d_add J J J (by have := kin_r (l := l) (lo := x) (hi := y) i; exact ⟨by omega, by omega⟩)) J <|as_ J J <|l_nil <|x_bn <|x_then <|e_reg <|mv J J <|dt (d_add J J J ⟨by omega, by omega⟩) J <|as_ J J <|l_nil <|x_rnd (i + 1, _, g_3.2) ⟨by first | omega | (dsimp only <;> omega), hg_3.trans (by rw [hf, hg_2, tzl_lin (by omega)] <;> rfl), fun k hk2 => by rcases Nat.lt_succ_iff_lt_or_eq.1 hk2 with h9 | h9; exact hr k h9; subst h9; omega⟩ (by first | omega | (dsimp only <;> omega)) ⟨J, by first | (rw [kin_seen hsd] <;> rfl) | (rw [kin_in hsd hin] <;> rfl) | (rw [kin_out hsd hin] <;> rfl), by first | (rw [kal_seen hsd] <;> rfl) | (rw [kal_new hsd] <;> rfl), rfl, rfl, rfl, rfl, rfl, rfl, trivial⟩ ⟨J, J, J, J, J, trivial⟩
               ·have hin : ¬ (x < (l.getD i 0) ∧ (l.getD i 0) ≤ y) := fun h => h182 h.2
                exact e_skip <|x_bn <|x_then <|e_reg <|mv J J <|dt (d_add J J J ⟨by omega, by omega⟩) J <|as_ J J <|l_nil <|x_rnd (i + 1, _, g_3.2) ⟨by first | omega | (dsimp only <;> omega), hg_3.trans (by rw [hf, hg_2, tzl_lin (by omega)] <;> rfl), fun k hk2 => by rcases Nat.lt_succ_iff_lt_or_eq.1 hk2 with h9 | h9; exact hr k h9; subst h9; omega⟩ (by first | omega | (dsimp only <;> omega)) ⟨J, by first | (rw [kin_seen hsd] <;> rfl) | (rw [kin_in hsd hin] <;> rfl) | (rw [kin_out hsd hin] <;> rfl), by first | (rw [kal_seen hsd] <;> rfl) | (rw [kal_new hsd] <;> rfl), rfl, rfl, rfl, rfl, rfl, rfl, trivial⟩ ⟨J, J, J, J, J, trivial⟩
              ·have hin : ¬ (x < (l.getD i 0) ∧ (l.getD i 0) ≤ y) := fun h => s182 h.1
               exact gsk J J J J J <|gsk J J J J J <|gsk J J J J J <|gsk J J J J J <|gsk J J J J J <|gsk J J J J J <|dt (d_pickf J J J) J <|l_nil <|x_then <|e_condf J <|e_skip <|x_bn <|x_then <|e_reg <|mv J J <|dt (d_add J J J ⟨by omega, by omega⟩) J <|as_ J J <|l_nil <|x_rnd (i + 1, _, g_3.2) ⟨by first | omega | (dsimp only <;> omega), hg_3.trans (by rw [hf, hg_2, tzl_lin (by omega)] <;> rfl), fun k hk2 => by rcases Nat.lt_succ_iff_lt_or_eq.1 hk2 with h9 | h9; exact hr k h9; subst h9; omega⟩ (by first | omega | (dsimp only <;> omega)) ⟨J, by first | (rw [kin_seen hsd] <;> rfl) | (rw [kin_in hsd hin] <;> rfl) | (rw [kin_out hsd hin] <;> rfl), by first | (rw [kal_seen hsd] <;> rfl) | (rw [kal_new hsd] <;> rfl), rfl, rfl, rfl, rfl, rfl, rfl, trivial⟩ ⟨J, J, J, J, J, trivial⟩
         ·refine e_exit <|x_exit <|x_exit <|x_be <|x_then <|e_seq <|e_seq ?_
          obtain rfl : i = l.length := by omega
          refine e_reg <|as_ J J <|l_nil <|x_then <|e_block <|e_lp [(1, _), (2, _), (3, _), (4, _), (12, _), (13, _)] [(0, _), (1, _), (999, _), (2, _)] (fun (q : Nat × Value × List (Int × SL)) => [(17, .int .i64 (q.1 : Int)), (11, q.2.1)]) (fun (q : Nat × Value × List (Int × SL)) => [(80, pp q.2.1 q.2.2)]) (fun (q : Nat × Value × List (Int × SL)) => ((q.1 : Int) ≤ w) ∧ (ints q.2.2 = kpw (kpol l d l.length) q.1)) (fun (q : Nat × Value × List (Int × SL)) => w.toNat - q.1) (0, vf, zs) ⟨by first | omega | (dsimp only <;> omega), hf⟩ ⟨J, J, J, J, J, J, J, J, trivial⟩ ⟨J, J, J, J, J, trivial⟩ ?_
          rintro ⟨k, vf, zs⟩ ⟨hk, hf⟩
          dsimp only at hk hf
          simp only [List.cons_append, List.nil_append]
          have hzl := length_ints zs
          have hks := kpw_sz (l := l) (d := d) (i := l.length) (j := k) ⟨by omega, by omega⟩ (by omega) (by omega) hr
          rw [← hf] at hks
          have hkl := kpw_len (l := l) (d := d) (i := l.length) (by omega) k
          rw [← hf] at hkl
          refine e_seq <|e_seq <|e_reg <|mv J J <|mv J J <|dt (d_lss J J J) J <|l_nil <|x_then <|e_cond J (fun h186 => ?_) (fun h186 => ?_)
          ·exact e_skip <|x_then <|e_seq <|e_block <|e_reg <|mv J J <|tt (t_bsg (i := 5) (ivs := [(0, _), (1, _), (2, _)]) (enc := encZ) ([1, 0, 1] : List Int) J J J ⟨J, J, J, J, J, J, trivial⟩ uT37 Tryz.ti3 J J J J J J pZ.cells J J hw) J fun v_3 _ => l_imp (s_pub 5 J J pZ) <|tt (t_call (n := 6) (rp_nums _ [1, 0, 1] (inI_3 ⟨by omega, by omega⟩ ⟨by omega, by omega⟩ ⟨by omega, by omega⟩) (by simp)) J J J ⟨J, trivial⟩ cF33 (pre_same 5 J J J pre_nil) J hw) J fun g_4 hg_4 => tt (t_call (n := 80) (rp_mul _ _ _ _ (hks.mono (by omega)) (by omega) (by rw [hg_4]; exact (sz_ints (l := [1, 0, 1]) (inI_3 ⟨by omega, by omega⟩ ⟨by omega, by omega⟩ ⟨by omega, by omega⟩)).tzl.mono (by omega)) (by rw [← length_ints, hg_4]; exact Nat.le_trans (tzl_le _) (by simp))) J J J ⟨J, J, trivial⟩ cF34 (pre_same 80 J J J (pre_same 6 J J J pre_nil)) J hw) J fun g_5 hg_5 => as_ J J <|l_nil <|x_bn <|x_then <|e_reg <|mv J J <|dt (d_add J J J ⟨by omega, by omega⟩) J <|as_ J J <|l_nil <|x_rnd (k + 1, _, g_5.2) ⟨by first | omega | (dsimp only <;> omega), hg_5.trans (by rw [hf, hg_4, show tzl [1, 0, 1] = [1, 0, 1] by decide +kernel] <;> rfl)⟩ (by first | omega | (dsimp only <;> omega)) ⟨J, J, J, J, J, J, J, J, trivial⟩ ⟨J, J, J, J, J, trivial⟩
          ·refine e_exit <|x_exit <|x_exit <|x_be <|x_then <|e_seq ?_
           have hK := known_all (l := l) (d := d) (k := k) (by omega) (by omega) (by omega) hr (by omega)
           dsimp only at hK
           rw [← hf] at hK
           obtain ⟨hx, h0, hs, hl13, hC, hcnt, htot⟩ := hK
           have hcx := hcnt x y (by omega)
           obtain ⟨hck, hck0⟩ := known_chk (x := x) (y := y) (d := d) h0 hs hl13 (by omega) (by omega) (by omega) (by omega)
           have hE1 := known_ev hx h0 hs hl13 (x := x) (d := d) (by omega) (by omega)
           have hE2 := known_ev hx h0 hs hl13 (x := y) (d := d) (by omega) (by omega)
           have hv : Vp (ints zs) := ⟨hs.mono (by omega), hx, by omega⟩
           have hbx := bl_s (x := x) (by omega)
           have hby := bl_s (x := y) (by omega)
           have hbd := bl_s (x := d) (by omega)
           have hq0 := (sqf_fac hx h0 hC.1.2.2.1).2.2.1
           have hzl := length_ints zs
           refine e_reg <|mv J J <|tt (t_call (n := 7) (rp_to _ _ (hs.mono (by omega)) (by omega)) J J J ⟨J, trivial⟩ cF25 (pre_same 80 J J J pre_nil) J hw) J fun v_4 _ => mv J J <|mv J J <|tt (t_call (n := 7) (law_q _ _ ⟨by omega, by omega⟩ ⟨by omega, by omega⟩) J J J ⟨J, J, trivial⟩ cF22 pre_nil J hw) J fun _ _ => mv J J <|mv J J <|tt (t_call (n := 7) (law_q _ _ ⟨by omega, by omega⟩ ⟨by omega, by omega⟩) J J J ⟨J, J, trivial⟩ cF22 pre_nil J hw) J fun _ _ => tt (t_call (n := 7) (st_count _ _ hv x d y d (by omega) (by omega) (by omega) (by omega) (by omega) (by omega) 13 (by decide) hC hck hE1 hE2) J J J ⟨J, J, J, trivial⟩ cF28 (pre_same 7 J J J pre_nil) J hw) J fun _ _ => mv J J <|dt (d_ex J J J) J <|dt (d_ex J J J) J <|as_ J J <|as_ J J <|l_nil <|x_then <|e_seq <|e_reg <|mv J J <|tt (t_call (n := 8) (rp_to _ _ (hs.mono (by omega)) (by omega)) J J J ⟨J, trivial⟩ cF25 (pre_same 80 J J J pre_nil) J hw) J fun v_5 _ => tt (t_call (n := 8) (st_total _ _ hv 13 (by decide) hck0 hq0 hC) J J J ⟨J, trivial⟩ cF29 (pre_same 8 J J J pre_nil) J hw) J fun _ _ => mv J J <|dt (d_ex J J J) J <|dt (d_ex J J J) J <|as_ J J <|as_ J J <|l_nil <|x_then <|e_seq <|e_reg <|mv J J <|mv J J <|dt (det_is (r' := .bool true) (d_eql J J J) (congrArg Value.bool (decide_eq_true hcx))) J <|mv J J <|gdt (d_mv J J) J J J J <|gdt (det_is (r' := .bool true) (d_eql J J J) (congrArg Value.bool (by decide))) J J J J ?_
           exact dt (d_pickt J J J) J <|mv J J <|gdt (d_mv J J) J J J J <|gdt (d_mv J J) J J J J <|gdt (det_is (r' := .bool true) (d_eql J J J) (congrArg Value.bool (decide_eq_true htot))) J J J J <|dt (d_pickt J J J) J <|mv J J <|gdt (d_mv J J) J J J J <|gdt (det_is (r' := .bool true) (d_eql J J J) (congrArg Value.bool (by decide))) J J J J <|dt (d_pickt J J J) J <|mv J J <|gtt (t_call (n := 8) (law_known) J J J trivial cF11 pre_nil J hw) J J J J fun _ _ => dt (d_pickt J J J) J <|as_ J J <|l_nil <|x_then <|e_ret <|x_end (.inl J) hsc () _ (fun a w hs => res1 hs Tryz.results6 J) J trivial J give_nil
end Go.Sky
namespace Go.Sky
open Go.Proofs
theorem law_sk (v : Value) (l : List Int) (d w x y : Int) (hn : ∀ x ∈ l, inI x) : Cal Tryz.prog 6 #[v, .int .i64 d, .int .i64 w, .int .i64 x, .int .i64 y] [slp 1 encZ v l] false (G := Unit) (fun _ => True) (fun _ => .bool true) (fun _ => []) := law_sknown v l d w x y
end Go.Sky
namespace Go.Proofs.YtcegclhbeflgbaaGreat
open Go.ChangeShapes Go.WideShapes Go.ChangeAt Go.RowKit Go.Joins Go.Deep Go.Sky
set_option linter.unusedVariables false
theorem own : ownKnob Tryz.prog.godebug = none := by kernel_rfl
theorem laidOut : laidOutB Tryz.prog = true := by kernel_rfl
set_option maxRecDepth 100000 in
theorem lifted (os : Os) (started : os.Started) (H : Type) (enc : TypeId × Value → H) :
    ReturnsInHanded {} Tryz.checked os 6 .any (Rows.sturmKnownSpec.pre6 enc Tryz.prog Tryz.f6 Rows.sturmKnownRow.domain false) (Rows.sturmKnownSpec.post enc Tryz.prog Tryz.f6 false true false false) := by
  refine returnsInHanded_of_change (C := Tryz.checked) own started (by kernel_rfl) Tryz.func6
    (ChangeSpec.witness6 (enc := enc) (C := Tryz.checked) false ⟨#[], #[.slice none 0 0, .int .i64 0, .int .i64 0, .int .i64 0, .int .i64 0], []⟩ 8 (by kernel_rfl) (by kernel_rfl) (by kernel_rfl) (by kernel_rfl)) ?_
  intro W base args ds gs before hval0 hW hcnd _
  have hval : ∀ (j : Nat) t v, Tryz.f6.params[j]? = some t → args[j]? = some v → Value.okWide Tryz.prog W .any base t v := hval0
  have hW' := hW
  obtain ⟨p, q, hA0, hV, rfl, hfz, hnd⟩ := hW
  have hA : DataW.TrodAll enc Tryz.prog W 0 (fun _ => true) true Tryz.f6.params.toList args.toList ds p := hA0
  rw [Tryz.params6] at hA hval
  obtain ⟨v0, vs0, d0, ds0, p0, q0, hargs, rfl, rfl, h0, r0⟩ := trodAll_cons hA
  obtain ⟨v1, vs1, d1, ds1, p1, q1, rfl, rfl, rfl, h1, r1⟩ := trodAll_cons r0
  obtain ⟨v2, vs2, d2, ds2, p2, q2, rfl, rfl, rfl, h2, r2⟩ := trodAll_cons r1
  obtain ⟨v3, vs3, d3, ds3, p3, q3, rfl, rfl, rfl, h3, r3⟩ := trodAll_cons r2
  obtain ⟨v4, vs4, d4, ds4, p4, q4, rfl, rfl, rfl, h4, r4⟩ := trodAll_cons r3
  obtain ⟨rfl, rfl, rfl⟩ := trodAll_nil r4
  obtain rfl : args = #[v0, v1, v2, v3, v4] := by cases args; simp_all
  obtain ⟨rfl, rfl⟩ := trodVars_none hV
  have lt0 : ∀ x ∈ p0, x.block < W.heap.size := by obtain ⟨m, hm⟩ := h0; exact DataW.trod_lt m _ _ _ hm
  obtain ⟨l0, hl0, hn0⟩ := open_intsl Tryz.underlying37 (by kernel_rfl) (by kernel_rfl) (hval 0 37 v0 rfl rfl) h0
  have lt1 : ∀ x ∈ p1, x.block < W.heap.size := by obtain ⟨m, hm⟩ := h1; exact DataW.trod_lt m _ _ _ hm
  obtain ⟨n1, rfl⟩ := okWide_int Tryz.underlying3 (hval 1 3 v1 rfl rfl)
  have lt2 : ∀ x ∈ p2, x.block < W.heap.size := by obtain ⟨m, hm⟩ := h2; exact DataW.trod_lt m _ _ _ hm
  obtain ⟨n2, rfl⟩ := okWide_int Tryz.underlying3 (hval 2 3 v2 rfl rfl)
  have lt3 : ∀ x ∈ p3, x.block < W.heap.size := by obtain ⟨m, hm⟩ := h3; exact DataW.trod_lt m _ _ _ hm
  obtain ⟨n3, rfl⟩ := okWide_int Tryz.underlying3 (hval 3 3 v3 rfl rfl)
  have lt4 : ∀ x ∈ p4, x.block < W.heap.size := by obtain ⟨m, hm⟩ := h4; exact DataW.trod_lt m _ _ _ hm
  obtain ⟨n4, rfl⟩ := okWide_int Tryz.underlying3 (hval 4 3 v4 rfl rfl)
  clear hA0 hval0
  refine (law_sk v0 l0 n1 n2 n3 n4 hn0 W (fun p hp => by cases hp with | head => exact hl0 | tail _ hp => cases hp)).mono fun e W' ⟨_, he, _, bel, _⟩ => ?_
  subst he
  exact ⟨_, rfl, _, _, _, [], _, [], hW', trodAll_mk1 (shut_bool Tryz.underlying4 _), (trodAll_cons_mk (Below.trod laidOut (by kernel_rfl) (of_decide_eq_true (by kernel_rfl)) h0 bel lt0) (trodAll_cons_mk (Below.trod laidOut (by kernel_rfl) (of_decide_eq_true (by kernel_rfl)) h1 bel lt1) (trodAll_cons_mk (Below.trod laidOut (by kernel_rfl) (of_decide_eq_true (by kernel_rfl)) h2 bel lt2) (trodAll_cons_mk (Below.trod laidOut (by kernel_rfl) (of_decide_eq_true (by kernel_rfl)) h3 bel lt3) (trodAll_cons_mk (Below.trod laidOut (by kernel_rfl) (of_decide_eq_true (by kernel_rfl)) h4 bel lt4) trodAll_mk0))))), rfl, bel.frame _, fun h => by cases h⟩
/-- the given statement -/
theorem x_holds : Rows.SturmKnownSaid :=
  OpenClaim.holds_of_wide 6 Tryz.f6 rfl rfl rfl rfl rfl rfl rfl ⟨rfl, rfl, rfl, rfl, rfl⟩ rfl rfl rfl rfl rfl (by kernel_rfl) Tryz.func6 (by kernel_rfl)
    (of_decide_eq_true (by kernel_rfl)) (by unfold Func.isWrapper; first | (rw [if_pos (by decide +kernel)]; kernel_rfl) | (rw [if_neg (by decide +kernel)]; exact ⟨rfl, rfl⟩))
    (fun os started H enc _ => lifted os started H enc)
#print axioms x_holds
end Go.Proofs.YtcegclhbeflgbaaGreat

