/- the law: part 13
   Proved without conditions of its own: each theorem bears its own. -/
import Derived.Test.YtcegclhbeflgbaaGreatSc02
import Derived.Test.YtcegclhbeflgbaaGreatSc01
import Derived.Test.YtcegclhbeflgbaaGreatSc03
import Derived.Test.YtcegclhbeflgbaaGreatSc11
set_option linter.all false
namespace Go.Sky
open Go.Proofs
set_option maxRecDepth 20000
set_option maxHeartbeats 4000000
set_option linter.unusedVariables false
set_option linter.unusedSimpArgs false
set_option maxHeartbeats 4000000 in
theorem r3_rem (v u : Value) (zs ys : List (Int × SL)) (F : Nat) (hl : zs.length ≤ 30) (hk : ys.length ≤ 30) (hy0 : 0 < ys.length) (htz : Tr (ints zs)) (ht : Tr (ints ys)) (hF0 : zs.length < ys.length + F) (hS0 : msz (ints zs) + F * (msz (ints ys) + 1) ≤ 900000) : Cal Tryz.prog 73 #[v, u] [pp v zs, pp u ys] true (G := Value × List (Int × SL)) (fun r => ints r.2 = rrem F (ints zs) (ints ys)) (fun r => r.1) (fun r => [pp r.1 r.2]) := by
  refine cal_in Tryz.func73 rfl Tryz.ntmps73 rfl ⟨rfl, rfl, trivial⟩ ?_
  intro w0 sc hw hsc
  simp only [enumEnv, enumPre]
  have hli := length_ints zs
  have hli2 := length_ints ys
  have hcy := cf_ints ys (ys.length - 1)
  have hra := bl_rabs (ints ys)
  refine e_seq ?_
  refine e_reg ?_
  refine as_ rfl rfl ?_
  refine l_nil ?_
  refine x_then ?_
  refine e_seq ?_
  refine e_reg ?_
  refine mv rfl rfl ?_
  refine mv rfl rfl ?_
  refine dt (d_len rfl rfl (i := 2) rfl rd_deep Tryz.underlying33) rfl ?_
  refine dt (d_sub rfl rfl rfl ⟨by omega, by omega⟩) rfl ?_
  refine dt (d_ixa (ii := 2) (i := (ys.length - 1)) rfl rfl rfl rfl rd_deep Tryz.underlying33 Tryz.sizeOf39 (by omega) (by omega)) rfl ?_
  refine dt (d_lde (ii := 2) I0 rfl rfl rfl rd_deep pI (by omega)) rfl ?_
  refine tt (t_alloc (i := 85) rfl rfl rfl Tryz.zeroValue39 rfl rfl hw) rfl (fun b _ => ?_)
  refine tt (t_stw (i := 85) rfl rfl rfl rfl rfl (by decide) rfl Tryz.sizeOf39 rfl rfl ⟨(one_rfl rfl), (one_rfl rfl), trivial⟩ rfl hw trivial) rfl (fun _ _ => ?_)
  refine l_imp (s_deep 2 91 (ys.getD (ys.length - 1) I0) rfl rfl (getD_mem (by omega)) rfl) ?_
  refine l_nil ?_
  refine x_then ?_
  refine e_seq ?_
  refine e_block ?_
  refine e_imp (s_dup 1 80 rfl rfl rfl) ?_
  refine e_lp [(1, _), (5, _)] [(0, _), (1, _), (2, _), (85, _), (91, _)] (fun (q : Value × List (Int × SL) × Nat) => [(0, q.1)]) (fun (q : Value × List (Int × SL) × Nat) => [(80, pp q.1 q.2.1)]) (fun (q : Value × List (Int × SL) × Nat) => (rrem q.2.2 (ints q.2.1) (ints ys) = rrem F (ints zs) (ints ys)) ∧ ((ints q.2.1).length < (ints ys).length + q.2.2) ∧ (Tr (ints q.2.1)) ∧ (msz (ints q.2.1) + q.2.2 * (msz (ints ys) + 1) ≤ 900000) ∧ (q.2.1.length ≤ 30)) (fun (q : Value × List (Int × SL) × Nat) => q.2.2) (_, zs, F) ⟨rfl, by dsimp only; omega, htz, hS0, hl⟩ ⟨rfl, rfl, rfl, trivial⟩ ⟨rfl, rfl, rfl, rfl, rfl, rfl, trivial⟩ ?_
  rintro ⟨vr, ws, f⟩ ⟨hE, hL, hT, hS, hW⟩
  dsimp only at hE hL hT hS hW
  simp only [List.cons_append, List.nil_append]
  have hlw := length_ints ws
  have hcw := cf_ints ws (ws.length - 1)
  refine e_seq ?_
  refine e_seq ?_
  refine e_reg ?_
  refine mv rfl rfl ?_
  refine dt (d_len rfl rfl (i := 80) rfl rd_deep Tryz.underlying33) rfl ?_
  refine mv rfl rfl ?_
  refine dt (d_len rfl rfl (i := 2) rfl rd_deep Tryz.underlying33) rfl ?_
  refine dt (d_geq rfl rfl rfl) rfl ?_
  refine l_nil ?_
  refine x_then ?_
  refine e_cond rfl (fun h45 => ?_) (fun h45 => ?_)
  · obtain ⟨f1, rfl, hE1, hL1, hT1, hS1, hLl⟩ := rrem_step (by omega) (by omega) hL hT hS
    have hB : msz (ints ws) + (msz (ints ys) + 1) ≤ 900000 := by rw [Nat.succ_mul] at hS; omega
    have hrb := bl_rb (ints ws) (ints ys)
    refine e_skip ?_
    refine x_then ?_
    refine e_block ?_
    refine e_seq ?_
    refine e_dregf [80, 85] [10] (by kernel_rfl) ?_
    refine a_lin' (n := 4) [(0, 0), (1, 0), (2, 0), (3, 0), (4, 0), (5, 0), (6, 0)] (by kernel_rfl) ?_
    refine r0' rfl rfl rfl rfl (stf (d_lb2 (i := 85) rfl rfl rfl Tryz.isAgg39 Tryz.sizeOf39 rfl rfl) ⟨rfl, rfl, trivial⟩) ?_
    refine r0' rfl rfl rfl rfl (stf (d_mv rfl rfl) ⟨rfl, rfl, trivial⟩) ?_
    refine r0' rfl rfl rfl rfl (stf (d_mv rfl rfl) ⟨rfl, rfl, trivial⟩) ?_
    refine r0' rfl rfl rfl rfl (stf (d_len rfl rfl (i := 80) rfl rd_deep Tryz.underlying33) ⟨rfl, rfl, trivial⟩) ?_
    refine r0' rfl rfl rfl rfl (stf (d_sub rfl rfl rfl ⟨by omega, by omega⟩) ⟨rfl, rfl, trivial⟩) ?_
    refine r0' rfl rfl rfl rfl (stf (d_ixa (ii := 80) (i := (ws.length - 1)) rfl rfl rfl rfl rd_deep Tryz.underlying33 Tryz.sizeOf39 (by omega) (by omega)) ⟨rfl, rfl, trivial⟩) ?_
    refine r0' rfl rfl rfl rfl (stf (d_lde (ii := 80) I0 rfl rfl rfl rd_deep pI (by omega)) ⟨rfl, rfl, trivial⟩) ?_
    refine r_fin ?_
    refine a_br2 (n := 3) 7 8 (by kernel_rfl) ?_ ?_
    · refine aact' rfl rfl (t_allocf (i := 95) rfl rfl rfl Tryz.zeroValue39 rfl rfl hw ⟨rfl, rfl, trivial⟩) (fun b_2 hoff => ?_)
      refine a_lin' (n := 0) [(8, 1), (9, 1), (10, 3)] (by kernel_rfl) ?_
      refine r1' rfl rfl (t_allocf (i := 96) rfl rfl rfl Tryz.zeroValue39 rfl rfl hw ⟨rfl, rfl, trivial⟩) (fun b_3 hoff_2 => ?_)
      refine r1' rfl rfl (t_stw (i := 95) rfl rfl rfl rfl rfl (by decide) rfl Tryz.sizeOf39 rfl rfl ⟨(one_rfl rfl), (one_rd (i := 91) rfl rd_slp), trivial⟩ rfl hw hoff) (fun _ _ => ?_)
      refine r3' rfl rfl (t_stw (i := 96) rfl rfl rfl rfl rfl (by decide) rfl Tryz.sizeOf39 rfl rfl ⟨(one_rfl rfl), (one_rfl rfl), trivial⟩ rfl hw trivial) (fun _ _ => ?_)
      refine r_fin ?_
      refine a_done (by kernel_rfl) ?_
      refine x_then ?_
      refine e_jn [(0, _), (1, _), (5, _), (6, _), (7, _)] [(0, _), (80, _), (1, _), (2, _), (85, _), (91, _)] (fun (q : Value × Value) => []) (fun (q : Value × Value) => [(95, box b_2 39 #[.bool (decide ((rabs (ints ys)) < 0)), q.1]), (96, box b_3 39 #[.bool (decide ((rb (ints ws) (ints ys)) < 0)), q.2]), (93, d9p q.1 (rabs (ints ys)).natAbs), (94, d9p q.2 (rb (ints ws) (ints ys)).natAbs)]) (fun (q : Value × Value) => True) ⟨rfl, rfl, rfl, rfl, rfl, trivial⟩ ⟨rfl, rfl, rfl, rfl, rfl, rfl, trivial⟩ ?_ ?_
      · refine e_seq ?_
        refine e_imp (s_deep 80 92 (ws.getD (ws.length - 1) I0) rfl rfl (getD_mem (by omega)) rfl) ?_
        refine e_reg ?_
        refine dt (d_lb2 (i := 95) rfl rfl rfl Tryz.isAgg39 Tryz.sizeOf39 rfl rfl) rfl ?_
        refine tt (t_call (n := 2) (r_sign _ _ (by rw [hcy]; have := msz_sz (ints ys) (ys.length - 1); omega)) rfl rfl rfl ⟨rfl, trivial⟩ Tryz.call61 (pre_same 91 rfl rfl rfl pre_nil) rfl hw) rfl (fun _ _ => ?_)
        refine dt (d_lss rfl rfl rfl) rfl ?_
        refine l_nil ?_
        refine x_then ?_
        refine e_cond rfl (fun h47 => ?_) (fun h47 => ?_)
        · refine e_dregf [96] [5] (by kernel_rfl) ?_
          refine a_lin' (n := 0) [(2, 0), (0, 1), (1, 1), (3, 1), (4, 1), (5, 3)] (by kernel_rfl) ?_
          refine r0' rfl rfl rfl rfl (stf (d_lb2 (i := 96) rfl rfl rfl Tryz.isAgg39 Tryz.sizeOf39 rfl rfl) ⟨rfl, trivial⟩) ?_
          refine r1' rfl rfl (t_det (d_lb2 (i := 95) rfl rfl rfl Tryz.isAgg39 Tryz.sizeOf39 rfl rfl) rfl rfl) (fun _ _ => ?_)
          refine r1' rfl rfl (t_call (n := 3) (r_neg _ _ (by rw [hcy]; have := msz_sz (ints ys) (ys.length - 1); omega)) rfl rfl rfl ⟨rfl, trivial⟩ Tryz.call41 (pre_same 91 rfl rfl rfl pre_nil) rfl hw) (fun v _ => ?_)
          refine r1' rfl rfl (t_call (n := 4) (r_neg _ _ (by rw [hcw]; have := msz_sz (ints ws) (ws.length - 1); omega)) rfl rfl rfl ⟨rfl, trivial⟩ Tryz.call41 (pre_same 92 rfl rfl rfl pre_nil) rfl hw) (fun v_2 _ => ?_)
          refine r1' rfl rfl (t_off 95 rfl rfl ⟨rfl, trivial⟩ (fun hoffb => (t_stw (i := 95) rfl rfl rfl rfl rfl (by decide) rfl Tryz.sizeOf39 rfl rfl ⟨(one_rfl rfl), (one_rd (i := 3) rfl rd_slp), trivial⟩ rfl hw hoffb))) (fun _ _ => ?_)
          refine r3' rfl rfl (t_stw (i := 96) rfl rfl rfl rfl rfl (by decide) rfl Tryz.sizeOf39 rfl rfl ⟨(one_rfl rfl), (one_rd (i := 4) rfl rd_slp), trivial⟩ rfl hw trivial) (fun _ _ => ?_)
          refine r_fin ?_
          refine a_done (by kernel_rfl) ?_
          have hra := rabs_n hli2 hcy (by assumption)
          have hrb := rb_n (x := ints ws) (y := ints ys) hli2 hlw hcy hcw (by assumption)
          refine x_imp (s_dup 3 93 rfl rfl rfl) ?_
          refine x_imp (s_dup 4 94 rfl rfl rfl) ?_
          exact x_jn (_, _) trivial ⟨rfl, rfl, rfl, rfl, rfl, trivial⟩ ⟨by rw [hra]; rfl, by rw [hrb]; rfl, by rw [hra]; rfl, by rw [hrb]; rfl, rfl, rfl, rfl, rfl, rfl, rfl, trivial⟩
        · refine e_skip ?_
          have hra := rabs_p hli2 hcy (by assumption)
          have hrb := rb_p (x := ints ws) (y := ints ys) hli2 hlw hcy hcw (by assumption)
          refine x_imp (s_dup 91 93 rfl rfl rfl) ?_
          refine x_imp (s_dup 92 94 rfl rfl rfl) ?_
          exact x_jn (_, _) trivial ⟨rfl, rfl, rfl, rfl, rfl, trivial⟩ ⟨by rw [hra]; rfl, by rw [hrb]; rfl, by rw [hra]; rfl, by rw [hrb]; rfl, rfl, rfl, rfl, rfl, rfl, rfl, trivial⟩
      · rintro ⟨va, vb⟩ -
        simp only [List.cons_append, List.nil_append]
        refine e_seq ?_
        refine e_reg ?_
        refine mv rfl rfl ?_
        refine dt (d_len rfl rfl (i := 80) rfl rd_deep Tryz.underlying33) rfl ?_
        refine mv rfl rfl ?_
        refine dt (d_len rfl rfl (i := 2) rfl rd_deep Tryz.underlying33) rfl ?_
        refine dt (d_sub rfl rfl rfl ⟨by omega, by omega⟩) rfl ?_
        refine tt (t_mkn (i := 70) (n := (ws.length - ys.length)) (by_ := 32) (enc := encI) I0 rfl rfl rfl rfl rfl (by omega) Tryz.underlying33 Tryz.ti39 rfl pI.cells pI.pos rfl rfl (by omega) (by decide) rfl hw) rfl (fun v_3 _ => ?_)
        refine as_ rfl rfl ?_
        refine l_nil ?_
        refine x_then ?_
        refine e_seq ?_
        refine e_seq ?_
        refine e_reg ?_
        refine as_ rfl rfl ?_
        refine l_nil ?_
        refine x_then ?_
        refine e_block ?_
        refine e_imp (s_many_rep 71 (ws.length - ys.length)) ?_
        refine e_lp [(0, _), (1, _), (5, _), (6, _), (7, _)] [(0, _), (95, _), (96, _), (93, _), (94, _), (80, _), (1, _), (2, _), (85, _), (91, _)] (fun (q : Nat × Value × List (Int × SL)) => [(9, .int .i64 (q.1 : Int)), (8, q.2.1)]) (fun (q : Nat × Value × List (Int × SL)) => [(70, osl 2 39 encI q.2.1 q.2.2), (71, many qI q.2.2)]) (fun (q : Nat × Value × List (Int × SL)) => (q.1 ≤ ys.length) ∧ (ints q.2.2 = shm (ints ys) (rb (ints ws) (ints ys)) ((ints ws).length - (ints ys).length) q.1) ∧ (q.2.2.length = ((ints ws).length - (ints ys).length) + q.1)) (fun (q : Nat × Value × List (Int × SL)) => ys.length - q.1) (0, _, List.replicate (ws.length - ys.length) I0) ⟨by first | omega | (dsimp only <;> omega), by rw [← shm_zero, hlw, hli2]; simp [ints], by simp <;> omega⟩ ⟨rfl, rfl, rfl, rfl, rfl, rfl, rfl, trivial⟩ ⟨rfl, rfl, rfl, rfl, rfl, rfl, rfl, rfl, rfl, rfl, rfl, rfl, trivial⟩ ?_
        rintro ⟨i, vo, ms⟩ ⟨hi, hms, hml⟩
        dsimp only at hi hms hml
        simp only [List.cons_append, List.nil_append]
        have hci := cf_ints ys i
        refine e_seq ?_
        refine e_seq ?_
        refine e_reg ?_
        refine mv rfl rfl ?_
        refine mv rfl rfl ?_
        refine dt (d_len rfl rfl (i := 2) rfl rd_deep Tryz.underlying33) rfl ?_
        refine dt (d_lss rfl rfl rfl) rfl ?_
        refine l_nil ?_
        refine x_then ?_
        refine e_cond rfl (fun h51 => ?_) (fun h51 => ?_)
        · refine e_skip ?_
          refine x_then ?_
          refine e_seq ?_
          refine e_block ?_
          refine e_dregf [2, 96] [9] (by kernel_rfl) ?_
          refine a_lin' (n := 3) [(0, 0), (1, 0), (2, 0), (3, 0), (4, 0), (5, 0), (6, 1)] (by kernel_rfl) ?_
          refine r0' rfl rfl rfl rfl (stf (d_mv rfl rfl) ⟨rfl, rfl, trivial⟩) ?_
          refine r0' rfl rfl rfl rfl (stf (d_mv rfl rfl) ⟨rfl, rfl, trivial⟩) ?_
          refine r0' rfl rfl rfl rfl (stf (d_mv rfl rfl) ⟨rfl, rfl, trivial⟩) ?_
          refine r0' rfl rfl rfl rfl (stf (d_ixa (ii := 2) rfl rfl rfl rfl rd_deep Tryz.underlying33 Tryz.sizeOf39 rfl (by first | omega | (simp only [List.length_set]; omega))) ⟨rfl, rfl, trivial⟩) ?_
          refine r0' rfl rfl rfl rfl (stf (d_lde (ii := 2) I0 rfl rfl rfl rd_deep pI (by first | omega | (simp only [List.length_set]; omega))) ⟨rfl, rfl, trivial⟩) ?_
          refine r0' rfl rfl rfl rfl (stf (d_lb2 (i := 96) rfl rfl rfl Tryz.isAgg39 Tryz.sizeOf39 rfl rfl) ⟨rfl, rfl, trivial⟩) ?_
          refine r1' rfl rfl (t_call (n := 86) (r_mul _ _ _ _ (by rw [hci]; have := msz_sz (ints ys) i; omega) (by omega)) rfl rfl rfl ⟨rfl, rfl, trivial⟩ Tryz.call44 (pre_dI 2 rfl rfl (getD_mem (i := i) (by omega)) (pre_same 94 rfl rfl rfl pre_nil)) rfl hw) (fun v_4 _ => ?_)
          refine r_fin ?_
          refine a_ex (f_slice 86 rfl rd_slp) (fun sl hsl => ?_)
          subst hsl
          refine a_lin' (n := 0) [(7, 1), (8, 1), (9, 3)] (by kernel_rfl) ?_
          refine r1' rfl rfl (t_bsg (i := 87) (ivs := [(0, _)]) (enc := encI) [((ys.getD i I0).1 * (rb (ints ws) (ints ys)), sl)] rfl rfl rfl ⟨rfl, rfl, trivial⟩ Tryz.underlying33 Tryz.ti39 rfl rfl rfl rfl rfl rfl pI.cells rfl rfl hw) (fun v_5 _ => ?_)
          refine r1' rfl rfl (t_offr 70 rfl rfl rfl ⟨rfl, rfl, trivial⟩ (fun hoffr => (t_appaM (xs := ms) (ys := [_]) (i := 70) (j := 87) (by_ := 32) rfl rfl rfl rfl rfl rfl (by decide) rfl (rd_osl pI) Tryz.underlying33 Tryz.ti39 rfl pI rfl rfl rfl (by simp; omega) (by decide) rfl hw hoffr))) (fun v_6 _ => ?_)
          refine r3' rfl rfl (t_det (d_as rfl rfl) rfl rfl) (fun _ _ => ?_)
          refine r_fin ?_
          refine a_done (by kernel_rfl) ?_
          refine x_bn ?_
          refine x_then ?_
          refine e_reg ?_
          refine mv rfl rfl ?_
          refine dt (d_add rfl rfl rfl ⟨by omega, by omega⟩) rfl ?_
          refine as_ rfl rfl ?_
          refine l_nil ?_
          refine x_imp (s_many_snoc (q := qI) (z := ((ys.getD i I0).1 * (rb (ints ws) (ints ys)), sl)) 71 86 71 rfl rfl rfl rfl rfl) ?_
          exact x_rnd (i + 1, _, ms ++ [((ys.getD i I0).1 * (rb (ints ws) (ints ys)), sl)]) ⟨by first | omega | (dsimp only <;> omega), by rw [ints_snoc, hms, ← shm_succ]; dsimp only; rw [hci, Int.mul_comm], by simp; omega⟩ (by first | omega | (dsimp only <;> omega)) ⟨rfl, rfl, rfl, rfl, rfl, rfl, rfl, trivial⟩ ⟨rfl, rfl, rfl, rfl, rfl, rfl, rfl, rfl, rfl, rfl, rfl, rfl, trivial⟩
        · refine e_exit ?_
          refine x_exit ?_
          refine x_exit ?_
          refine x_be ?_
          refine x_then ?_
          refine e_imp (s_pub 70 rfl rfl pI) ?_
          refine e_imp (s_mkdeep 70 71 72 rfl rfl rfl rfl) ?_
          refine e_reg ?_
          refine mv rfl rfl ?_
          refine dt (d_lb2 (i := 95) rfl rfl rfl Tryz.isAgg39 Tryz.sizeOf39 rfl rfl) rfl ?_
          refine tt (t_call (n := 5) (rp_scale _ _ _ _ ((msz_sz _).mono (by omega)) (by omega) (by omega)) rfl rfl rfl ⟨rfl, rfl, trivial⟩ Tryz.call47 (pre_same 80 rfl rfl rfl (pre_same 93 rfl rfl rfl pre_nil)) rfl hw) rfl (fun g hg => ?_)
          have hlsc := congrArg List.length hg
          rw [length_ints] at hlsc
          have hlsd := pscale_len (ints ws) (rabs (ints ys))
          refine mv rfl rfl ?_
          refine tt (t_call (n := 6) (rp_sub _ _ _ _ (by rw [hg]; exact (sz_pscale' (msz_sz _) hra).mono (by omega)) (by omega) (by rw [hms]; exact sz_shm'.mono (by omega)) (by omega)) rfl rfl rfl ⟨rfl, rfl, trivial⟩ Tryz.call124 (pre_same 5 rfl rfl rfl (pre_same 72 rfl rfl rfl pre_nil)) rfl hw) rfl (fun g_2 hg_2 => ?_)
          refine as_ rfl rfl ?_
          refine l_nil ?_
          refine x_bn ?_
          refine x_imp (s_dup 6 80 rfl rfl rfl) ?_
          have hR : ints g_2.2 = rrem1 (ints ws) (ints ys) := by rw [hg_2, hg, hms, show i = (ints ys).length by omega]; rfl
          exact x_rnd (_, g_2.2, f1) ⟨by dsimp only; rw [hR, ← hE1]; exact hE, by dsimp only; rw [hR]; exact hL1, by dsimp only; rw [hR]; exact hT1, by dsimp only; rw [hR]; exact hS1, by dsimp only; rw [← length_ints, hR]; omega⟩ (Nat.lt_succ_self f1) ⟨rfl, rfl, rfl, trivial⟩ ⟨rfl, rfl, rfl, rfl, rfl, rfl, trivial⟩
    · refine aact' rfl rfl (t_allocf (i := 96) rfl rfl rfl Tryz.zeroValue39 rfl rfl hw ⟨rfl, rfl, trivial⟩) (fun b_4 hoff_3 => ?_)
      refine a_lin' (n := 0) [(7, 1), (9, 1), (10, 3)] (by kernel_rfl) ?_
      refine r1' rfl rfl (t_allocf (i := 95) rfl rfl rfl Tryz.zeroValue39 rfl rfl hw ⟨rfl, rfl, trivial⟩) (fun b_5 hoff_4 => ?_)
      refine r1' rfl rfl (t_stw (i := 95) rfl rfl rfl rfl rfl (by decide) rfl Tryz.sizeOf39 rfl rfl ⟨(one_rfl rfl), (one_rd (i := 91) rfl rd_slp), trivial⟩ rfl hw hoff_4) (fun _ _ => ?_)
      refine r3' rfl rfl (t_stw (i := 96) rfl rfl rfl rfl rfl (by decide) rfl Tryz.sizeOf39 rfl rfl ⟨(one_rfl rfl), (one_rfl rfl), trivial⟩ rfl hw trivial) (fun _ _ => ?_)
      refine r_fin ?_
      refine a_done (by kernel_rfl) ?_
      refine x_then ?_
      refine e_jn [(0, _), (1, _), (5, _), (6, _), (7, _)] [(0, _), (80, _), (1, _), (2, _), (85, _), (91, _)] (fun (q : Value × Value) => []) (fun (q : Value × Value) => [(95, box b_5 39 #[.bool (decide ((rabs (ints ys)) < 0)), q.1]), (96, box b_4 39 #[.bool (decide ((rb (ints ws) (ints ys)) < 0)), q.2]), (93, d9p q.1 (rabs (ints ys)).natAbs), (94, d9p q.2 (rb (ints ws) (ints ys)).natAbs)]) (fun (q : Value × Value) => True) ⟨rfl, rfl, rfl, rfl, rfl, trivial⟩ ⟨rfl, rfl, rfl, rfl, rfl, rfl, trivial⟩ ?_ ?_
      · refine e_seq ?_
        refine e_imp (s_deep 80 92 (ws.getD (ws.length - 1) I0) rfl rfl (getD_mem (by omega)) rfl) ?_
        refine e_reg ?_
        refine dt (d_lb2 (i := 95) rfl rfl rfl Tryz.isAgg39 Tryz.sizeOf39 rfl rfl) rfl ?_
        refine tt (t_call (n := 6) (r_sign _ _ (by rw [hcy]; have := msz_sz (ints ys) (ys.length - 1); omega)) rfl rfl rfl ⟨rfl, trivial⟩ Tryz.call61 (pre_same 91 rfl rfl rfl pre_nil) rfl hw) rfl (fun _ _ => ?_)
        refine dt (d_lss rfl rfl rfl) rfl ?_
        refine l_nil ?_
        refine x_then ?_
        refine e_cond rfl (fun h47_2 => ?_) (fun h47_2 => ?_)
        · refine e_dregf [96] [5] (by kernel_rfl) ?_
          refine a_lin' (n := 0) [(2, 0), (0, 1), (1, 1), (3, 1), (4, 1), (5, 3)] (by kernel_rfl) ?_
          refine r0' rfl rfl rfl rfl (stf (d_lb2 (i := 96) rfl rfl rfl Tryz.isAgg39 Tryz.sizeOf39 rfl rfl) ⟨rfl, trivial⟩) ?_
          refine r1' rfl rfl (t_det (d_lb2 (i := 95) rfl rfl rfl Tryz.isAgg39 Tryz.sizeOf39 rfl rfl) rfl rfl) (fun _ _ => ?_)
          refine r1' rfl rfl (t_call (n := 7) (r_neg _ _ (by rw [hcy]; have := msz_sz (ints ys) (ys.length - 1); omega)) rfl rfl rfl ⟨rfl, trivial⟩ Tryz.call41 (pre_same 91 rfl rfl rfl pre_nil) rfl hw) (fun v_7 _ => ?_)
          refine r1' rfl rfl (t_call (n := 8) (r_neg _ _ (by rw [hcw]; have := msz_sz (ints ws) (ws.length - 1); omega)) rfl rfl rfl ⟨rfl, trivial⟩ Tryz.call41 (pre_same 92 rfl rfl rfl pre_nil) rfl hw) (fun v_8 _ => ?_)
          refine r1' rfl rfl (t_off 95 rfl rfl ⟨rfl, trivial⟩ (fun hoffb => (t_stw (i := 95) rfl rfl rfl rfl rfl (by decide) rfl Tryz.sizeOf39 rfl rfl ⟨(one_rfl rfl), (one_rd (i := 7) rfl rd_slp), trivial⟩ rfl hw hoffb))) (fun _ _ => ?_)
          refine r3' rfl rfl (t_stw (i := 96) rfl rfl rfl rfl rfl (by decide) rfl Tryz.sizeOf39 rfl rfl ⟨(one_rfl rfl), (one_rd (i := 8) rfl rd_slp), trivial⟩ rfl hw trivial) (fun _ _ => ?_)
          refine r_fin ?_
          refine a_done (by kernel_rfl) ?_
          have hra := rabs_n hli2 hcy (by assumption)
          have hrb := rb_n (x := ints ws) (y := ints ys) hli2 hlw hcy hcw (by assumption)
          refine x_imp (s_dup 7 93 rfl rfl rfl) ?_
          refine x_imp (s_dup 8 94 rfl rfl rfl) ?_
          exact x_jn (_, _) trivial ⟨rfl, rfl, rfl, rfl, rfl, trivial⟩ ⟨by rw [hra]; rfl, by rw [hrb]; rfl, by rw [hra]; rfl, by rw [hrb]; rfl, rfl, rfl, rfl, rfl, rfl, rfl, trivial⟩
        · refine e_skip ?_
          have hra := rabs_p hli2 hcy (by assumption)
          have hrb := rb_p (x := ints ws) (y := ints ys) hli2 hlw hcy hcw (by assumption)
          refine x_imp (s_dup 91 93 rfl rfl rfl) ?_
          refine x_imp (s_dup 92 94 rfl rfl rfl) ?_
          exact x_jn (_, _) trivial ⟨rfl, rfl, rfl, rfl, rfl, trivial⟩ ⟨by rw [hra]; rfl, by rw [hrb]; rfl, by rw [hra]; rfl, by rw [hrb]; rfl, rfl, rfl, rfl, rfl, rfl, rfl, trivial⟩
      · rintro ⟨va, vb⟩ -
        simp only [List.cons_append, List.nil_append]
        refine e_seq ?_
        refine e_reg ?_
        refine mv rfl rfl ?_
        refine dt (d_len rfl rfl (i := 80) rfl rd_deep Tryz.underlying33) rfl ?_
        refine mv rfl rfl ?_
        refine dt (d_len rfl rfl (i := 2) rfl rd_deep Tryz.underlying33) rfl ?_
        refine dt (d_sub rfl rfl rfl ⟨by omega, by omega⟩) rfl ?_
        refine tt (t_mkn (i := 70) (n := (ws.length - ys.length)) (by_ := 32) (enc := encI) I0 rfl rfl rfl rfl rfl (by omega) Tryz.underlying33 Tryz.ti39 rfl pI.cells pI.pos rfl rfl (by omega) (by decide) rfl hw) rfl (fun v_9 _ => ?_)
        refine as_ rfl rfl ?_
        refine l_nil ?_
        refine x_then ?_
        refine e_seq ?_
        refine e_seq ?_
        refine e_reg ?_
        refine as_ rfl rfl ?_
        refine l_nil ?_
        refine x_then ?_
        refine e_block ?_
        refine e_imp (s_many_rep 71 (ws.length - ys.length)) ?_
        refine e_lp [(0, _), (1, _), (5, _), (6, _), (7, _)] [(0, _), (95, _), (96, _), (93, _), (94, _), (80, _), (1, _), (2, _), (85, _), (91, _)] (fun (q : Nat × Value × List (Int × SL)) => [(9, .int .i64 (q.1 : Int)), (8, q.2.1)]) (fun (q : Nat × Value × List (Int × SL)) => [(70, osl 2 39 encI q.2.1 q.2.2), (71, many qI q.2.2)]) (fun (q : Nat × Value × List (Int × SL)) => (q.1 ≤ ys.length) ∧ (ints q.2.2 = shm (ints ys) (rb (ints ws) (ints ys)) ((ints ws).length - (ints ys).length) q.1) ∧ (q.2.2.length = ((ints ws).length - (ints ys).length) + q.1)) (fun (q : Nat × Value × List (Int × SL)) => ys.length - q.1) (0, _, List.replicate (ws.length - ys.length) I0) ⟨by first | omega | (dsimp only <;> omega), by rw [← shm_zero, hlw, hli2]; simp [ints], by simp <;> omega⟩ ⟨rfl, rfl, rfl, rfl, rfl, rfl, rfl, trivial⟩ ⟨rfl, rfl, rfl, rfl, rfl, rfl, rfl, rfl, rfl, rfl, rfl, rfl, trivial⟩ ?_
        rintro ⟨i, vo, ms⟩ ⟨hi, hms, hml⟩
        dsimp only at hi hms hml
        simp only [List.cons_append, List.nil_append]
        have hci := cf_ints ys i
        refine e_seq ?_
        refine e_seq ?_
        refine e_reg ?_
        refine mv rfl rfl ?_
        refine mv rfl rfl ?_
        refine dt (d_len rfl rfl (i := 2) rfl rd_deep Tryz.underlying33) rfl ?_
        refine dt (d_lss rfl rfl rfl) rfl ?_
        refine l_nil ?_
        refine x_then ?_
        refine e_cond rfl (fun h51_2 => ?_) (fun h51_2 => ?_)
        · refine e_skip ?_
          refine x_then ?_
          refine e_seq ?_
          refine e_block ?_
          refine e_dregf [2, 96] [9] (by kernel_rfl) ?_
          refine a_lin' (n := 3) [(0, 0), (1, 0), (2, 0), (3, 0), (4, 0), (5, 0), (6, 1)] (by kernel_rfl) ?_
          refine r0' rfl rfl rfl rfl (stf (d_mv rfl rfl) ⟨rfl, rfl, trivial⟩) ?_
          refine r0' rfl rfl rfl rfl (stf (d_mv rfl rfl) ⟨rfl, rfl, trivial⟩) ?_
          refine r0' rfl rfl rfl rfl (stf (d_mv rfl rfl) ⟨rfl, rfl, trivial⟩) ?_
          refine r0' rfl rfl rfl rfl (stf (d_ixa (ii := 2) rfl rfl rfl rfl rd_deep Tryz.underlying33 Tryz.sizeOf39 rfl (by first | omega | (simp only [List.length_set]; omega))) ⟨rfl, rfl, trivial⟩) ?_
          refine r0' rfl rfl rfl rfl (stf (d_lde (ii := 2) I0 rfl rfl rfl rd_deep pI (by first | omega | (simp only [List.length_set]; omega))) ⟨rfl, rfl, trivial⟩) ?_
          refine r0' rfl rfl rfl rfl (stf (d_lb2 (i := 96) rfl rfl rfl Tryz.isAgg39 Tryz.sizeOf39 rfl rfl) ⟨rfl, rfl, trivial⟩) ?_
          refine r1' rfl rfl (t_call (n := 86) (r_mul _ _ _ _ (by rw [hci]; have := msz_sz (ints ys) i; omega) (by omega)) rfl rfl rfl ⟨rfl, rfl, trivial⟩ Tryz.call44 (pre_dI 2 rfl rfl (getD_mem (i := i) (by omega)) (pre_same 94 rfl rfl rfl pre_nil)) rfl hw) (fun v_10 _ => ?_)
          refine r_fin ?_
          refine a_ex (f_slice 86 rfl rd_slp) (fun sl_2 hsl_2 => ?_)
          subst hsl_2
          refine a_lin' (n := 0) [(7, 1), (8, 1), (9, 3)] (by kernel_rfl) ?_
          refine r1' rfl rfl (t_bsg (i := 87) (ivs := [(0, _)]) (enc := encI) [((ys.getD i I0).1 * (rb (ints ws) (ints ys)), sl_2)] rfl rfl rfl ⟨rfl, rfl, trivial⟩ Tryz.underlying33 Tryz.ti39 rfl rfl rfl rfl rfl rfl pI.cells rfl rfl hw) (fun v_11 _ => ?_)
          refine r1' rfl rfl (t_offr 70 rfl rfl rfl ⟨rfl, rfl, trivial⟩ (fun hoffr => (t_appaM (xs := ms) (ys := [_]) (i := 70) (j := 87) (by_ := 32) rfl rfl rfl rfl rfl rfl (by decide) rfl (rd_osl pI) Tryz.underlying33 Tryz.ti39 rfl pI rfl rfl rfl (by simp; omega) (by decide) rfl hw hoffr))) (fun v_12 _ => ?_)
          refine r3' rfl rfl (t_det (d_as rfl rfl) rfl rfl) (fun _ _ => ?_)
          refine r_fin ?_
          refine a_done (by kernel_rfl) ?_
          refine x_bn ?_
          refine x_then ?_
          refine e_reg ?_
          refine mv rfl rfl ?_
          refine dt (d_add rfl rfl rfl ⟨by omega, by omega⟩) rfl ?_
          refine as_ rfl rfl ?_
          refine l_nil ?_
          refine x_imp (s_many_snoc (q := qI) (z := ((ys.getD i I0).1 * (rb (ints ws) (ints ys)), sl_2)) 71 86 71 rfl rfl rfl rfl rfl) ?_
          exact x_rnd (i + 1, _, ms ++ [((ys.getD i I0).1 * (rb (ints ws) (ints ys)), sl_2)]) ⟨by first | omega | (dsimp only <;> omega), by rw [ints_snoc, hms, ← shm_succ]; dsimp only; rw [hci, Int.mul_comm], by simp; omega⟩ (by first | omega | (dsimp only <;> omega)) ⟨rfl, rfl, rfl, rfl, rfl, rfl, rfl, trivial⟩ ⟨rfl, rfl, rfl, rfl, rfl, rfl, rfl, rfl, rfl, rfl, rfl, rfl, trivial⟩
        · refine e_exit ?_
          refine x_exit ?_
          refine x_exit ?_
          refine x_be ?_
          refine x_then ?_
          refine e_imp (s_pub 70 rfl rfl pI) ?_
          refine e_imp (s_mkdeep 70 71 72 rfl rfl rfl rfl) ?_
          refine e_reg ?_
          refine mv rfl rfl ?_
          refine dt (d_lb2 (i := 95) rfl rfl rfl Tryz.isAgg39 Tryz.sizeOf39 rfl rfl) rfl ?_
          refine tt (t_call (n := 9) (rp_scale _ _ _ _ ((msz_sz _).mono (by omega)) (by omega) (by omega)) rfl rfl rfl ⟨rfl, rfl, trivial⟩ Tryz.call47 (pre_same 80 rfl rfl rfl (pre_same 93 rfl rfl rfl pre_nil)) rfl hw) rfl (fun g_3 hg_3 => ?_)
          have hlsc := congrArg List.length hg_3
          rw [length_ints] at hlsc
          have hlsd := pscale_len (ints ws) (rabs (ints ys))
          refine mv rfl rfl ?_
          refine tt (t_call (n := 10) (rp_sub _ _ _ _ (by rw [hg_3]; exact (sz_pscale' (msz_sz _) hra).mono (by omega)) (by omega) (by rw [hms]; exact sz_shm'.mono (by omega)) (by omega)) rfl rfl rfl ⟨rfl, rfl, trivial⟩ Tryz.call124 (pre_same 9 rfl rfl rfl (pre_same 72 rfl rfl rfl pre_nil)) rfl hw) rfl (fun g_4 hg_4 => ?_)
          refine as_ rfl rfl ?_
          refine l_nil ?_
          refine x_bn ?_
          refine x_imp (s_dup 10 80 rfl rfl rfl) ?_
          have hR : ints g_4.2 = rrem1 (ints ws) (ints ys) := by rw [hg_4, hg_3, hms, show i = (ints ys).length by omega]; rfl
          exact x_rnd (_, g_4.2, f1) ⟨by dsimp only; rw [hR, ← hE1]; exact hE, by dsimp only; rw [hR]; exact hL1, by dsimp only; rw [hR]; exact hT1, by dsimp only; rw [hR]; exact hS1, by dsimp only; rw [← length_ints, hR]; omega⟩ (Nat.lt_succ_self f1) ⟨rfl, rfl, rfl, trivial⟩ ⟨rfl, rfl, rfl, rfl, rfl, rfl, trivial⟩
  · have hE2 := rrem_end (f := f) (x := ints ws) (y := ints ys) (by omega)
    refine e_exit ?_
    refine x_exit ?_
    refine x_exit ?_
    refine x_be ?_
    refine x_then ?_
    refine e_seq ?_
    refine e_reg ?_
    refine mv rfl rfl ?_
    refine as_ rfl rfl ?_
    refine l_nil ?_
    refine x_then ?_
    refine e_ret ?_
    exact x_end (.inl rfl) hsc (_, ws) _ (fun a w hs => res1 hs Tryz.results73 rfl) rfl (by rw [← hE, hE2]) rfl (give_same 80 rfl rfl rfl give_nil)
theorem r3_made (v : Value) (zs : List (Int × SL)) (hv : Vp (ints zs)) (h0 : zs.length ≠ 0) : Cal Tryz.prog 74 #[v] [pp v zs] true (G := Value × List (Int × SL)) (fun r => ints r.2 = nrm (ints zs)) (fun r => r.1) (fun r => [pp r.1 r.2]) := by
  refine cal_in Tryz.func74 rfl Tryz.ntmps74 rfl ⟨rfl, trivial⟩ ?_
  intro w0 sc hw hsc
  simp only [enumEnv, enumPre]
  have hli := length_ints zs
  have hlen := hv.len
  refine e_seq ?_
  refine e_reg ?_
  refine as_ rfl rfl ?_
  refine l_nil ?_
  refine x_then ?_
  refine e_seq ?_
  refine e_reg ?_
  refine mv rfl rfl ?_
  refine tt (t_call (n := 2) (rp_primitive _ _ (hv.sz.mono (by omega)) (by omega) (fun h => hv.ne (fun e => by have h7 := congrArg List.length e; simp only [List.length_nil] at h7; omega))) rfl rfl rfl ⟨rfl, trivial⟩ Tryz.call70 (pre_same 1 rfl rfl rfl pre_nil) rfl hw) rfl (fun g hg => ?_)
  refine as_ rfl rfl ?_
  refine l_nil ?_
  refine x_then ?_
  refine e_seq ?_
  refine e_seq ?_
  have hpl := congrArg List.length hg
  rw [length_ints, length_pprim, hli] at hpl
  have hlc := cf_ints g.2 (g.2.length - 1)
  have hlc2 : (g.2.getD (g.2.length - 1) I0).1 = cf (pprim (ints zs)) ((pprim (ints zs)).length - 1) := by rw [hlc, hg, length_pprim, hli, hpl]
  have hpb := (vp_pprim hv).sz
  refine e_reg ?_
  refine mv rfl rfl ?_
  refine mv rfl rfl ?_
  refine dt (d_len rfl rfl (i := 2) rfl rd_deep Tryz.underlying33) rfl ?_
  refine dt (d_sub rfl rfl rfl ⟨by omega, by omega⟩) rfl ?_
  refine dt (d_ixa (ii := 2) (i := (g.2.length - 1)) rfl rfl rfl rfl rd_deep Tryz.underlying33 Tryz.sizeOf39 (by omega) (by omega)) rfl ?_
  refine dt (d_lde (ii := 2) I0 rfl rfl rfl rd_deep pI (by omega)) rfl ?_
  refine tt (t_call (n := 2) (r_sign _ _ (by rw [hlc2]; have := hpb ((pprim (ints zs)).length - 1); omega)) rfl rfl rfl ⟨rfl, trivial⟩ Tryz.call61 (pre_dI 2 rfl rfl (getD_mem (zs := g.2) (i := g.2.length - 1) (d := I0) (by omega)) pre_nil) rfl hw) rfl (fun _ _ => ?_)
  refine dt (d_lss rfl rfl rfl) rfl ?_
  refine l_nil ?_
  refine x_then ?_
  refine e_cond rfl (fun h29 => ?_) (fun h29 => ?_)
  · have hnn := nrm_neg (xs := ints zs) (by rw [length_pprim]; omega) (by rw [← hlc2]; exact sign_lt.1 h29)
    refine e_seq ?_
    refine e_reg ?_
    refine mv rfl rfl ?_
    refine tt (t_call (n := 3) (rp_neg _ _ (by rw [hg]; exact hpb.mono (by omega)) (by omega)) rfl rfl rfl ⟨rfl, trivial⟩ Tryz.call72 (pre_same 2 rfl rfl rfl pre_nil) rfl hw) rfl (fun g_2 hg_2 => ?_)
    refine as_ rfl rfl ?_
    refine l_nil ?_
    refine x_then ?_
    refine e_ret ?_
    refine x_ret ?_
    exact x_end (.inl rfl) hsc _ _ (fun a w hs => res1 hs Tryz.results74 rfl) rfl (by rw [hg_2, hg, hnn]) rfl (give_same 3 rfl rfl rfl give_nil)
  · have hnn := nrm_pos (xs := ints zs) (fun h => h29 (sign_lt.2 (by rw [hlc2]; exact h)))
    refine e_skip ?_
    refine x_then ?_
    refine e_seq ?_
    refine e_reg ?_
    refine mv rfl rfl ?_
    refine as_ rfl rfl ?_
    refine l_nil ?_
    refine x_then ?_
    refine e_ret ?_
    exact x_end (.inl rfl) hsc (_, g.2) _ (fun a w hs => res1 hs Tryz.results74 rfl) rfl (by rw [hg, hnn]) rfl (give_same 2 rfl rfl rfl give_nil)
theorem r3_sqf (v : Value) (zs : List (Int × SL)) (hv : Vp (ints zs)) (h0 : zs.length ≠ 0) (hs : Sz 48 (ints zs)) (hl : zs.length ≤ 8) : Cal Tryz.prog 26 #[v] [pp v zs] true (G := Value × List (Int × SL)) (fun r => ints r.2 = sqf 12 (ints zs)) (fun r => r.1) (fun r => [pp r.1 r.2]) := by
  refine cal_in Tryz.func26 rfl Tryz.ntmps26 rfl ⟨rfl, trivial⟩ ?_
  intro w0 sc hw hsc
  simp only [enumEnv, enumPre]
  have hli := length_ints zs
  have hne : ints zs ≠ [] := fun e => h0 (by rw [← hli, e]; rfl)
  obtain ⟨k1, k2, k3, k4, k5, k6, k7, k8, k9, k10, k11, k12, k13, k14⟩ := sqf_ref hv hne hs (by omega)
  have k6l := List.length_pos_iff.2 k6
  have k12l := List.length_pos_iff.2 k12
  have k2l := k2.len
  have k11l := k11.len
  refine e_seq ?_
  refine e_reg ?_
  refine as_ rfl rfl ?_
  refine l_nil ?_
  refine x_then ?_
  refine e_seq ?_
  refine e_reg ?_
  refine mv rfl rfl ?_
  refine tt (t_call (n := 2) (r3_made _ _ hv h0) rfl rfl rfl ⟨rfl, trivial⟩ Tryz.call74 (pre_same 1 rfl rfl rfl pre_nil) rfl hw) rfl (fun g hg => ?_)
  refine as_ rfl rfl ?_
  refine l_nil ?_
  refine x_then ?_
  refine e_seq ?_
  have hl_qs := congrArg List.length hg
  rw [length_ints] at hl_qs
  refine e_reg ?_
  refine mv rfl rfl ?_
  refine mv rfl rfl ?_
  refine mv rfl rfl ?_
  refine tt (t_call (n := 3) (rp_derive _ _ (by rw [hg]; exact k1.sz.mono (by omega)) (by omega)) rfl rfl rfl ⟨rfl, trivial⟩ Tryz.call71 (pre_same 2 rfl rfl rfl pre_nil) rfl hw) rfl (fun g_2 hg_2 => ?_)
  have hl_qd := congrArg List.length hg_2
  rw [length_ints] at hl_qd
  refine tt (t_call (n := 4) (rp_gcd _ _ _ _ 12 (by rw [hg]; exact k1) (by rw [hg_2, hg]; exact k2) (by rw [hg_2, hg]; exact k3)) rfl rfl rfl ⟨rfl, rfl, trivial⟩ Tryz.call76 (pre_same 2 rfl rfl rfl (pre_same 3 rfl rfl rfl pre_nil)) rfl hw) rfl (fun g_3 hg_3 => ?_)
  have hgg : ints g_3.2 = pgcd 12 (nrm (ints zs)) (pder (nrm (ints zs))) := by rw [hg_3, hg_2, hg, k4]
  have hl_g := congrArg List.length hgg
  rw [length_ints] at hl_g
  refine tt (t_call (n := 5) (rp_divide _ _ _ _ (by omega) (by omega) (by omega) (by rw [hg]; exact k1.tr) (by rw [hgg]; exact k5.tr) (fun _ => by rw [hg, hgg]; have := Nat.mul_le_mul (show g.2.length - g_3.2.length + 1 ≤ 9 by omega) (show msz (pgcd 12 (nrm (ints zs)) (pder (nrm (ints zs)))) + 1 ≤ 117 by omega); omega)) rfl rfl rfl ⟨rfl, rfl, trivial⟩ Tryz.call75 (pre_same 2 rfl rfl rfl (pre_same 4 rfl rfl rfl pre_nil)) rfl hw) rfl (fun g_4 hg_4 => ?_)
  refine mv rfl rfl ?_
  refine dt (d_ex rfl rfl rfl) rfl ?_
  refine dt (d_ex rfl rfl rfl) rfl ?_
  refine as_ rfl rfl ?_
  refine as_ rfl rfl ?_
  refine l_nil ?_
  refine x_then ?_
  refine e_seq ?_
  have hqe := hg_4 (by rw [hg, hgg]; exact k7)
  rw [hg, hgg] at hqe
  have hl_q := congrArg List.length hqe
  rw [length_ints] at hl_q
  refine e_reg ?_
  refine mv rfl rfl ?_
  refine tt (t_call (n := 6) (r3_made _ _ (by rw [hqe]; exact k11) (by rw [hl_q]; exact Nat.ne_of_gt k12l)) rfl rfl rfl ⟨rfl, trivial⟩ Tryz.call74 (pre_same 5 rfl rfl rfl pre_nil) rfl hw) rfl (fun g_5 hg_5 => ?_)
  refine as_ rfl rfl ?_
  refine l_nil ?_
  refine x_then ?_
  refine e_ret ?_
  exact x_end (.inl rfl) hsc _ _ (fun a w hs => res1 hs Tryz.results26 rfl) rfl (by rw [hg_5, hqe]; exact k13) rfl (give_same 6 rfl rfl rfl give_nil)
end Go.Sky
namespace Go.Sky
open Go.Proofs
theorem pT {α : Type} : Enc Tryz.prog 33 1 (encS (α := α)) := Enc.flat Tryz.sizeOf33 Tryz.isAgg33 (fun _ => rfl)
theorem rp_primitive_s (v : Value) (zs : List (Int × SL)) (hs : Sz 1000000 (ints zs)) (hl : zs.length ≤ 1000) (hc : zs.length ≠ 0 → pcont (ints zs) ≠ 0) : Cal Tryz.prog 70 #[v] [pp v zs] true (G := SL × List (Int × SL)) (fun r => ints r.2 = pprim (ints zs)) (fun r => svv r.1) (fun r => [pp (svv r.1) r.2]) :=
  (rp_primitive v zs hs hl hc).toS
theorem r3_sqf_s (v : Value) (zs : List (Int × SL)) (hv : Vp (ints zs)) (h0 : zs.length ≠ 0) (hs : Sz 48 (ints zs)) (hl : zs.length ≤ 8) : Cal Tryz.prog 26 #[v] [pp v zs] true (G := SL × List (Int × SL)) (fun r => ints r.2 = sqf 12 (ints zs)) (fun r => svv r.1) (fun r => [pp (svv r.1) r.2]) :=
  (r3_sqf v zs hv h0 hs hl).toS
end Go.Sky
namespace Go.Sky
open Go.Proofs
set_option maxRecDepth 20000
set_option maxHeartbeats 4000000
set_option linter.unusedVariables false
set_option linter.unusedSimpArgs false
set_option maxHeartbeats 4000000 in
theorem r3_chain (v : Value) (zs : List (Int × SL)) (hv : Vp (ints zs)) (h0 : zs.length ≠ 0) (hs : Sz 48 (ints zs)) (hl : zs.length ≤ 8) : Cal Tryz.prog 23 #[v] [pp v zs] true (G := Value × List (SL × List (Int × SL))) (fun r => intsT r.2 = chn 12 (ints zs)) (fun r => r.1) (fun r => [deep 1 encS qT r.1 r.2]) := by
  refine cal_in Tryz.func23 rfl Tryz.ntmps23 rfl ⟨rfl, trivial⟩ ?_
  intro w0 sc hw hsc
  simp only [enumEnv, enumPre]
  have hli := length_ints zs
  have hne : ints zs ≠ [] := fun e => h0 (by rw [← hli, e]; rfl)
  obtain ⟨hC, hq, hql⟩ := ch8 hv.tr hne hs (by omega)
  obtain ⟨hC1, hC2, hC3⟩ := hC
  have hvq := vp_sqf hv hne hC1
  have hq0 : sqf 12 (ints zs) ≠ [] := (sqf_ref hv hne hs (by omega)).2.2.2.2.2.2.2.2.2.2.2.1
  have hqd := sz_pder' hq (by omega)
  have hqdl := len_pder' (sqf 12 (ints zs))
  have hqdt := tr_pder hvq.tr
  have hvqd : Vp (pder (sqf 12 (ints zs))) := ⟨hqd.mono (by omega), hqdt, by omega⟩
  refine e_seq ?_
  refine e_reg ?_
  refine as_ rfl rfl ?_
  refine l_nil ?_
  refine x_then ?_
  refine e_seq ?_
  refine e_reg ?_
  refine mv rfl rfl ?_
  refine tt (t_call (n := 2) (r3_sqf_s _ _ hv h0 hs hl) rfl rfl rfl ⟨rfl, trivial⟩ Tryz.call26 (pre_same 1 rfl rfl rfl pre_nil) rfl hw) rfl (fun g hg => ?_)
  refine as_ rfl rfl ?_
  refine l_nil ?_
  refine x_then ?_
  refine e_seq ?_
  refine e_reg ?_
  refine mv rfl rfl ?_
  refine tt (t_bsg (i := 70) (ivs := [(0, _)]) (enc := encS) [g] rfl rfl rfl ⟨rfl, rfl, trivial⟩ Tryz.underlying51 Tryz.ti33 rfl rfl rfl rfl rfl rfl pT.cells rfl rfl hw) rfl (fun v _ => ?_)
  refine as_ rfl rfl ?_
  refine l_nil ?_
  refine x_then ?_
  refine e_seq ?_
  have hxe : ints g.2 = sqf 12 (ints zs) := hg
  have hxl := congrArg List.length hxe
  rw [length_ints] at hxl
  refine e_imp (s_many_nil qT 71) ?_
  refine e_imp (s_many_snoc (q := qT) (z := g) 71 2 71 rfl rfl rfl rfl rfl) ?_
  refine e_imp (s_dup 2 92 rfl rfl rfl) ?_
  refine e_reg ?_
  refine mv rfl rfl ?_
  refine tt (t_call (n := 3) (rp_derive _ _ (by rw [hxe]; exact hvq.sz.mono (by omega)) (by omega)) rfl rfl rfl ⟨rfl, trivial⟩ Tryz.call71 (pre_same 2 rfl rfl rfl pre_nil) rfl hw) rfl (fun g_2 hg_2 => ?_)
  have hdl := congrArg List.length hg_2
  rw [length_ints, hxe, len_pder'] at hdl
  refine tt (t_call (n := 4) (rp_primitive_s _ _ (by rw [hg_2, hxe]; exact hqd.mono (by omega)) (by omega) (fun h => by rw [hg_2, hxe]; exact hvqd.ne (fun e => h (by have h7 := congrArg List.length hg_2; rw [length_ints, hxe, e] at h7; exact h7)))) rfl rfl rfl ⟨rfl, trivial⟩ Tryz.call70 (pre_same 3 rfl rfl rfl pre_nil) rfl hw) rfl (fun g_3 hg_3 => ?_)
  have hye : ints g_3.2 = pprim (pder (sqf 12 (ints zs))) := by rw [show ints g_3.2 = pprim _ from hg_3, hg_2, hxe]
  refine as_ rfl rfl ?_
  refine l_nil ?_
  refine x_then ?_
  refine e_seq ?_
  refine e_block ?_
  refine e_imp (s_dup 4 80 rfl rfl rfl) ?_
  refine e_lp [] [(0, _), (1, _), (2, _), (3, _), (4, _)] (fun (q : List (SL × List (Int × SL)) × (SL × List (Int × SL)) × (SL × List (Int × SL)) × Nat × Value) => [(4, q.2.2.2.2), (3, svv q.2.1.1), (5, svv q.2.2.1.1)]) (fun (q : List (SL × List (Int × SL)) × (SL × List (Int × SL)) × (SL × List (Int × SL)) × Nat × Value) => [(70, osl 1 33 encS q.2.2.2.2 (q.1 ++ [q.2.1])), (71, many qT (q.1 ++ [q.2.1])), (92, pp (svv q.2.1.1) q.2.1.2), (80, pp (svv q.2.2.1.1) q.2.2.1.2)]) (fun (q : List (SL × List (Int × SL)) × (SL × List (Int × SL)) × (SL × List (Int × SL)) × Nat × Value) => (Vp (ints q.2.1.2)) ∧ (Vp (ints q.2.2.1.2)) ∧ (cok q.2.2.2.1 (ints q.2.1.2) (ints q.2.2.1.2)) ∧ (intsT q.1 ++ schain q.2.2.2.1 (ints q.2.1.2) (ints q.2.2.1.2) = chn 12 (ints zs)) ∧ (q.2.1.2.length ≤ 8) ∧ (q.2.2.1.2.length ≤ 8) ∧ (q.1.length + q.2.2.1.2.length ≤ 25)) (fun (q : List (SL × List (Int × SL)) × (SL × List (Int × SL)) × (SL × List (Int × SL)) × Nat × Value) => q.2.2.1.2.length) ([], g, g_3, 12, _) ⟨by dsimp only; rw [hxe]; exact hvq, by dsimp only; rw [hye]; exact vp_pprim hvqd, by dsimp only; rw [hxe, hye]; exact hC3, by dsimp only; rw [hxe, hye]; rfl, by dsimp only; omega, by dsimp only; rw [← length_ints, hye, length_pprim]; omega, by dsimp only; rw [← length_ints, hye, length_pprim]; simp; omega⟩ ⟨rfl, rfl, rfl, trivial⟩ ⟨rfl, rfl, rfl, rfl, rfl, rfl, rfl, rfl, rfl, trivial⟩ ?_
  rintro ⟨ws, ex, ey, f, vo⟩ ⟨hvx, hvy, hck, hch, hx8, hy8, hwl⟩
  dsimp only at hvx hvy hck hch hx8 hy8 hwl
  simp only [List.cons_append, List.nil_append]
  have hlx := length_ints ex.2
  have hly := length_ints ey.2
  refine e_seq ?_
  refine e_seq ?_
  refine e_reg ?_
  refine mv rfl rfl ?_
  refine dt (d_len rfl rfl (i := 80) rfl rd_deep Tryz.underlying33) rfl ?_
  refine dt (d_gtr rfl rfl rfl) rfl ?_
  refine l_nil ?_
  refine x_then ?_
  refine e_cond rfl (fun h64 => ?_) (fun h64 => ?_)
  · have hy0 : ints ey.2 ≠ [] := fun e => by have h7 := congrArg List.length e; rw [hly] at h7; simp only [List.length_nil] at h7; omega
    obtain ⟨f0, rfl, hd, hle, hck2, hsc2⟩ := cok_step hck hy0
    refine e_skip ?_
    refine x_then ?_
    refine e_block ?_
    refine e_seq ?_
    refine e_reg ?_
    refine mv rfl rfl ?_
    refine mv rfl rfl ?_
    refine tt (t_bsg (i := 5) (ivs := [(0, _)]) (enc := encS) [ey] rfl rfl rfl ⟨rfl, rfl, trivial⟩ Tryz.underlying51 Tryz.ti33 rfl rfl rfl rfl rfl rfl pT.cells rfl rfl hw) rfl (fun v_2 _ => ?_)
    refine tt (t_appa (i := 70) (j := 5) (by_ := 24) rfl rfl rfl rfl rfl rfl (by decide) rfl (rd_osl pT) Tryz.underlying51 Tryz.ti33 rfl pT rfl rfl rfl (by simp; omega) (by decide) rfl hw) rfl (fun v_3 _ => ?_)
    refine as_ rfl rfl ?_
    refine l_nil ?_
    refine x_then ?_
    refine e_reg ?_
    refine mv rfl rfl ?_
    refine mv rfl rfl ?_
    refine mv rfl rfl ?_
    refine tt (t_call (n := 6) (r3_rem _ _ _ _ 8 (by omega) (by omega) (by omega) hvx.tr hvy.tr (by omega) (by have := msz_le hvx.sz; have := msz_le hvy.sz; omega)) rfl rfl rfl ⟨rfl, rfl, trivial⟩ Tryz.call73 (pre_same 92 rfl rfl rfl (pre_same 80 rfl rfl rfl pre_nil)) rfl hw) rfl (fun g_4 hg_4 => ?_)
    have hrl : (rrem 8 (ints ex.2) (ints ey.2)).length < (ints ey.2).length := (rrem_id hvy.tr hy0 8 (ints ex.2) hvx.tr (by omega)).2.1
    have hrm := msz_rrem (ints ey.2) 8 (ints ex.2)
    have hrt := (rrem_id hvy.tr hy0 8 (ints ex.2) hvx.tr (by omega)).1
    have hrl2 := congrArg List.length hg_4
    rw [length_ints] at hrl2
    refine tt (t_call (n := 7) (rp_neg _ _ (by rw [hg_4]; exact (msz_sz _).mono (by have := msz_le hvx.sz; have := msz_le hvy.sz; omega)) (by omega)) rfl rfl rfl ⟨rfl, trivial⟩ Tryz.call72 (pre_same 6 rfl rfl rfl pre_nil) rfl hw) rfl (fun g_5 hg_5 => ?_)
    have hnl := congrArg List.length hg_5
    rw [length_ints, hg_4] at hnl
    have hnl2 := pscale_len (rrem 8 (ints ex.2) (ints ey.2)) (-1)
    refine tt (t_call (n := 8) (rp_primitive_s _ _ (by rw [hg_5, hg_4]; exact (sz_pscale' (msz_sz _) (m := 1) (by decide)).mono (by have := msz_le hvx.sz; have := msz_le hvy.sz; omega)) (by omega) (fun h => pcont_ne (by rw [hg_5]; exact tr_pscale _ _) (fun e => h (by rw [← length_ints, e]; rfl)))) rfl rfl rfl ⟨rfl, trivial⟩ Tryz.call70 (pre_same 7 rfl rfl rfl pre_nil) rfl hw) rfl (fun g_6 hg_6 => ?_)
    refine as_ rfl rfl ?_
    refine as_ rfl rfl ?_
    refine l_nil ?_
    refine x_bn ?_
    have hsn := snext_ref (f := 8) hvx.tr hvy.tr hy0 (by omega) (by omega)
    have hnx : ints g_6.2 = snext (ints ex.2) (ints ey.2) := by rw [show ints g_6.2 = pprim _ from hg_6, hg_5, hg_4]; exact hsn
    have hsl := length_snext (y := ints ey.2) hvx.tr
    have hpl := length_prest_lt (ints ex.2) hy0
    have hnxl := congrArg List.length hnx
    rw [length_ints] at hnxl
    refine x_imp (s_many_snoc (q := qT) (z := ey) 71 80 71 rfl rfl rfl rfl rfl) ?_
    refine x_imp (s_dup 80 92 rfl rfl rfl) ?_
    refine x_imp (s_dup 8 80 rfl rfl rfl) ?_
    exact x_rnd (ws ++ [ex], ey, g_6, f0, _) ⟨hvy, by dsimp only; rw [hnx]; exact vp_snext hvx hd, by dsimp only; rw [hnx]; exact hck2, by dsimp only; rw [hnx, ← hch, hsc2]; simp [intsT], hy8, by dsimp only; omega, by dsimp only; simp; omega⟩ (by dsimp only; omega) ⟨rfl, rfl, rfl, trivial⟩ ⟨rfl, rfl, rfl, rfl, rfl, rfl, rfl, rfl, rfl, trivial⟩
  · refine e_exit ?_
    refine x_exit ?_
    refine x_exit ?_
    refine x_be ?_
    refine x_then ?_
    refine e_seq ?_
    have hy0 : ints ey.2 = [] := List.eq_nil_of_length_eq_zero (by omega)
    refine e_imp (s_pub 70 rfl rfl pT) ?_
    refine e_imp (s_mkdeep 70 71 72 rfl rfl rfl rfl) ?_
    refine e_reg ?_
    refine mv rfl rfl ?_
    refine as_ rfl rfl ?_
    refine l_nil ?_
    refine x_then ?_
    refine e_ret ?_
    exact x_end (.inl rfl) hsc (_, ws ++ [ex]) _ (fun a w hs => res1 hs Tryz.results23 rfl) rfl (by rw [← hch, hy0, schain_nil]; simp [intsT]) rfl (give_same 72 rfl rfl rfl give_nil)
end Go.Sky
namespace Go.Sky
open Go.Proofs
set_option maxRecDepth 20000
set_option maxHeartbeats 4000000
set_option linter.unusedVariables false
set_option linter.unusedSimpArgs false
theorem law_first_bad (v : Value) (r : List (Bool × ByteArray)) (x y x2 y2 : Int) (hx : bl x.natAbs ≤ 65536) (hy : bl y.natAbs ≤ 65536) (hx2 : bl x2.natAbs ≤ 65536) (hy2 : bl y2.natAbs ≤ 65536) (hp : 0 < y) (hp2 : 0 < y2) (hb : okP r = false) : Cal Tryz.prog 21 #[v, .agg #[.bool (decide (x < 0)), .string (bstr x.natAbs), .bool (decide (y < 0)), .string (bstr y.natAbs)], .agg #[.bool (decide (x2 < 0)), .string (bstr x2.natAbs), .bool (decide (y2 < 0)), .string (bstr y2.natAbs)]] [slp 2 encW v r] false (G := Unit) (fun _ => True) (fun _ => .int .i64 (firstE r x y x2 y2)) (fun _ => []) := by
 refine cal_in Tryz.func21 rfl Tryz.ntmps21 rfl ⟨rfl, trivial⟩ ?_
 intro w0 sc hw hsc
 simp only [enumEnv, enumPre]
 refine e_seq (e_reg (tt (t_box (i := 2) rfl rfl rfl rfl rfl rfl hw) rfl (fun b _ => ?_)))
 refine tt (t_box (i := 3) rfl rfl rfl rfl rfl rfl hw) rfl (fun b_2 _ => ?_)
 refine as_ rfl rfl (l_nil (x_then (e_seq (e_seq (e_reg (mv rfl rfl (tt (t_call (n := 3) (rp_valid _ _) rfl rfl rfl ⟨rfl, trivial⟩ Tryz.call13 (pre_same 1 rfl rfl rfl pre_nil) rfl hw) rfl (fun _ _ => ?_))))))))
 refine dt (det_is (r' := .bool true) (d_notb rfl rfl) (congrArg Value.bool (by rw [hb]; rfl))) rfl ?_
 refine mv rfl rfl (gsk rfl rfl rfl rfl rfl (gsk rfl rfl rfl rfl rfl (gsk rfl rfl rfl rfl rfl (dt (d_pickt rfl rfl rfl) rfl ?_))))
 refine mv rfl rfl (gsk rfl rfl rfl rfl rfl (gsk rfl rfl rfl rfl rfl (gsk rfl rfl rfl rfl rfl (dt (d_pickt rfl rfl rfl) rfl ?_))))
 refine l_nil (x_then (e_condt rfl ?_))
 refine e_seq (e_reg (as_ rfl rfl (l_nil (x_then (e_ret (x_ret ?_))))))
 exact x_end (.inl rfl) hsc () _ (fun a w hs => res1 hs Tryz.results21 rfl) (by rw [firstE_2 _ _ _ _ hb]) trivial rfl give_nil
theorem law_first_nil (v : Value) (r : List (Bool × ByteArray)) (x y x2 y2 : Int) (hx : bl x.natAbs ≤ 65536) (hy : bl y.natAbs ≤ 65536) (hx2 : bl x2.natAbs ≤ 65536) (hy2 : bl y2.natAbs ≤ 65536) (hp : 0 < y) (hp2 : 0 < y2) (hok : okP r = true) (h0 : r.length = 0) : Cal Tryz.prog 21 #[v, .agg #[.bool (decide (x < 0)), .string (bstr x.natAbs), .bool (decide (y < 0)), .string (bstr y.natAbs)], .agg #[.bool (decide (x2 < 0)), .string (bstr x2.natAbs), .bool (decide (y2 < 0)), .string (bstr y2.natAbs)]] [slp 2 encW v r] false (G := Unit) (fun _ => True) (fun _ => .int .i64 (firstE r x y x2 y2)) (fun _ => []) := by
 refine cal_in Tryz.func21 rfl Tryz.ntmps21 rfl ⟨rfl, trivial⟩ ?_
 intro w0 sc hw hsc
 simp only [enumEnv, enumPre]
 refine e_seq (e_reg (tt (t_box (i := 2) rfl rfl rfl rfl rfl rfl hw) rfl (fun b _ => ?_)))
 refine tt (t_box (i := 3) rfl rfl rfl rfl rfl rfl hw) rfl (fun b_2 _ => ?_)
 refine as_ rfl rfl (l_nil (x_then (e_seq (e_seq (e_reg (mv rfl rfl (tt (t_call (n := 3) (rp_valid _ _) rfl rfl rfl ⟨rfl, trivial⟩ Tryz.call13 (pre_same 1 rfl rfl rfl pre_nil) rfl hw) rfl (fun _ _ => ?_))))))))
 refine dt (det_is (r' := .bool false) (d_notb rfl rfl) (congrArg Value.bool (by rw [hok]; rfl))) rfl ?_
 refine mv rfl rfl (gdt (d_lb4 (i := 2) rfl rfl rfl Tryz.isAgg49 Tryz.sizeOf49 rfl rfl rfl rfl) rfl rfl rfl rfl ?_)
 refine gtt (t_call (n := 3) (r_validratio _ _ _ _) rfl rfl rfl ⟨rfl, trivial⟩ Tryz.call45 pre_nil rfl hw) rfl rfl rfl rfl (fun _ _ => ?_)
 refine gdt (det_is (r' := .bool false) (d_notb rfl rfl) (congrArg Value.bool (by rw [okR_wv hx hy hp]; rfl))) rfl rfl rfl rfl ?_
 refine dt (d_pickf rfl rfl rfl) rfl ?_
 refine mv rfl rfl (gdt (d_lb4 (i := 3) rfl rfl rfl Tryz.isAgg49 Tryz.sizeOf49 rfl rfl rfl rfl) rfl rfl rfl rfl ?_)
 refine gtt (t_call (n := 3) (r_validratio _ _ _ _) rfl rfl rfl ⟨rfl, trivial⟩ Tryz.call45 pre_nil rfl hw) rfl rfl rfl rfl (fun _ _ => ?_)
 refine gdt (det_is (r' := .bool false) (d_notb rfl rfl) (congrArg Value.bool (by rw [okR_wv hx2 hy2 hp2]; rfl))) rfl rfl rfl rfl ?_
 refine dt (d_pickf rfl rfl rfl) rfl ?_
 refine l_nil (x_then (e_condf rfl ?_))
 refine e_skip ?_
 refine x_then (e_seq (e_seq (e_dreg (fun _ => False) [(0, 0), (1, 0), (2, 0), (3, 0), (4, 2), (5, 2), (6, 2), (7, 2), (8, 2), (9, 2), (10, 0)] (by kernel_rfl) ?_ ?_)))
 ·kernel_rfl
 refine r0' rfl rfl rfl rfl (st0 (d_mv rfl rfl)) ?_
 refine r0' rfl rfl rfl rfl (st0 (d_len rfl rfl (i := 1) rfl rd_slp Tryz.underlying23)) ?_
 refine r0' rfl rfl rfl rfl (st0 (det_is (r' := .bool true) (d_eql rfl rfl rfl) (congrArg Value.bool (decide_eq_true (by omega))))) ?_
 refine r0' rfl rfl rfl rfl (st0 (d_mv rfl rfl)) ?_
 refine r2 rfl rfl rfl rfl rfl rfl rfl rfl ?_
 refine r2 rfl rfl rfl rfl rfl rfl rfl rfl ?_
 refine r2 rfl rfl rfl rfl rfl rfl rfl rfl ?_
 refine r2 rfl rfl rfl rfl rfl rfl rfl rfl ?_
 refine r2 rfl rfl rfl rfl rfl rfl rfl rfl ?_
 refine r2 rfl rfl rfl rfl rfl rfl rfl rfl ?_
 refine r0' rfl rfl rfl rfl (st0 (d_pickt rfl rfl rfl)) ?_
 refine r_end ?_
 refine x_then (e_condt rfl ?_)
 refine e_seq (e_reg (as_ rfl rfl (l_nil (x_then (e_ret (x_ret ?_))))))
 exact x_end (.inl rfl) hsc () _ (fun a w hs => res1 hs Tryz.results21 rfl) (by rw [firstE_3 hok (by first | (left; omega) | (right; assumption))]) trivial rfl give_nil
theorem law_first (v : Value) (r : List (Bool × ByteArray)) (x y x2 y2 : Int) (hx : bl x.natAbs ≤ 65536) (hy : bl y.natAbs ≤ 65536) (hx2 : bl x2.natAbs ≤ 65536) (hy2 : bl y2.natAbs ≤ 65536) (hp : 0 < y) (hp2 : 0 < y2) (hok : okP r = true) (h0 : r.length ≠ 0) : Cal Tryz.prog 21 #[v, .agg #[.bool (decide (x < 0)), .string (bstr x.natAbs), .bool (decide (y < 0)), .string (bstr y.natAbs)], .agg #[.bool (decide (x2 < 0)), .string (bstr x2.natAbs), .bool (decide (y2 < 0)), .string (bstr y2.natAbs)]] [slp 2 encW v r] false (G := Unit) (fun _ => True) (fun _ => .int .i64 (firstE r x y x2 y2)) (fun _ => []) := by
 refine cal_in Tryz.func21 rfl Tryz.ntmps21 rfl ⟨rfl, trivial⟩ ?_
 intro w0 sc hw hsc
 simp only [enumEnv, enumPre]
 refine e_seq (e_reg (tt (t_box (i := 2) rfl rfl rfl rfl rfl rfl hw) rfl (fun b _ => ?_)))
 refine tt (t_box (i := 3) rfl rfl rfl rfl rfl rfl hw) rfl (fun b_2 _ => ?_)
 refine as_ rfl rfl (l_nil (x_then (e_seq (e_seq (e_reg (mv rfl rfl (tt (t_call (n := 3) (rp_valid _ _) rfl rfl rfl ⟨rfl, trivial⟩ Tryz.call13 (pre_same 1 rfl rfl rfl pre_nil) rfl hw) rfl (fun _ _ => ?_))))))))
 refine dt (det_is (r' := .bool false) (d_notb rfl rfl) (congrArg Value.bool (by rw [hok]; rfl))) rfl ?_
 refine mv rfl rfl (gdt (d_lb4 (i := 2) rfl rfl rfl Tryz.isAgg49 Tryz.sizeOf49 rfl rfl rfl rfl) rfl rfl rfl rfl ?_)
 refine gtt (t_call (n := 3) (r_validratio _ _ _ _) rfl rfl rfl ⟨rfl, trivial⟩ Tryz.call45 pre_nil rfl hw) rfl rfl rfl rfl (fun _ _ => ?_)
 refine gdt (det_is (r' := .bool false) (d_notb rfl rfl) (congrArg Value.bool (by rw [okR_wv hx hy hp]; rfl))) rfl rfl rfl rfl ?_
 refine dt (d_pickf rfl rfl rfl) rfl ?_
 refine mv rfl rfl (gdt (d_lb4 (i := 3) rfl rfl rfl Tryz.isAgg49 Tryz.sizeOf49 rfl rfl rfl rfl) rfl rfl rfl rfl ?_)
 refine gtt (t_call (n := 3) (r_validratio _ _ _ _) rfl rfl rfl ⟨rfl, trivial⟩ Tryz.call45 pre_nil rfl hw) rfl rfl rfl rfl (fun _ _ => ?_)
 refine gdt (det_is (r' := .bool false) (d_notb rfl rfl) (congrArg Value.bool (by rw [okR_wv hx2 hy2 hp2]; rfl))) rfl rfl rfl rfl ?_
 refine dt (d_pickf rfl rfl rfl) rfl ?_
 refine l_nil (x_then (e_condf rfl ?_))
 refine e_skip ?_
 refine x_then (e_seq (e_seq (e_dreg (fun _ => False) [(0, 0), (1, 0), (2, 0), (3, 0), (4, 0), (6, 0), (5, 1), (7, 1), (8, 1), (9, 0), (10, 0)] (by kernel_rfl) ?_ ?_)))
 ·kernel_rfl
 refine r0' rfl rfl rfl rfl (st0 (d_mv rfl rfl)) ?_
 refine r0' rfl rfl rfl rfl (st0 (d_len rfl rfl (i := 1) rfl rd_slp Tryz.underlying23)) ?_
 refine r0' rfl rfl rfl rfl (st0 (det_is (r' := .bool false) (d_eql rfl rfl rfl) (congrArg Value.bool (decide_eq_false (by omega))))) ?_
 refine r0' rfl rfl rfl rfl (st0 (d_mv rfl rfl)) ?_
 refine r0g (st0 (d_lb4 (i := 2) rfl rfl rfl Tryz.isAgg49 Tryz.sizeOf49 rfl rfl rfl rfl)) rfl rfl rfl rfl rfl rfl rfl ?_
 refine r0g (st0 (d_lb4 (i := 3) rfl rfl rfl Tryz.isAgg49 Tryz.sizeOf49 rfl rfl rfl rfl)) rfl rfl rfl rfl rfl rfl rfl ?_
 refine r1g' rfl rfl rfl rfl rfl (t_call (n := 4) (r_fromratio x y (by omega) (by omega)) rfl rfl rfl ⟨rfl, trivial⟩ Tryz.call32 pre_nil rfl hw) (fun g _ => ?_)
 refine r1g' rfl rfl rfl rfl rfl (t_call (n := 6) (r_fromratio x2 y2 (by omega) (by omega)) rfl rfl rfl ⟨rfl, trivial⟩ Tryz.call32 pre_nil rfl hw) (fun g_2 _ => ?_)
 refine r1g' rfl rfl rfl rfl rfl (t_call (n := 7) (r_compareq _ _ _ _ x y x2 y2 (by omega) (by omega) (by omega) (by omega)) rfl rfl rfl ⟨rfl, rfl, trivial⟩ Tryz.call46 (pre_same 4 rfl rfl rfl (pre_same 5 rfl rfl rfl (pre_same 6 rfl rfl rfl (pre_same 7 rfl rfl rfl pre_nil)))) rfl hw) (fun _ _ => ?_)
 refine r0g (st0 (d_gtr rfl rfl rfl)) rfl rfl rfl rfl rfl rfl rfl ?_
 refine r0' rfl rfl rfl rfl (st0 (d_pickf rfl rfl rfl)) ?_
 refine r_end ?_
 refine x_then (e_cond rfl (fun h85 => ?_) (fun h85 => ?_))
 ·refine e_seq (e_reg (as_ rfl rfl (l_nil (x_then (e_ret (x_ret ?_))))))
  exact x_end (.inl rfl) hsc () _ (fun a w hs => res1 hs Tryz.results21 rfl) (by rw [firstE_3 hok (by first | (left; omega) | (right; assumption))]) trivial rfl give_nil
 ·refine e_skip ?_
  refine x_then (e_seq (e_reg (as_ rfl rfl (l_nil (x_then (e_ret ?_))))))
  exact x_end (.inl rfl) hsc () _ (fun a w hs => res1 hs Tryz.results21 rfl) (by rw [firstE_0 hok h0 (by assumption)]) trivial rfl give_nil
end Go.Sky
namespace Go.Sky
open Go.Proofs
set_option maxRecDepth 20000
set_option maxHeartbeats 4000000
set_option linter.unusedVariables false
set_option linter.unusedSimpArgs false
set_option maxHeartbeats 4000000 in
theorem law_chains_no (v : Value) (r : List (Bool × ByteArray)) (hs : smallR r = false) : Cal Tryz.prog 4 #[v] [slp 2 encW v r] false (G := Unit) (fun _ => True) (fun _ => .bool true) (fun _ => []) := by
 refine cal_in Tryz.func4 rfl Tryz.ntmps4 rfl ⟨rfl, trivial⟩ ?_
 intro w0 sc hw hsc
 simp only [enumEnv, enumPre]
 refine e_imp (s_nil 999 2 28 wv) ?_
 refine e_imp (s_pub 999 rfl rfl pV) ?_
 refine e_seq (e_reg (as_ rfl rfl (l_nil (x_then (e_seq (e_seq (e_reg (mv rfl rfl (tt (t_call (n := 1) (law_small _ _) rfl rfl rfl ⟨rfl, trivial⟩ Tryz.call10 (pre_same 1 rfl rfl rfl pre_nil) rfl hw) rfl (fun _ _ => ?_))))))))))
 refine dt (det_is (r' := .bool true) (d_notb rfl rfl) (congrArg Value.bool (by rw [hs]; rfl))) rfl ?_
 refine l_nil (x_then (e_condt rfl ?_))
 refine e_seq (e_reg (tt (t_call (n := 1) (law_known) rfl rfl rfl trivial Tryz.call11 pre_nil rfl hw) rfl (fun _ _ => ?_)))
 refine as_ rfl rfl (l_nil (x_then (e_ret (x_ret ?_))))
 exact x_end (.inl rfl) hsc () _ (fun a w hs => res1 hs Tryz.results4 rfl) rfl trivial rfl give_nil
set_option maxHeartbeats 4000000 in
theorem law_chains_bad (v : Value) (r : List (Bool × ByteArray)) (hs : smallR r = true) (hb : okP r = false) : Cal Tryz.prog 4 #[v] [slp 2 encW v r] false (G := Unit) (fun _ => True) (fun _ => .bool true) (fun _ => []) := by
 refine cal_in Tryz.func4 rfl Tryz.ntmps4 rfl ⟨rfl, trivial⟩ ?_
 intro w0 sc hw hsc
 simp only [enumEnv, enumPre]
 refine e_imp (s_nil 999 2 28 wv) ?_
 refine e_imp (s_pub 999 rfl rfl pV) ?_
 refine e_seq (e_reg (as_ rfl rfl (l_nil (x_then (e_seq (e_seq (e_reg (mv rfl rfl (tt (t_call (n := 1) (law_small _ _) rfl rfl rfl ⟨rfl, trivial⟩ Tryz.call10 (pre_same 1 rfl rfl rfl pre_nil) rfl hw) rfl (fun _ _ => ?_))))))))))
 refine dt (det_is (r' := .bool false) (d_notb rfl rfl) (congrArg Value.bool (by rw [hs]; rfl))) rfl ?_
 refine l_nil (x_then (e_condf rfl ?_))
 refine e_skip ?_
 refine x_then (e_seq (e_reg (mv rfl rfl (tt (t_call (n := 1) (st_sqf_bad _ _ hb) rfl rfl rfl ⟨rfl, trivial⟩ Tryz.call19 (pre_same 1 rfl rfl rfl pre_nil) rfl hw) rfl (fun _ _ => ?_)))))
 refine mv rfl rfl (dt (d_ex rfl rfl rfl) rfl ?_)
 refine dt (d_ex rfl rfl rfl) rfl ?_
 refine as_ rfl rfl (as_ rfl rfl (l_nil (x_then (e_seq (e_reg (mv rfl rfl (tt (t_call (n := 1) (st_chain_bad _ _ hb) rfl rfl rfl ⟨rfl, trivial⟩ Tryz.call20 (pre_same 1 rfl rfl rfl pre_nil) rfl hw) rfl (fun _ _ => ?_))))))))
 refine mv rfl rfl (dt (d_ex rfl rfl rfl) rfl ?_)
 refine dt (d_ex rfl rfl rfl) rfl ?_
 refine as_ rfl rfl (as_ rfl rfl (l_nil (x_then (e_seq (e_seq (e_reg (mv rfl rfl (tt (t_call (n := 1) (law_q _ _ ⟨by decide, by decide⟩ ⟨by decide, by decide⟩) rfl rfl rfl ⟨rfl, rfl, trivial⟩ Tryz.call22 pre_nil rfl hw) rfl (fun _ _ => ?_)))))))))
 refine tt (t_call (n := 1) (law_q _ _ ⟨by decide, by decide⟩ ⟨by decide, by decide⟩) rfl rfl rfl ⟨rfl, rfl, trivial⟩ Tryz.call22 pre_nil rfl hw) rfl (fun _ _ => ?_)
 refine tt (t_call (n := 1) (law_first_bad _ _ 0 1 0 1 (by decide) (by decide) (by decide) (by decide) (by decide) (by decide) hb) rfl rfl rfl ⟨rfl, rfl, rfl, trivial⟩ Tryz.call21 (pre_same 1 rfl rfl rfl pre_nil) rfl hw) rfl (fun _ _ => ?_)
 refine as_ rfl rfl (l_nil (x_then (e_seq (e_reg (mv rfl rfl (dt (det_is (r' := .bool true) (d_neq rfl rfl rfl) (congrArg Value.bool (by rw [firstE_2 _ _ _ _ hb]; decide))) rfl ?_))))))
 refine l_nil (x_then (e_condt rfl ?_))
 refine e_seq (e_reg (mv rfl rfl (dt (d_len rfl rfl (i := 999) rfl rd_slp Tryz.underlying23) rfl ?_)))
 refine dt (det_is (r' := .bool true) (d_eql rfl rfl rfl) (congrArg Value.bool (by decide))) rfl ?_
 refine mv rfl rfl (gdt (d_mv rfl rfl) rfl rfl rfl rfl ?_)
 refine gdt (d_mv rfl rfl) rfl rfl rfl rfl ?_
 refine gdt (det_is (r' := .bool true) (d_eql rfl rfl rfl) (congrArg Value.bool (by rw [firstE_2 _ _ _ _ hb]; decide))) rfl rfl rfl rfl ?_
 refine dt (d_pickt rfl rfl rfl) rfl ?_
 refine mv rfl rfl (gdt (d_mv rfl rfl) rfl rfl rfl rfl ?_)
 refine gdt (d_len rfl rfl (i := 999) rfl rd_slp Tryz.underlying44) rfl rfl rfl rfl ?_
 refine gdt (det_is (r' := .bool true) (d_eql rfl rfl rfl) (congrArg Value.bool (by decide))) rfl rfl rfl rfl ?_
 refine dt (d_pickt rfl rfl rfl) rfl ?_
 refine mv rfl rfl (gdt (d_mv rfl rfl) rfl rfl rfl rfl ?_)
 refine gdt (d_mv rfl rfl) rfl rfl rfl rfl ?_
 refine gdt (det_is (r' := .bool true) (d_eql rfl rfl rfl) (congrArg Value.bool (by rw [firstE_2 _ _ _ _ hb]; decide))) rfl rfl rfl rfl ?_
 refine dt (d_pickt rfl rfl rfl) rfl ?_
 refine mv rfl rfl (gtt (t_call (n := 1) (law_known) rfl rfl rfl trivial Tryz.call11 pre_nil rfl hw) rfl rfl rfl rfl (fun _ _ => ?_))
 refine dt (d_pickt rfl rfl rfl) rfl ?_
 refine as_ rfl rfl (l_nil (x_then (e_ret (x_ret ?_))))
 exact x_end (.inl rfl) hsc () _ (fun a w hs => res1 hs Tryz.results4 rfl) rfl trivial rfl give_nil
set_option maxHeartbeats 4000000 in
theorem law_chains_nil (v : Value) (r : List (Bool × ByteArray)) (hs : smallR r = true) (hok : okP r = true) (h0 : r.length = 0) : Cal Tryz.prog 4 #[v] [slp 2 encW v r] false (G := Unit) (fun _ => True) (fun _ => .bool true) (fun _ => []) := by
 refine cal_in Tryz.func4 rfl Tryz.ntmps4 rfl ⟨rfl, trivial⟩ ?_
 intro w0 sc hw hsc
 simp only [enumEnv, enumPre]
 obtain ⟨hs48, hl8, hle⟩ := small_dec hs hok
 obtain ⟨hv, -⟩ := dec_ok hok
 have hc3 : chk0 (dec r) = 3 := by unfold chk0; rw [if_pos (by omega)]
 refine e_imp (s_nil 999 2 28 wv) ?_
 refine e_imp (s_pub 999 rfl rfl pV) ?_
 refine e_seq (e_reg (as_ rfl rfl (l_nil (x_then (e_seq (e_seq (e_reg (mv rfl rfl (tt (t_call (n := 1) (law_small _ _) rfl rfl rfl ⟨rfl, trivial⟩ Tryz.call10 (pre_same 1 rfl rfl rfl pre_nil) rfl hw) rfl (fun _ _ => ?_))))))))))
 refine dt (det_is (r' := .bool false) (d_notb rfl rfl) (congrArg Value.bool (by rw [hs]; rfl))) rfl ?_
 refine l_nil (x_then (e_condf rfl ?_))
 refine e_skip ?_
 refine x_then (e_seq (e_imp (s_sub (q := slp 2 wv _ (dec r)) 1 88 rfl rfl rfl (slp_dec hok _) (fun _ h => h) rfl) ?_))
 refine e_reg (mv rfl rfl (tt (t_call (n := 1) (st_sqf_err _ _ hv (by rw [hc3]; decide)) rfl rfl rfl ⟨rfl, trivial⟩ Tryz.call19 (pre_same 88 rfl rfl rfl pre_nil) rfl hw) rfl (fun _ _ => ?_)))
 refine mv rfl rfl (dt (d_ex rfl rfl rfl) rfl ?_)
 refine dt (d_ex rfl rfl rfl) rfl ?_
 refine as_ rfl rfl (as_ rfl rfl (l_nil (x_then (e_seq (e_reg (mv rfl rfl (tt (t_call (n := 1) (st_chain_err _ _ hv (by rw [hc3]; decide)) rfl rfl rfl ⟨rfl, trivial⟩ Tryz.call20 (pre_same 88 rfl rfl rfl pre_nil) rfl hw) rfl (fun _ _ => ?_))))))))
 refine mv rfl rfl (dt (d_ex rfl rfl rfl) rfl ?_)
 refine dt (d_ex rfl rfl rfl) rfl ?_
 refine as_ rfl rfl (as_ rfl rfl (l_nil (x_then (e_seq (e_seq (e_reg (mv rfl rfl (tt (t_call (n := 1) (law_q _ _ ⟨by decide, by decide⟩ ⟨by decide, by decide⟩) rfl rfl rfl ⟨rfl, rfl, trivial⟩ Tryz.call22 pre_nil rfl hw) rfl (fun _ _ => ?_)))))))))
 refine tt (t_call (n := 1) (law_q _ _ ⟨by decide, by decide⟩ ⟨by decide, by decide⟩) rfl rfl rfl ⟨rfl, rfl, trivial⟩ Tryz.call22 pre_nil rfl hw) rfl (fun _ _ => ?_)
 refine tt (t_call (n := 1) (law_first_nil _ _ 0 1 0 1 (by decide) (by decide) (by decide) (by decide) (by decide) (by decide) hok h0) rfl rfl rfl ⟨rfl, rfl, rfl, trivial⟩ Tryz.call21 (pre_same 1 rfl rfl rfl pre_nil) rfl hw) rfl (fun _ _ => ?_)
 refine as_ rfl rfl (l_nil (x_then (e_seq (e_reg (mv rfl rfl (dt (det_is (r' := .bool true) (d_neq rfl rfl rfl) (congrArg Value.bool (by rw [firstE_3 hok (.inl h0)]; decide))) rfl ?_))))))
 refine l_nil (x_then (e_condt rfl ?_))
 refine e_seq (e_reg (mv rfl rfl (dt (d_len rfl rfl (i := 999) rfl rd_slp Tryz.underlying23) rfl ?_)))
 refine dt (det_is (r' := .bool true) (d_eql rfl rfl rfl) (congrArg Value.bool (by decide))) rfl ?_
 refine mv rfl rfl (gdt (d_mv rfl rfl) rfl rfl rfl rfl ?_)
 refine gdt (d_mv rfl rfl) rfl rfl rfl rfl ?_
 refine gdt (det_is (r' := .bool true) (d_eql rfl rfl rfl) (congrArg Value.bool (by rw [firstE_3 hok (.inl h0), hc3]; decide))) rfl rfl rfl rfl ?_
 refine dt (d_pickt rfl rfl rfl) rfl ?_
 refine mv rfl rfl (gdt (d_mv rfl rfl) rfl rfl rfl rfl ?_)
 refine gdt (d_len rfl rfl (i := 999) rfl rd_slp Tryz.underlying44) rfl rfl rfl rfl ?_
 refine gdt (det_is (r' := .bool true) (d_eql rfl rfl rfl) (congrArg Value.bool (by decide))) rfl rfl rfl rfl ?_
 refine dt (d_pickt rfl rfl rfl) rfl ?_
 refine mv rfl rfl (gdt (d_mv rfl rfl) rfl rfl rfl rfl ?_)
 refine gdt (d_mv rfl rfl) rfl rfl rfl rfl ?_
 refine gdt (det_is (r' := .bool true) (d_eql rfl rfl rfl) (congrArg Value.bool (by rw [firstE_3 hok (.inl h0), hc3]; decide))) rfl rfl rfl rfl ?_
 refine dt (d_pickt rfl rfl rfl) rfl ?_
 refine mv rfl rfl (gtt (t_call (n := 1) (law_known) rfl rfl rfl trivial Tryz.call11 pre_nil rfl hw) rfl rfl rfl rfl (fun _ _ => ?_))
 refine dt (d_pickt rfl rfl rfl) rfl ?_
 refine as_ rfl rfl (l_nil (x_then (e_ret (x_ret ?_))))
 exact x_end (.inl rfl) hsc () _ (fun a w hs => res1 hs Tryz.results4 rfl) rfl trivial rfl give_nil
set_option maxHeartbeats 4000000 in
theorem law_chains_ok (v : Value) (r : List (Bool × ByteArray)) (hs : smallR r = true) (hok : okP r = true) (h0 : r.length ≠ 0) : Cal Tryz.prog 4 #[v] [slp 2 encW v r] false (G := Unit) (fun _ => True) (fun _ => .bool true) (fun _ => []) := by
 refine cal_in Tryz.func4 rfl Tryz.ntmps4 rfl ⟨rfl, trivial⟩ ?_
 intro w0 sc hw hsc
 simp only [enumEnv, enumPre]
 obtain ⟨hs48, hl8, hle⟩ := small_dec hs hok
 obtain ⟨hv, -⟩ := dec_ok hok
 have hne : dec r ≠ [] := fun e => h0 (by rw [← hle, e]; rfl)
 have hsf := small_chk hs48 hl8
 obtain ⟨hC, hq, hql⟩ := ch8 hv.tr hne hs48 hl8
 refine e_imp (s_nil 999 2 28 wv) ?_
 refine e_imp (s_pub 999 rfl rfl pV) ?_
 refine e_seq (e_reg (as_ rfl rfl (l_nil (x_then (e_seq (e_seq (e_reg (mv rfl rfl (tt (t_call (n := 1) (law_small _ _) rfl rfl rfl ⟨rfl, trivial⟩ Tryz.call10 (pre_same 1 rfl rfl rfl pre_nil) rfl hw) rfl (fun _ _ => ?_))))))))))
 refine dt (det_is (r' := .bool false) (d_notb rfl rfl) (congrArg Value.bool (by rw [hs]; rfl))) rfl ?_
 refine l_nil (x_then (e_condf rfl ?_))
 refine e_skip ?_
 refine x_then (e_seq (e_imp (s_sub (q := slp 2 wv _ (dec r)) 1 88 rfl rfl rfl (slp_dec hok _) (fun _ h => h) rfl) ?_))
 refine e_reg (mv rfl rfl (tt (t_call (n := 2) (st_sqf _ _ hv hne hsf 12 hC.1) rfl rfl rfl ⟨rfl, trivial⟩ Tryz.call19 (pre_same 88 rfl rfl rfl pre_nil) rfl hw) rfl (fun _ _ => ?_)))
 refine mv rfl rfl (dt (d_ex rfl rfl rfl) rfl ?_)
 refine dt (d_ex rfl rfl rfl) rfl ?_
 refine as_ rfl rfl (as_ rfl rfl (l_nil (x_then (e_seq (e_reg (mv rfl rfl (tt (t_call (n := 3) (st_chain _ _ hv hne hsf 12 hC) rfl rfl rfl ⟨rfl, trivial⟩ Tryz.call20 (pre_same 88 rfl rfl rfl pre_nil) rfl hw) rfl (fun g hg => ?_))))))))
 refine mv rfl rfl (dt (d_ex rfl rfl rfl) rfl ?_)
 refine dt (d_ex rfl rfl rfl) rfl ?_
 refine as_ rfl rfl (as_ rfl rfl (l_nil (x_then (e_seq (e_seq (e_reg (mv rfl rfl (tt (t_call (n := 3) (law_q _ _ ⟨by decide, by decide⟩ ⟨by decide, by decide⟩) rfl rfl rfl ⟨rfl, rfl, trivial⟩ Tryz.call22 pre_nil rfl hw) rfl (fun _ _ => ?_)))))))))
 refine tt (t_call (n := 3) (law_q _ _ ⟨by decide, by decide⟩ ⟨by decide, by decide⟩) rfl rfl rfl ⟨rfl, rfl, trivial⟩ Tryz.call22 pre_nil rfl hw) rfl (fun _ _ => ?_)
 refine tt (t_call (n := 3) (law_first _ _ 0 1 0 1 (by decide) (by decide) (by decide) (by decide) (by decide) (by decide) hok h0) rfl rfl rfl ⟨rfl, rfl, rfl, trivial⟩ Tryz.call21 (pre_same 1 rfl rfl rfl pre_nil) rfl hw) rfl (fun _ _ => ?_)
 refine as_ rfl rfl (l_nil (x_then (e_seq (e_reg (mv rfl rfl (dt (det_is (r' := .bool false) (d_neq rfl rfl rfl) (congrArg Value.bool (by rw [firstE_0 hok h0 (by decide)]; decide))) rfl ?_))))))
 refine l_nil (x_then (e_condf rfl ?_))
 refine e_skip ?_
 refine x_then (e_seq (e_reg (mv rfl rfl (tt (t_call (n := 4) (rp_from _ _ (hv.sz.mono (by omega)) (by omega)) rfl rfl rfl ⟨rfl, trivial⟩ Tryz.call15 (pre_same 88 rfl rfl rfl pre_nil) rfl hw) rfl (fun g_2 hg_2 => ?_)))))
 have hG : ints g_2.2 = dec r := hg_2
 refine as_ rfl rfl (l_nil (x_then (e_seq (e_reg (mv rfl rfl (tt (t_call (n := 5) (r3_chain _ _ (by rw [hG]; exact hv) (by have h7 := congrArg List.length hG; rw [length_ints] at h7; omega) (by rw [hG]; exact hs48) (by have h7 := congrArg List.length hG; rw [length_ints] at h7; omega)) rfl rfl rfl ⟨rfl, trivial⟩ Tryz.call23 (pre_same 4 rfl rfl rfl pre_nil) rfl hw) rfl (fun g_3 hg_3 => ?_)))))))
 have hc9 : intsT g_3.2 = chn 12 (dec r) := by rw [hg_3, hG]
 refine as_ rfl rfl (l_nil (x_then (e_seq (e_seq ?_))))
 have hkl := snd_len hg
 have hkc := intsT_len hc9
 have hll : (chn 12 (dec r)).length ≤ _ := length_schain 12 _ _
 refine e_reg (mv rfl rfl (mv rfl rfl (tt (t_call (n := 6) (r3_sqf _ _ (by rw [hG]; exact hv) (by have h7 := congrArg List.length hG; rw [length_ints] at h7; omega) (by rw [hG]; exact hs48) (by have h7 := congrArg List.length hG; rw [length_ints] at h7; omega)) rfl rfl rfl ⟨rfl, trivial⟩ Tryz.call26 (pre_same 4 rfl rfl rfl pre_nil) rfl hw) rfl (fun g_4 hg_4 => ?_))))
 have HSQ : ints g_4.2 = sqf 12 (ints g_2.2) := hg_4
 have hql2 := congrArg List.length HSQ
 rw [length_ints, hG] at hql2
 refine tt (t_call (n := 7) (rp_to _ _ (by rw [HSQ, hG]; exact hq.mono (by omega)) (by omega)) rfl rfl rfl ⟨rfl, trivial⟩ Tryz.call25 (pre_same 6 rfl rfl rfl pre_nil) rfl hw) rfl (fun v _ => ?_)
 refine tt (t_call (n := 7) (r_same_ii _ _ _ _) rfl rfl rfl ⟨rfl, rfl, trivial⟩ Tryz.call24 (pre_same 2 rfl rfl rfl (pre_same 7 rfl rfl rfl pre_nil)) rfl hw) rfl (fun _ _ => ?_)
 refine dt (det_is (r' := .bool false) (d_not rfl rfl) (congrArg Value.bool (by simp only [HSQ, hG]; simp))) rfl ?_
 refine mv rfl rfl (gdt (d_mv rfl rfl) rfl rfl rfl rfl ?_)
 refine gdt (det_is (r' := .bool false) (d_neq rfl rfl rfl) (congrArg Value.bool (by decide))) rfl rfl rfl rfl ?_
 refine dt (d_pickf rfl rfl rfl) rfl ?_
 refine mv rfl rfl (gdt (d_mv rfl rfl) rfl rfl rfl rfl ?_)
 refine gdt (d_len rfl rfl (i := 3) rfl rd_deep Tryz.underlying44) rfl rfl rfl rfl ?_
 refine gdt (d_mv rfl rfl) rfl rfl rfl rfl ?_
 refine gdt (d_len rfl rfl (i := 5) rfl rd_deep Tryz.underlying51) rfl rfl rfl rfl ?_
 refine gdt (det_is (r' := .bool false) (d_neq rfl rfl rfl) (congrArg Value.bool (decide_eq_false (by omega)))) rfl rfl rfl rfl ?_
 refine dt (d_pickf rfl rfl rfl) rfl ?_
 refine mv rfl rfl (gdt (d_mv rfl rfl) rfl rfl rfl rfl ?_)
 refine gdt (det_is (r' := .bool false) (d_neq rfl rfl rfl) (congrArg Value.bool (by decide))) rfl rfl rfl rfl ?_
 refine dt (d_pickf rfl rfl rfl) rfl ?_
 refine l_nil (x_then (e_condf rfl ?_))
 refine e_skip ?_
 refine x_then (e_seq (e_seq (e_reg (as_ rfl rfl (l_nil (x_then (e_block (e_lp [(5, _), (9, _)] [(0, _), (1, _), (999, _), (88, _), (2, _), (3, _), (4, _), (5, _), (6, _), (7, _)] (fun (i : Nat) => [(10, .int .i64 (i : Int))]) (fun (i : Nat) => []) (fun (i : Nat) => (i ≤ g_3.2.length)) (fun (i : Nat) => g_3.2.length - i) 0 (by first | omega | (dsimp only <;> omega)) ⟨rfl, rfl, rfl, trivial⟩ ⟨rfl, rfl, rfl, rfl, rfl, rfl, rfl, rfl, rfl, rfl, trivial⟩ ?_))))))))
 rintro i hi
 simp only [List.cons_append, List.nil_append]
 refine e_seq (e_seq (e_reg (mv rfl rfl (mv rfl rfl (dt (d_len rfl rfl (i := 5) rfl rd_deep Tryz.underlying51) rfl ?_)))))
 refine dt (d_lss rfl rfl rfl) rfl ?_
 refine l_nil (x_then (e_cond rfl (fun h134 => ?_) (fun h134 => ?_)))
 ·refine e_skip ?_
  refine x_then (e_seq (e_block (e_seq ?_)))
  have hsg := snd_getD hg i
  have htg := intsT_getD hc9 i
  have hvi := vp_chn hv hne hC _ (List.getElem_mem (l := chn 12 (dec r)) (n := i) (by omega))
  have hci : (chn 12 (dec r)).getD i [] = (chn 12 (dec r))[i]'(by omega) := by rw [List.getD_eq_getElem?_getD, List.getElem?_eq_getElem (by omega)]; rfl
  rw [← hci] at hvi
  refine e_imp (s_deep 3 91 (g.2.getD i Z0) rfl rfl (getD_mem (by omega)) rfl) ?_
  refine e_imp (s_deep 5 90 (g_3.2.getD i T0) rfl rfl (getD_mem (by omega)) rfl) ?_
  refine e_dreg (fun _ => False) [(0, 0), (1, 0), (2, 0), (3, 0), (4, 0), (5, 0), (6, 0), (7, 0), (8, 1), (9, 1), (10, 0)] (by kernel_rfl) ?_ ?_
  ·kernel_rfl
  refine r0' rfl rfl rfl rfl (st0 (d_mv rfl rfl)) ?_
  refine r0' rfl rfl rfl rfl (st0 (d_mv rfl rfl)) ?_
  refine r0' rfl rfl rfl rfl (st0 (d_ixa (ii := 3) rfl rfl rfl rfl rd_deep Tryz.underlying44 Tryz.sizeOf23 rfl (by first | omega | (simp only [List.length_set]; omega)))) ?_
  refine r0' rfl rfl rfl rfl (st0 (d_lde (ii := 3) Z0 rfl rfl rfl rd_deep pS (by first | omega | (simp only [List.length_set]; omega)))) ?_
  refine r0' rfl rfl rfl rfl (st0 (d_mv rfl rfl)) ?_
  refine r0' rfl rfl rfl rfl (st0 (d_mv rfl rfl)) ?_
  refine r0' rfl rfl rfl rfl (st0 (d_ixa (ii := 5) rfl rfl rfl rfl rd_deep Tryz.underlying51 Tryz.sizeOf33 rfl (by first | omega | (simp only [List.length_set]; omega)))) ?_
  refine r0' rfl rfl rfl rfl (st0 (d_lde (ii := 5) T0 rfl rfl rfl rd_deep pT (by first | omega | (simp only [List.length_set]; omega)))) ?_
  refine r1' rfl rfl (t_call (n := 8) (rp_to _ _ (by rw [htg]; exact hvi.sz.mono (by omega)) (by rw [← length_ints, htg]; have := hvi.len; omega)) rfl rfl rfl ⟨rfl, trivial⟩ Tryz.call25 (pre_same 90 rfl rfl rfl pre_nil) rfl hw) (fun v_2 _ => ?_)
  refine r1' rfl rfl (t_call (n := 8) (r_same_ii _ _ _ _) rfl rfl rfl ⟨rfl, rfl, trivial⟩ Tryz.call24 (pre_same 91 rfl rfl rfl (pre_same 8 rfl rfl rfl pre_nil)) rfl hw) (fun _ _ => ?_)
  refine r0' rfl rfl rfl rfl (st0 (det_is (r' := .bool false) (d_not rfl rfl) (congrArg Value.bool (by rw [hsg, htg]; simp)))) ?_
  refine r_end ?_
  refine x_then (e_condf rfl ?_)
  refine e_skip ?_
  refine x_bn ?_
  refine x_then (e_reg (mv rfl rfl (dt (d_add rfl rfl rfl ⟨by omega, by omega⟩) rfl ?_)))
  refine as_ rfl rfl (l_nil ?_)
  exact x_rnd (i + 1) (by first | omega | (dsimp only <;> omega)) (by first | omega | (dsimp only <;> omega)) ⟨rfl, rfl, rfl, trivial⟩ ⟨rfl, rfl, rfl, rfl, rfl, rfl, rfl, rfl, rfl, rfl, trivial⟩
 ·refine e_exit ?_
  refine x_exit (x_exit (x_be ?_))
  refine x_then (e_seq (e_reg (tt (t_call (n := 8) (law_known) rfl rfl rfl trivial Tryz.call11 pre_nil rfl hw) rfl (fun _ _ => ?_))))
  refine as_ rfl rfl (l_nil (x_then (e_ret ?_)))
  exact x_end (.inl rfl) hsc () _ (fun a w hs => res1 hs Tryz.results4 rfl) rfl trivial rfl give_nil
end Go.Sky
namespace Go.Sky
open Go.Proofs
theorem law_chains (v : Value) (r : List (Bool × ByteArray)) : Cal Tryz.prog 4 #[v] [slp 2 encW v r] false (G := Unit) (fun _ => True) (fun _ => .bool true) (fun _ => []) := by
  cases hs : smallR r with
  | false => exact law_chains_no v r hs
  | true =>
    cases hb : okP r with
    | false => exact law_chains_bad v r hs hb
    | true =>
      by_cases h0 : r.length = 0
      · exact law_chains_nil v r hs hb h0
      · exact law_chains_ok v r hs hb h0
end Go.Sky
namespace Go.Proofs.YtcegclhbeflgbaaGreat
open Go.ChangeShapes Go.WideShapes Go.ChangeAt Go.RowKit Go.Joins Go.Deep Go.Sky
set_option linter.unusedVariables false
theorem own : ownKnob Tryz.prog.godebug = none := by kernel_rfl
theorem laidOut : laidOutB Tryz.prog = true := by kernel_rfl
set_option maxRecDepth 100000 in
theorem lifted (os : Os) (started : os.Started) (H : Type) (enc : TypeId × Value → H) :
    ReturnsInHanded {} Tryz.checked os 4 .any (Rows.sturmChainsSpec.pre6 enc Tryz.prog Tryz.f4 Rows.sturmChainsRow.domain false) (Rows.sturmChainsSpec.post enc Tryz.prog Tryz.f4 false true false false) := by
  refine returnsInHanded_of_change (C := Tryz.checked) own started (by kernel_rfl) Tryz.func4
    (ChangeSpec.witness6 (enc := enc) (C := Tryz.checked) false ⟨#[], #[.slice none 0 0], []⟩ 8 (by kernel_rfl) (by kernel_rfl) (by kernel_rfl) (by kernel_rfl)) ?_
  intro W base args ds gs before hval0 hW hcnd _
  have hval : ∀ (j : Nat) t v, Tryz.f4.params[j]? = some t → args[j]? = some v → Value.okWide Tryz.prog W .any base t v := hval0
  have hW' := hW
  obtain ⟨p, q, hA0, hV, rfl, hfz, hnd⟩ := hW
  have hA : DataW.TrodAll enc Tryz.prog W 0 (fun _ => true) true Tryz.f4.params.toList args.toList ds p := hA0
  rw [Tryz.params4] at hA hval
  obtain ⟨v0, vs0, d0, ds0, p0, q0, hargs, rfl, rfl, h0, r0⟩ := trodAll_cons hA
  obtain ⟨rfl, rfl, rfl⟩ := trodAll_nil r0
  obtain rfl : args = #[v0] := by cases args; simp_all
  obtain ⟨rfl, rfl⟩ := trodVars_none hV
  have lt0 : ∀ x ∈ p0, x.block < W.heap.size := by obtain ⟨m, hm⟩ := h0; exact DataW.trod_lt m _ _ _ hm
  obtain ⟨l0, hl0⟩ := open_wides Tryz.underlying23 Tryz.underlying28 (by kernel_rfl) rfl rfl (by kernel_rfl) (by kernel_rfl) (by kernel_rfl) (by kernel_rfl) (hval 0 23 v0 rfl rfl) h0 lt0
  clear hA0 hval0
  refine (law_chains v0 l0 W (fun p hp => by cases hp with | head => exact hl0 | tail _ hp => cases hp)).mono fun e W' ⟨_, he, _, bel, _⟩ => ?_
  subst he
  exact ⟨_, rfl, _, _, _, [], _, [], hW', trodAll_mk1 (shut_bool Tryz.underlying4 _), (trodAll_cons_mk (Below.trod laidOut (by kernel_rfl) (of_decide_eq_true (by kernel_rfl)) h0 bel lt0) trodAll_mk0), rfl, bel.frame _, fun h => by cases h⟩
/-- the given statement -/
theorem x_holds : Rows.SturmChainsSaid :=
  OpenClaim.holds_of_wide 4 Tryz.f4 rfl rfl rfl rfl rfl rfl rfl ⟨rfl, rfl, rfl, rfl, rfl⟩ rfl rfl rfl rfl rfl (by kernel_rfl) Tryz.func4 (by kernel_rfl)
    (of_decide_eq_true (by kernel_rfl)) (by unfold Func.isWrapper; first | (rw [if_pos (by decide +kernel)]; kernel_rfl) | (rw [if_neg (by decide +kernel)]; exact ⟨rfl, rfl⟩))
    (fun os started H enc _ => lifted os started H enc)
#print axioms x_holds
end Go.Proofs.YtcegclhbeflgbaaGreat

