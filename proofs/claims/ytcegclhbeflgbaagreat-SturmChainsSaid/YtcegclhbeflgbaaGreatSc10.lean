/- rules, arithmetic and contracts: part 11
   Proved without conditions of its own: each theorem bears its own. -/
import Derived.Test.YtcegclhbeflgbaaGreatSc02
import Derived.Test.YtcegclhbeflgbaaGreatSc01
import Derived.Test.YtcegclhbeflgbaaGreatSc03
import Derived.Test.YtcegclhbeflgbaaGreatSc09
import Derived.Test.YtcegclhbeflgbaaGreatSc04
set_option linter.all false
namespace Go.Sky
open Go.Proofs
set_option maxRecDepth 20000
set_option maxHeartbeats 4000000
set_option linter.unusedVariables false
set_option linter.unusedSimpArgs false
theorem wide_pair (x y x2 y2 : Int) (hx : bl x.natAbs ≤ 65536) (hy : bl y.natAbs ≤ 65536) (hx2 : bl x2.natAbs ≤ 65536) (hy2 : bl y2.natAbs ≤ 65536) (hp : 0 < y) (hp2 : 0 < y2) : Cal Tryz.prog 137 #[.agg #[.bool (decide (x < 0)), .string (bstr x.natAbs), .bool (decide (y < 0)), .string (bstr y.natAbs)], .agg #[.bool (decide (x2 < 0)), .string (bstr x2.natAbs), .bool (decide (y2 < 0)), .string (bstr y2.natAbs)]] [] false (G := Unit) (fun _ => True) (fun _ => .bool true) (fun _ => []) := by
  refine cal_in Tryz.func137 rfl Tryz.ntmps137 rfl trivial ?_
  intro w0 sc hw hsc
  simp only [enumEnv, enumPre]
  refine e_seq ?_
  refine e_reg ?_
  refine tt (t_box (i := 1) rfl rfl rfl rfl rfl rfl hw) rfl (fun b _ => ?_)
  refine tt (t_box (i := 2) rfl rfl rfl rfl rfl rfl hw) rfl (fun b_2 _ => ?_)
  refine as_ rfl rfl ?_
  refine l_nil ?_
  refine x_then ?_
  refine e_seq ?_
  refine e_reg ?_
  refine dt (d_lb4 (i := 1) rfl rfl rfl Tryz.isAgg49 Tryz.sizeOf49 rfl rfl rfl rfl) rfl ?_
  refine tt (t_call (n := 2) (wide_validratio_ok _ _ (by assumption) (by assumption) (by assumption)) rfl rfl rfl ⟨rfl, trivial⟩ Tryz.call98 pre_nil rfl hw) rfl (fun _ _ => ?_)
  refine mv rfl rfl ?_
  refine gdt (d_lb4 (i := 2) rfl rfl rfl Tryz.isAgg49 Tryz.sizeOf49 rfl rfl rfl rfl) rfl rfl rfl rfl ?_
  refine gtt (t_call (n := 2) (wide_validratio_ok _ _ (by assumption) (by assumption) (by assumption)) rfl rfl rfl ⟨rfl, trivial⟩ Tryz.call98 pre_nil rfl hw) rfl rfl rfl rfl (fun _ _ => ?_)
  refine dt (d_pickt rfl rfl rfl) rfl ?_
  refine as_ rfl rfl ?_
  refine l_nil ?_
  refine x_then ?_
  refine e_ret ?_
  exact x_end (.inl rfl) hsc () _ (fun a w hs => res1 hs Tryz.results137 rfl) rfl trivial rfl give_nil
theorem wide_crossed (x y x2 y2 : Int) (hx : bl x.natAbs ≤ 65536) (hy : bl y.natAbs ≤ 65536) (hx2 : bl x2.natAbs ≤ 65536) (hy2 : bl y2.natAbs ≤ 65536) : Cal Tryz.prog 138 #[.agg #[.bool (decide (x < 0)), .string (bstr x.natAbs), .bool (decide (y < 0)), .string (bstr y.natAbs)], .agg #[.bool (decide (x2 < 0)), .string (bstr x2.natAbs), .bool (decide (y2 < 0)), .string (bstr y2.natAbs)]] [] true (G := Bool × Value × Bool × Value × Bool × Value) (fun r => sg r.1 (x * y2) ∧ sg r.2.2.1 (x2 * y) ∧ sg r.2.2.2.2.1 (y * y2)) (fun r => .tuple #[.agg #[.bool r.1, r.2.1], .agg #[.bool r.2.2.1, r.2.2.2.1], .agg #[.bool r.2.2.2.2.1, r.2.2.2.2.2]]) (fun r => [dgp r.2.1 (x * y2).natAbs, dgp r.2.2.2.1 (x2 * y).natAbs, dgp r.2.2.2.2.2 (y * y2).natAbs]) := by
  refine cal_in Tryz.func138 rfl Tryz.ntmps138 rfl trivial ?_
  intro w0 sc hw hsc
  simp only [enumEnv, enumPre]
  have b1 := bl_imul x y2
  have b2 := bl_imul x2 y
  have b3 := bl_imul y y2
  have b4 := bl_imul x x2
  refine e_seq ?_
  refine e_reg ?_
  refine tt (t_box (i := 1) rfl rfl rfl rfl rfl rfl hw) rfl (fun b _ => ?_)
  refine tt (t_box (i := 2) rfl rfl rfl rfl rfl rfl hw) rfl (fun b_2 _ => ?_)
  refine tt (t_alloc (i := 3) rfl rfl rfl Tryz.zeroValue129 rfl rfl hw) rfl (fun b_3 _ => ?_)
  refine tt (t_alloc (i := 4) rfl rfl rfl Tryz.zeroValue129 rfl rfl hw) rfl (fun b_4 _ => ?_)
  refine tt (t_alloc (i := 5) rfl rfl rfl Tryz.zeroValue129 rfl rfl hw) rfl (fun b_5 _ => ?_)
  refine l_nil ?_
  refine x_then ?_
  refine e_seq ?_
  refine e_dregf [1, 2] [23] (by kernel_rfl) ?_
  refine a_lin' (n := 0) [(0, 0), (1, 0), (3, 0), (4, 0), (7, 0), (8, 0), (10, 0), (11, 0), (14, 0), (15, 0), (17, 0), (18, 0), (2, 1), (5, 1), (6, 1), (9, 1), (12, 1), (13, 1), (16, 1), (19, 1), (20, 1), (21, 1), (22, 1), (23, 3)] (by kernel_rfl) ?_
  refine r0' rfl rfl rfl rfl (stf (d_fa rfl rfl Tryz.underlying49 rfl Tryz.sizeOf28 rfl rfl) ⟨rfl, rfl, trivial⟩) ?_
  refine r0' rfl rfl rfl rfl (stf (d_lb2 (i := 1) rfl rfl rfl Tryz.isAgg28 Tryz.sizeOf28 rfl rfl) ⟨rfl, rfl, trivial⟩) ?_
  refine r0' rfl rfl rfl rfl (stf (d_fa rfl rfl Tryz.underlying49 rfl Tryz.sizeOf28 rfl rfl) ⟨rfl, rfl, trivial⟩) ?_
  refine r0' rfl rfl rfl rfl (stf (d_lb2 (i := 2) rfl rfl rfl Tryz.isAgg28 Tryz.sizeOf28 rfl rfl) ⟨rfl, rfl, trivial⟩) ?_
  refine r0' rfl rfl rfl rfl (stf (d_fa rfl rfl Tryz.underlying49 rfl Tryz.sizeOf28 rfl rfl) ⟨rfl, rfl, trivial⟩) ?_
  refine r0' rfl rfl rfl rfl (stf (d_lb2 (i := 2) rfl rfl rfl Tryz.isAgg28 Tryz.sizeOf28 rfl rfl) ⟨rfl, rfl, trivial⟩) ?_
  refine r0' rfl rfl rfl rfl (stf (d_fa rfl rfl Tryz.underlying49 rfl Tryz.sizeOf28 rfl rfl) ⟨rfl, rfl, trivial⟩) ?_
  refine r0' rfl rfl rfl rfl (stf (d_lb2 (i := 1) rfl rfl rfl Tryz.isAgg28 Tryz.sizeOf28 rfl rfl) ⟨rfl, rfl, trivial⟩) ?_
  refine r0' rfl rfl rfl rfl (stf (d_fa rfl rfl Tryz.underlying49 rfl Tryz.sizeOf28 rfl rfl) ⟨rfl, rfl, trivial⟩) ?_
  refine r0' rfl rfl rfl rfl (stf (d_lb2 (i := 1) rfl rfl rfl Tryz.isAgg28 Tryz.sizeOf28 rfl rfl) ⟨rfl, rfl, trivial⟩) ?_
  refine r0' rfl rfl rfl rfl (stf (d_fa rfl rfl Tryz.underlying49 rfl Tryz.sizeOf28 rfl rfl) ⟨rfl, rfl, trivial⟩) ?_
  refine r0' rfl rfl rfl rfl (stf (d_lb2 (i := 2) rfl rfl rfl Tryz.isAgg28 Tryz.sizeOf28 rfl rfl) ⟨rfl, rfl, trivial⟩) ?_
  refine r1' rfl rfl (t_call (n := 6) (wide_of _ _ (sg_dec _) (by omega)) rfl rfl rfl ⟨rfl, trivial⟩ Tryz.call102 pre_nil rfl hw) (fun g hg => ?_)
  refine r1' rfl rfl (t_call (n := 7) (wide_of _ _ (sg_dec _) (by omega)) rfl rfl rfl ⟨rfl, trivial⟩ Tryz.call102 pre_nil rfl hw) (fun g_2 hg_2 => ?_)
  refine r1' rfl rfl (t_call (n := 8) (num_mul _ _ _ _ _ _ (by assumption) (by assumption) (by omega) (by omega)) rfl rfl rfl ⟨rfl, rfl, trivial⟩ Tryz.call151 (pre_same 6 rfl rfl rfl (pre_same 7 rfl rfl rfl pre_nil)) rfl hw) (fun g_3 hg_3 => ?_)
  refine r1' rfl rfl (t_call (n := 9) (wide_of _ _ (sg_dec _) (by omega)) rfl rfl rfl ⟨rfl, trivial⟩ Tryz.call102 pre_nil rfl hw) (fun g_4 hg_4 => ?_)
  refine r1' rfl rfl (t_call (n := 10) (wide_of _ _ (sg_dec _) (by omega)) rfl rfl rfl ⟨rfl, trivial⟩ Tryz.call102 pre_nil rfl hw) (fun g_5 hg_5 => ?_)
  refine r1' rfl rfl (t_call (n := 11) (num_mul _ _ _ _ _ _ (by assumption) (by assumption) (by omega) (by omega)) rfl rfl rfl ⟨rfl, rfl, trivial⟩ Tryz.call151 (pre_same 9 rfl rfl rfl (pre_same 10 rfl rfl rfl pre_nil)) rfl hw) (fun g_6 hg_6 => ?_)
  refine r1' rfl rfl (t_call (n := 12) (wide_of _ _ (sg_dec _) (by omega)) rfl rfl rfl ⟨rfl, trivial⟩ Tryz.call102 pre_nil rfl hw) (fun g_7 hg_7 => ?_)
  refine r1' rfl rfl (t_call (n := 13) (wide_of _ _ (sg_dec _) (by omega)) rfl rfl rfl ⟨rfl, trivial⟩ Tryz.call102 pre_nil rfl hw) (fun g_8 hg_8 => ?_)
  refine r1' rfl rfl (t_call (n := 14) (num_mul _ _ _ _ _ _ (by assumption) (by assumption) (by omega) (by omega)) rfl rfl rfl ⟨rfl, rfl, trivial⟩ Tryz.call151 (pre_same 12 rfl rfl rfl (pre_same 13 rfl rfl rfl pre_nil)) rfl hw) (fun g_9 hg_9 => ?_)
  refine r1' rfl rfl (t_off 3 rfl rfl ⟨rfl, rfl, trivial⟩ (fun hoffb => (t_stw (i := 3) rfl rfl rfl rfl rfl (by decide) rfl Tryz.sizeOf129 rfl rfl ⟨(one_rfl rfl), (one_rd (i := 8) rfl rd_slp), trivial⟩ rfl hw hoffb))) (fun _ _ => ?_)
  refine r1' rfl rfl (t_off 4 rfl rfl ⟨rfl, rfl, trivial⟩ (fun hoffb => (t_stw (i := 4) rfl rfl rfl rfl rfl (by decide) rfl Tryz.sizeOf129 rfl rfl ⟨(one_rfl rfl), (one_rd (i := 11) rfl rd_slp), trivial⟩ rfl hw hoffb))) (fun _ _ => ?_)
  refine r3' rfl rfl (t_stw (i := 5) rfl rfl rfl rfl rfl (by decide) rfl Tryz.sizeOf129 rfl rfl ⟨(one_rfl rfl), (one_rd (i := 14) rfl rd_slp), trivial⟩ rfl hw trivial) (fun _ _ => ?_)
  refine r_fin ?_
  refine a_done (by kernel_rfl) ?_
  refine x_then ?_
  refine e_ret ?_
  exact x_end (.inl rfl) hsc (_, _, _, _, _, _) _ (fun a w hs => res3 hs Tryz.results138 (rv_cell (i := 3) rfl rfl Tryz.isAgg129 Tryz.sizeOf129 rfl) (rv_cell (i := 4) rfl rfl Tryz.isAgg129 Tryz.sizeOf129 rfl) (rv_cell (i := 5) rfl rfl Tryz.isAgg129 Tryz.sizeOf129 rfl)) rfl ⟨by assumption, by assumption, by assumption⟩ rfl (give_same 8 rfl rfl rfl (give_same 11 rfl rfl rfl (give_same 14 rfl rfl rfl give_nil)))
theorem wide_compareratio (x y x2 y2 : Int) (hx : bl x.natAbs ≤ 65536) (hy : bl y.natAbs ≤ 65536) (hx2 : bl x2.natAbs ≤ 65536) (hy2 : bl y2.natAbs ≤ 65536) (hp : 0 < y) (hp2 : 0 < y2) : Cal Tryz.prog 100 #[.agg #[.bool (decide (x < 0)), .string (bstr x.natAbs), .bool (decide (y < 0)), .string (bstr y.natAbs)], .agg #[.bool (decide (x2 < 0)), .string (bstr x2.natAbs), .bool (decide (y2 < 0)), .string (bstr y2.natAbs)]] [] false (G := Unit) (fun _ => True) (fun _ => .tuple #[.int .i64 (x * y2 - x2 * y).sign, .int .i64 0]) (fun _ => []) := by
  refine cal_in Tryz.func100 rfl Tryz.ntmps100 rfl trivial ?_
  intro w0 sc hw hsc
  simp only [enumEnv, enumPre]
  have b1 := bl_imul x y2
  have b2 := bl_imul x2 y
  have b3 := bl_imul y y2
  have b4 := bl_imul x x2
  have b5 := bl_neg (x2 * y)
  have b6 := bl_iadd (x * y2) (-(x2 * y))
  refine e_seq ?_
  refine e_reg ?_
  refine tt (t_box (i := 1) rfl rfl rfl rfl rfl rfl hw) rfl (fun b _ => ?_)
  refine tt (t_box (i := 2) rfl rfl rfl rfl rfl rfl hw) rfl (fun b_2 _ => ?_)
  refine as_ rfl rfl ?_
  refine as_ rfl rfl ?_
  refine l_nil ?_
  refine x_then ?_
  refine e_seq ?_
  refine e_seq ?_
  refine e_reg ?_
  refine dt (d_lb4 (i := 1) rfl rfl rfl Tryz.isAgg49 Tryz.sizeOf49 rfl rfl rfl rfl) rfl ?_
  refine dt (d_lb4 (i := 2) rfl rfl rfl Tryz.isAgg49 Tryz.sizeOf49 rfl rfl rfl rfl) rfl ?_
  refine tt (t_call (n := 2) (wide_pair _ _ _ _ (by assumption) (by assumption) (by assumption) (by assumption) (by assumption) (by assumption)) rfl rfl rfl ⟨rfl, rfl, trivial⟩ Tryz.call137 pre_nil rfl hw) rfl (fun _ _ => ?_)
  refine dt (d_notb rfl rfl) rfl ?_
  refine l_nil ?_
  refine x_then ?_
  refine e_condf rfl ?_
  refine e_skip ?_
  refine x_then ?_
  refine e_seq ?_
  refine e_reg ?_
  refine dt (d_lb4 (i := 1) rfl rfl rfl Tryz.isAgg49 Tryz.sizeOf49 rfl rfl rfl rfl) rfl ?_
  refine dt (d_lb4 (i := 2) rfl rfl rfl Tryz.isAgg49 Tryz.sizeOf49 rfl rfl rfl rfl) rfl ?_
  refine tt (t_call (n := 3) (wide_crossed _ _ _ _ (by assumption) (by assumption) (by assumption) (by assumption)) rfl rfl rfl ⟨rfl, rfl, trivial⟩ Tryz.call138 pre_nil rfl hw) rfl (fun g hg => ?_)
  obtain ⟨hc1, hc2, hc3⟩ := hg
  refine mv rfl rfl ?_
  refine dt (d_ex rfl rfl rfl) rfl ?_
  refine dt (d_ex rfl rfl rfl) rfl ?_
  refine dt (d_ex rfl rfl rfl) rfl ?_
  refine tt (t_alloc (i := 6) rfl rfl rfl Tryz.zeroValue129 rfl rfl hw) rfl (fun b_3 _ => ?_)
  refine tt (t_alloc (i := 7) rfl rfl rfl Tryz.zeroValue129 rfl rfl hw) rfl (fun b_4 _ => ?_)
  refine tt (t_alloc (i := 8) rfl rfl rfl Tryz.zeroValue129 rfl rfl hw) rfl (fun b_5 _ => ?_)
  refine tt (t_stw (i := 6) rfl rfl rfl rfl rfl (by decide) rfl Tryz.sizeOf129 rfl rfl ⟨(one_rfl rfl), (one_rd (i := 3) rfl rd_slp), trivial⟩ rfl hw trivial) rfl (fun _ _ => ?_)
  refine tt (t_stw (i := 7) rfl rfl rfl rfl rfl (by decide) rfl Tryz.sizeOf129 rfl rfl ⟨(one_rfl rfl), (one_rd (i := 4) rfl rd_slp), trivial⟩ rfl hw trivial) rfl (fun _ _ => ?_)
  refine tt (t_stw (i := 8) rfl rfl rfl rfl rfl (by decide) rfl Tryz.sizeOf129 rfl rfl ⟨(one_rfl rfl), (one_rd (i := 5) rfl rd_slp), trivial⟩ rfl hw trivial) rfl (fun _ _ => ?_)
  refine l_nil ?_
  refine x_then ?_
  refine e_seq ?_
  refine e_dreg (fun _ => False) [(0, 0), (1, 0), (2, 1), (3, 1), (4, 1), (5, 3), (6, 3)] (by kernel_rfl) ?_ ?_
  · kernel_rfl
  refine r0' rfl rfl rfl rfl (st0 (d_lb2 (i := 6) rfl rfl rfl Tryz.isAgg129 Tryz.sizeOf129 rfl rfl)) ?_
  refine r0' rfl rfl rfl rfl (st0 (d_lb2 (i := 7) rfl rfl rfl Tryz.isAgg129 Tryz.sizeOf129 rfl rfl)) ?_
  refine r1' rfl rfl (t_call (n := 9) (num_neg _ _ _ (by assumption)) rfl rfl rfl ⟨rfl, trivial⟩ Tryz.call104 (pre_same 4 rfl rfl rfl pre_nil) rfl hw) (fun g_2 hg_2 => ?_)
  refine r1' rfl rfl (t_call (n := 10) (num_add _ _ _ _ _ _ (by assumption) (by assumption) (by omega) (by omega)) rfl rfl rfl ⟨rfl, rfl, trivial⟩ Tryz.call103 (pre_same 3 rfl rfl rfl (pre_same 9 rfl rfl rfl pre_nil)) rfl hw) (fun g_3 hg_3 => ?_)
  refine r1' rfl rfl (t_call (n := 10) (num_sign _ _ _ (by assumption) (by omega)) rfl rfl rfl ⟨rfl, trivial⟩ Tryz.call105 (pre_same 10 rfl rfl rfl pre_nil) rfl hw) (fun _ _ => ?_)
  refine r3' rfl rfl (t_det (d_as rfl rfl) rfl rfl) (fun _ _ => ?_)
  refine r3' rfl rfl (t_det (d_as rfl rfl) rfl rfl) (fun _ _ => ?_)
  refine r_end ?_
  refine x_then ?_
  refine e_ret ?_
  exact x_end (.inl rfl) hsc () _ (fun a w hs => res2 hs Tryz.results100 rfl rfl) (by rw [Int.sub_eq_add_neg] <;> rfl) trivial rfl give_nil
theorem wide_addratio (x y x2 y2 : Int) (hx : bl x.natAbs ≤ 65536) (hy : bl y.natAbs ≤ 65536) (hx2 : bl x2.natAbs ≤ 65536) (hy2 : bl y2.natAbs ≤ 65536) (hp : 0 < y) (hp2 : 0 < y2) : Cal Tryz.prog 130 #[.agg #[.bool (decide (x < 0)), .string (bstr x.natAbs), .bool (decide (y < 0)), .string (bstr y.natAbs)], .agg #[.bool (decide (x2 < 0)), .string (bstr x2.natAbs), .bool (decide (y2 < 0)), .string (bstr y2.natAbs)]] [] false (G := Unit) (fun _ => True) (fun _ => ratioV (x * y2 + x2 * y) (y * y2)) (fun _ => []) := by
  refine cal_in Tryz.func130 rfl Tryz.ntmps130 rfl trivial ?_
  intro w0 sc hw hsc
  simp only [enumEnv, enumPre]
  have b1 := bl_imul x y2
  have b2 := bl_imul x2 y
  have b3 := bl_imul y y2
  have b4 := bl_imul x x2
  have b6 := bl_iadd (x * y2) (x2 * y)
  refine e_seq ?_
  refine e_reg ?_
  refine tt (t_box (i := 1) rfl rfl rfl rfl rfl rfl hw) rfl (fun b _ => ?_)
  refine tt (t_box (i := 2) rfl rfl rfl rfl rfl rfl hw) rfl (fun b_2 _ => ?_)
  refine tt (t_alloc (i := 3) rfl rfl rfl Tryz.zeroValue49 rfl rfl hw) rfl (fun b_3 _ => ?_)
  refine as_ rfl rfl ?_
  refine l_nil ?_
  refine x_then ?_
  refine e_seq ?_
  refine e_seq ?_
  refine e_reg ?_
  refine dt (d_lb4 (i := 1) rfl rfl rfl Tryz.isAgg49 Tryz.sizeOf49 rfl rfl rfl rfl) rfl ?_
  refine dt (d_lb4 (i := 2) rfl rfl rfl Tryz.isAgg49 Tryz.sizeOf49 rfl rfl rfl rfl) rfl ?_
  refine tt (t_call (n := 3) (wide_pair _ _ _ _ (by assumption) (by assumption) (by assumption) (by assumption) (by assumption) (by assumption)) rfl rfl rfl ⟨rfl, rfl, trivial⟩ Tryz.call137 pre_nil rfl hw) rfl (fun _ _ => ?_)
  refine dt (d_notb rfl rfl) rfl ?_
  refine l_nil ?_
  refine x_then ?_
  refine e_condf rfl ?_
  refine e_skip ?_
  refine x_then ?_
  refine e_seq ?_
  refine e_reg ?_
  refine dt (d_lb4 (i := 1) rfl rfl rfl Tryz.isAgg49 Tryz.sizeOf49 rfl rfl rfl rfl) rfl ?_
  refine dt (d_lb4 (i := 2) rfl rfl rfl Tryz.isAgg49 Tryz.sizeOf49 rfl rfl rfl rfl) rfl ?_
  refine tt (t_call (n := 4) (wide_crossed _ _ _ _ (by assumption) (by assumption) (by assumption) (by assumption)) rfl rfl rfl ⟨rfl, rfl, trivial⟩ Tryz.call138 pre_nil rfl hw) rfl (fun g hg => ?_)
  obtain ⟨hc1, hc2, hc3⟩ := hg
  refine mv rfl rfl ?_
  refine dt (d_ex rfl rfl rfl) rfl ?_
  refine dt (d_ex rfl rfl rfl) rfl ?_
  refine dt (d_ex rfl rfl rfl) rfl ?_
  refine tt (t_alloc (i := 7) rfl rfl rfl Tryz.zeroValue129 rfl rfl hw) rfl (fun b_4 _ => ?_)
  refine tt (t_alloc (i := 8) rfl rfl rfl Tryz.zeroValue129 rfl rfl hw) rfl (fun b_5 _ => ?_)
  refine tt (t_alloc (i := 9) rfl rfl rfl Tryz.zeroValue129 rfl rfl hw) rfl (fun b_6 _ => ?_)
  refine tt (t_stw (i := 7) rfl rfl rfl rfl rfl (by decide) rfl Tryz.sizeOf129 rfl rfl ⟨(one_rfl rfl), (one_rd (i := 4) rfl rd_slp), trivial⟩ rfl hw trivial) rfl (fun _ _ => ?_)
  refine tt (t_stw (i := 8) rfl rfl rfl rfl rfl (by decide) rfl Tryz.sizeOf129 rfl rfl ⟨(one_rfl rfl), (one_rd (i := 5) rfl rd_slp), trivial⟩ rfl hw trivial) rfl (fun _ _ => ?_)
  refine tt (t_stw (i := 9) rfl rfl rfl rfl rfl (by decide) rfl Tryz.sizeOf129 rfl rfl ⟨(one_rfl rfl), (one_rd (i := 6) rfl rd_slp), trivial⟩ rfl hw trivial) rfl (fun _ _ => ?_)
  refine l_nil ?_
  refine x_then ?_
  refine e_seq ?_
  refine e_dreg (fun _ => False) [(0, 0), (1, 0), (3, 0), (2, 1), (4, 1), (5, 0), (6, 0), (7, 3), (8, 3)] (by kernel_rfl) ?_ ?_
  · kernel_rfl
  refine r0' rfl rfl rfl rfl (st0 (d_lb2 (i := 7) rfl rfl rfl Tryz.isAgg129 Tryz.sizeOf129 rfl rfl)) ?_
  refine r0' rfl rfl rfl rfl (st0 (d_lb2 (i := 8) rfl rfl rfl Tryz.isAgg129 Tryz.sizeOf129 rfl rfl)) ?_
  refine r0' rfl rfl rfl rfl (st0 (d_lb2 (i := 9) rfl rfl rfl Tryz.isAgg129 Tryz.sizeOf129 rfl rfl)) ?_
  refine r1' rfl rfl (t_call (n := 10) (num_add _ _ _ _ _ _ (by assumption) (by assumption) (by omega) (by omega)) rfl rfl rfl ⟨rfl, rfl, trivial⟩ Tryz.call103 (pre_same 4 rfl rfl rfl (pre_same 5 rfl rfl rfl pre_nil)) rfl hw) (fun g_2 hg_2 => ?_)
  refine r1' rfl rfl (t_call (n := 10) (wide_lowest _ _ _ _ _ _ (by assumption) (by assumption) (by omega) (by omega) (Int.mul_ne_zero (by omega) (by omega))) rfl rfl rfl ⟨rfl, rfl, trivial⟩ Tryz.call132 (pre_same 10 rfl rfl rfl (pre_same 6 rfl rfl rfl pre_nil)) rfl hw) (fun _ _ => ?_)
  refine r0' rfl rfl rfl rfl (st0 (d_ex rfl rfl rfl)) ?_
  refine r0' rfl rfl rfl rfl (st0 (d_ex rfl rfl rfl)) ?_
  refine r3' rfl rfl (t_stw (i := 3) rfl rfl rfl rfl rfl (by decide) rfl Tryz.sizeOf49 rfl rfl ⟨(one_rfl rfl), (one_rfl rfl), (one_rfl rfl), (one_rfl rfl), trivial⟩ rfl hw trivial) (fun _ _ => ?_)
  refine r3' rfl rfl (t_det (d_as rfl rfl) rfl rfl) (fun _ _ => ?_)
  refine r_end ?_
  refine x_then ?_
  refine e_ret ?_
  exact x_end (.inl rfl) hsc () _ (fun a w hs => res2 hs Tryz.results130 (rv_cell (i := 3) rfl rfl Tryz.isAgg49 Tryz.sizeOf49 rfl) rfl) rfl trivial rfl give_nil
theorem wide_mulratio (x y x2 y2 : Int) (hx : bl x.natAbs ≤ 65536) (hy : bl y.natAbs ≤ 65536) (hx2 : bl x2.natAbs ≤ 65536) (hy2 : bl y2.natAbs ≤ 65536) (hp : 0 < y) (hp2 : 0 < y2) : Cal Tryz.prog 131 #[.agg #[.bool (decide (x < 0)), .string (bstr x.natAbs), .bool (decide (y < 0)), .string (bstr y.natAbs)], .agg #[.bool (decide (x2 < 0)), .string (bstr x2.natAbs), .bool (decide (y2 < 0)), .string (bstr y2.natAbs)]] [] false (G := Unit) (fun _ => True) (fun _ => ratioV (x * x2) (y * y2)) (fun _ => []) := by
  refine cal_in Tryz.func131 rfl Tryz.ntmps131 rfl trivial ?_
  intro w0 sc hw hsc
  simp only [enumEnv, enumPre]
  have b1 := bl_imul x y2
  have b2 := bl_imul x2 y
  have b3 := bl_imul y y2
  have b4 := bl_imul x x2
  refine e_seq ?_
  refine e_reg ?_
  refine tt (t_box (i := 1) rfl rfl rfl rfl rfl rfl hw) rfl (fun b _ => ?_)
  refine tt (t_box (i := 2) rfl rfl rfl rfl rfl rfl hw) rfl (fun b_2 _ => ?_)
  refine tt (t_alloc (i := 3) rfl rfl rfl Tryz.zeroValue49 rfl rfl hw) rfl (fun b_3 _ => ?_)
  refine as_ rfl rfl ?_
  refine l_nil ?_
  refine x_then ?_
  refine e_seq ?_
  refine e_seq ?_
  refine e_reg ?_
  refine dt (d_lb4 (i := 1) rfl rfl rfl Tryz.isAgg49 Tryz.sizeOf49 rfl rfl rfl rfl) rfl ?_
  refine dt (d_lb4 (i := 2) rfl rfl rfl Tryz.isAgg49 Tryz.sizeOf49 rfl rfl rfl rfl) rfl ?_
  refine tt (t_call (n := 3) (wide_pair _ _ _ _ (by assumption) (by assumption) (by assumption) (by assumption) (by assumption) (by assumption)) rfl rfl rfl ⟨rfl, rfl, trivial⟩ Tryz.call137 pre_nil rfl hw) rfl (fun _ _ => ?_)
  refine dt (d_notb rfl rfl) rfl ?_
  refine l_nil ?_
  refine x_then ?_
  refine e_condf rfl ?_
  refine e_skip ?_
  refine x_then ?_
  refine e_seq ?_
  refine e_dreg (fun _ => False) [(0, 0), (1, 0), (3, 0), (4, 0), (7, 0), (8, 0), (10, 0), (11, 0), (2, 1), (5, 1), (6, 1), (9, 1), (12, 1), (13, 1), (14, 1), (15, 0), (16, 0), (17, 3), (18, 3)] (by kernel_rfl) ?_ ?_
  · kernel_rfl
  refine r0' rfl rfl rfl rfl (st0 (d_fa rfl rfl Tryz.underlying49 rfl Tryz.sizeOf28 rfl rfl)) ?_
  refine r0' rfl rfl rfl rfl (st0 (d_lb2 (i := 1) rfl rfl rfl Tryz.isAgg28 Tryz.sizeOf28 rfl rfl)) ?_
  refine r0' rfl rfl rfl rfl (st0 (d_fa rfl rfl Tryz.underlying49 rfl Tryz.sizeOf28 rfl rfl)) ?_
  refine r0' rfl rfl rfl rfl (st0 (d_lb2 (i := 2) rfl rfl rfl Tryz.isAgg28 Tryz.sizeOf28 rfl rfl)) ?_
  refine r0' rfl rfl rfl rfl (st0 (d_fa rfl rfl Tryz.underlying49 rfl Tryz.sizeOf28 rfl rfl)) ?_
  refine r0' rfl rfl rfl rfl (st0 (d_lb2 (i := 1) rfl rfl rfl Tryz.isAgg28 Tryz.sizeOf28 rfl rfl)) ?_
  refine r0' rfl rfl rfl rfl (st0 (d_fa rfl rfl Tryz.underlying49 rfl Tryz.sizeOf28 rfl rfl)) ?_
  refine r0' rfl rfl rfl rfl (st0 (d_lb2 (i := 2) rfl rfl rfl Tryz.isAgg28 Tryz.sizeOf28 rfl rfl)) ?_
  refine r1' rfl rfl (t_call (n := 4) (wide_of _ _ (sg_dec _) (by omega)) rfl rfl rfl ⟨rfl, trivial⟩ Tryz.call102 pre_nil rfl hw) (fun g hg => ?_)
  refine r1' rfl rfl (t_call (n := 5) (wide_of _ _ (sg_dec _) (by omega)) rfl rfl rfl ⟨rfl, trivial⟩ Tryz.call102 pre_nil rfl hw) (fun g_2 hg_2 => ?_)
  refine r1' rfl rfl (t_call (n := 6) (num_mul _ _ _ _ _ _ (by assumption) (by assumption) (by omega) (by omega)) rfl rfl rfl ⟨rfl, rfl, trivial⟩ Tryz.call151 (pre_same 4 rfl rfl rfl (pre_same 5 rfl rfl rfl pre_nil)) rfl hw) (fun g_3 hg_3 => ?_)
  refine r1' rfl rfl (t_call (n := 7) (wide_of _ _ (sg_dec _) (by omega)) rfl rfl rfl ⟨rfl, trivial⟩ Tryz.call102 pre_nil rfl hw) (fun g_4 hg_4 => ?_)
  refine r1' rfl rfl (t_call (n := 8) (wide_of _ _ (sg_dec _) (by omega)) rfl rfl rfl ⟨rfl, trivial⟩ Tryz.call102 pre_nil rfl hw) (fun g_5 hg_5 => ?_)
  refine r1' rfl rfl (t_call (n := 9) (num_mul _ _ _ _ _ _ (by assumption) (by assumption) (by omega) (by omega)) rfl rfl rfl ⟨rfl, rfl, trivial⟩ Tryz.call151 (pre_same 7 rfl rfl rfl (pre_same 8 rfl rfl rfl pre_nil)) rfl hw) (fun g_6 hg_6 => ?_)
  refine r1' rfl rfl (t_call (n := 9) (wide_lowest _ _ _ _ _ _ (by assumption) (by assumption) (by omega) (by omega) (Int.mul_ne_zero (by omega) (by omega))) rfl rfl rfl ⟨rfl, rfl, trivial⟩ Tryz.call132 (pre_same 6 rfl rfl rfl (pre_same 9 rfl rfl rfl pre_nil)) rfl hw) (fun _ _ => ?_)
  refine r0' rfl rfl rfl rfl (st0 (d_ex rfl rfl rfl)) ?_
  refine r0' rfl rfl rfl rfl (st0 (d_ex rfl rfl rfl)) ?_
  refine r3' rfl rfl (t_stw (i := 3) rfl rfl rfl rfl rfl (by decide) rfl Tryz.sizeOf49 rfl rfl ⟨(one_rfl rfl), (one_rfl rfl), (one_rfl rfl), (one_rfl rfl), trivial⟩ rfl hw trivial) (fun _ _ => ?_)
  refine r3' rfl rfl (t_det (d_as rfl rfl) rfl rfl) (fun _ _ => ?_)
  refine r_end ?_
  refine x_then ?_
  refine e_ret ?_
  exact x_end (.inl rfl) hsc () _ (fun a w hs => res2 hs Tryz.results131 (rv_cell (i := 3) rfl rfl Tryz.isAgg49 Tryz.sizeOf49 rfl) rfl) rfl trivial rfl give_nil
theorem wide_compare (x y : Int) (hx : bl x.natAbs ≤ 65536) (hy : bl y.natAbs ≤ 65536) : Cal Tryz.prog 52 #[wv x, wv y] [] false (G := Unit) (fun _ => True) (fun _ => .int .i64 (x - y).sign) (fun _ => []) := by
  refine cal_in Tryz.func52 rfl Tryz.ntmps52 rfl trivial ?_
  intro w0 sc hw hsc
  simp only [enumEnv, enumPre]
  have b5 := bl_neg y
  have b6 := bl_iadd x (-y)
  refine e_seq ?_
  refine e_reg ?_
  refine tt (t_box (i := 1) rfl rfl rfl rfl rfl rfl hw) rfl (fun b _ => ?_)
  refine tt (t_box (i := 2) rfl rfl rfl rfl rfl rfl hw) rfl (fun b_2 _ => ?_)
  refine as_ rfl rfl ?_
  refine l_nil ?_
  refine x_then ?_
  refine e_seq ?_
  refine e_seq ?_
  refine e_reg ?_
  refine dt (d_lb2 (i := 1) rfl rfl rfl Tryz.isAgg28 Tryz.sizeOf28 rfl rfl) rfl ?_
  refine dt (d_lb2 (i := 2) rfl rfl rfl Tryz.isAgg28 Tryz.sizeOf28 rfl rfl) rfl ?_
  refine tt (t_call (n := 2) (wide_both_ok _ _ (by assumption) (by assumption)) rfl rfl rfl ⟨rfl, rfl, trivial⟩ Tryz.call101 pre_nil rfl hw) rfl (fun _ _ => ?_)
  refine dt (d_notb rfl rfl) rfl ?_
  refine l_nil ?_
  refine x_then ?_
  refine e_condf rfl ?_
  refine e_skip ?_
  refine x_then ?_
  refine e_seq ?_
  refine e_dreg (fun _ => False) [(0, 0), (2, 0), (1, 1), (3, 1), (4, 1), (5, 1), (6, 1), (7, 3)] (by kernel_rfl) ?_ ?_
  · kernel_rfl
  refine r0' rfl rfl rfl rfl (st0 (d_lb2 (i := 1) rfl rfl rfl Tryz.isAgg28 Tryz.sizeOf28 rfl rfl)) ?_
  refine r0' rfl rfl rfl rfl (st0 (d_lb2 (i := 2) rfl rfl rfl Tryz.isAgg28 Tryz.sizeOf28 rfl rfl)) ?_
  refine r1' rfl rfl (t_call (n := 3) (wide_of _ _ (sg_dec _) (by omega)) rfl rfl rfl ⟨rfl, trivial⟩ Tryz.call102 pre_nil rfl hw) (fun g hg => ?_)
  refine r1' rfl rfl (t_call (n := 4) (wide_of _ _ (sg_dec _) (by omega)) rfl rfl rfl ⟨rfl, trivial⟩ Tryz.call102 pre_nil rfl hw) (fun g_2 hg_2 => ?_)
  refine r1' rfl rfl (t_call (n := 5) (num_neg _ _ _ (by assumption)) rfl rfl rfl ⟨rfl, trivial⟩ Tryz.call104 (pre_same 4 rfl rfl rfl pre_nil) rfl hw) (fun g_3 hg_3 => ?_)
  refine r1' rfl rfl (t_call (n := 6) (num_add _ _ _ _ _ _ (by assumption) (by assumption) (by omega) (by omega)) rfl rfl rfl ⟨rfl, rfl, trivial⟩ Tryz.call103 (pre_same 3 rfl rfl rfl (pre_same 5 rfl rfl rfl pre_nil)) rfl hw) (fun g_4 hg_4 => ?_)
  refine r1' rfl rfl (t_call (n := 6) (num_sign _ _ _ (by assumption) (by omega)) rfl rfl rfl ⟨rfl, trivial⟩ Tryz.call105 (pre_same 6 rfl rfl rfl pre_nil) rfl hw) (fun _ _ => ?_)
  refine r3' rfl rfl (t_det (d_as rfl rfl) rfl rfl) (fun _ _ => ?_)
  refine r_end ?_
  refine x_then ?_
  refine e_ret ?_
  exact x_end (.inl rfl) hsc () _ (fun a w hs => res1 hs Tryz.results52 rfl) (by rw [Int.sub_eq_add_neg] <;> rfl) trivial rfl give_nil
end Go.Sky
namespace Go.Sky
open Go.Proofs
set_option maxRecDepth 20000
set_option maxHeartbeats 4000000
set_option linter.unusedVariables false
set_option linter.unusedSimpArgs false
theorem st_fits (v : Value) (xs : List Int) (hv : Vp xs) : Cal Tryz.prog 14 #[v] [slp 2 wv v xs] false (G := Unit) (fun _ => True) (fun _ => .bool (decide (sfits xs))) (fun _ => []) := by
  refine cal_in Tryz.func14 rfl Tryz.ntmps14 rfl ⟨rfl, trivial⟩ ?_
  intro w0 sc hw hsc
  simp only [enumEnv, enumPre]
  have hlen := hv.len
  have hmz := msz_le hv.sz
  have q1 : (xs.length + 2) * (xs.length + 2) ≤ 27 * 27 := Nat.mul_le_mul (by omega) (by omega)
  have q2 : (xs.length + 2) * (xs.length + 2) * (msz xs + 16) ≤ 27 * 27 * 65552 := Nat.mul_le_mul q1 (by omega)
  have q3 : ((xs.length : Int) - 1 + 3) * ((xs.length : Int) - 1 + 3) = (((xs.length + 2) * (xs.length + 2) : Nat) : Int) := by rw [show (xs.length : Int) - 1 + 3 = ((xs.length + 2 : Nat) : Int) by omega]; push_cast; rfl
  have q4 : ((xs.length : Int) - 1 + 3) * ((xs.length : Int) - 1 + 3) * ((msz xs : Int) + 16) = (((xs.length + 2) * (xs.length + 2) * (msz xs + 16) : Nat) : Int) := by rw [q3]; push_cast; rfl
  refine e_seq ?_
  refine e_reg ?_
  refine as_ rfl rfl ?_
  refine l_nil ?_
  refine x_then ?_
  refine e_seq ?_
  refine e_seq ?_
  refine e_reg ?_
  refine mv rfl rfl ?_
  refine tt (t_call (n := 1) (poly_valid_ok _ _ (by assumption)) rfl rfl rfl ⟨rfl, trivial⟩ Tryz.call56 (pre_same 1 rfl rfl rfl pre_nil) rfl hw) rfl (fun _ _ => ?_)
  refine dt (d_notb rfl rfl) rfl ?_
  refine l_nil ?_
  refine x_then ?_
  refine e_condf rfl ?_
  refine e_skip ?_
  refine x_then ?_
  refine e_seq ?_
  refine e_reg ?_
  refine mv rfl rfl ?_
  refine tt (t_call (n := 1) (poly_degree _ _ hv) rfl rfl rfl ⟨rfl, trivial⟩ Tryz.call57 (pre_same 1 rfl rfl rfl pre_nil) rfl hw) rfl (fun _ _ => ?_)
  refine mv rfl rfl ?_
  refine dt (d_ex rfl rfl rfl) rfl ?_
  refine dt (d_ex rfl rfl rfl) rfl ?_
  refine as_ rfl rfl ?_
  refine as_ rfl rfl ?_
  refine l_nil ?_
  refine x_then ?_
  refine e_seq ?_
  refine e_reg ?_
  refine mv rfl rfl ?_
  refine tt (t_call (n := 1) (poly_bits _ _ hv) rfl rfl rfl ⟨rfl, trivial⟩ Tryz.call58 (pre_same 1 rfl rfl rfl pre_nil) rfl hw) rfl (fun _ _ => ?_)
  refine mv rfl rfl ?_
  refine dt (d_ex rfl rfl rfl) rfl ?_
  refine dt (d_ex rfl rfl rfl) rfl ?_
  refine as_ rfl rfl ?_
  refine as_ rfl rfl ?_
  refine l_nil ?_
  refine x_then ?_
  refine e_seq ?_
  refine e_reg ?_
  refine mv rfl rfl ?_
  refine dt (d_len rfl rfl (i := 1) rfl rd_slp Tryz.underlying23) rfl ?_
  refine dt (d_eql rfl rfl rfl) rfl ?_
  refine mv rfl rfl ?_
  refine l_split (d := 23) rfl (fun s24 => ?_) (fun s24 => ?_)
  · refine gsk rfl rfl rfl rfl rfl ?_
    refine gsk rfl rfl rfl rfl rfl ?_
    refine gsk rfl rfl rfl rfl rfl ?_
    refine gsk rfl rfl rfl rfl rfl ?_
    refine gsk rfl rfl rfl rfl rfl ?_
    refine gsk rfl rfl rfl rfl rfl ?_
    refine gsk rfl rfl rfl rfl rfl ?_
    refine gsk rfl rfl rfl rfl rfl ?_
    refine gsk rfl rfl rfl rfl rfl ?_
    refine dt (d_pickt rfl rfl rfl) rfl ?_
    refine as_ rfl rfl ?_
    refine l_nil ?_
    refine x_then ?_
    refine e_ret ?_
    exact x_end (.inl rfl) hsc () _ (fun a w hs => res1 hs Tryz.results14 rfl) (by first | exact sf_t (by omega) | exact sf_i (by omega) q4) trivial rfl give_nil
  · refine gdt (d_mv rfl rfl) rfl rfl rfl rfl ?_
    refine gdt (d_add rfl rfl rfl ⟨by omega, by omega⟩) rfl rfl rfl rfl ?_
    refine gdt (d_mv rfl rfl) rfl rfl rfl rfl ?_
    refine gdt (d_add rfl rfl rfl ⟨by omega, by omega⟩) rfl rfl rfl rfl ?_
    refine gdt (d_mul rfl rfl rfl (by rw [q3]; exact ⟨by omega, by omega⟩)) rfl rfl rfl rfl ?_
    refine gdt (d_mv rfl rfl) rfl rfl rfl rfl ?_
    refine gdt (d_add rfl rfl rfl ⟨by omega, by omega⟩) rfl rfl rfl rfl ?_
    refine gdt (d_mul rfl rfl rfl (by rw [q4]; exact ⟨by omega, by omega⟩)) rfl rfl rfl rfl ?_
    refine gdt (d_leq rfl rfl rfl) rfl rfl rfl rfl ?_
    refine dt (d_pickf rfl rfl rfl) rfl ?_
    refine as_ rfl rfl ?_
    refine l_nil ?_
    refine x_then ?_
    refine e_ret ?_
    exact x_end (.inl rfl) hsc () _ (fun a w hs => res1 hs Tryz.results14 rfl) (by first | exact sf_t (by omega) | exact sf_i (by omega) q4) trivial rfl give_nil
theorem st_fits_bad (v : Value) (r : List (Bool × ByteArray)) (h : okP r = false) : Cal Tryz.prog 14 #[v] [slp 2 encW v r] false (G := Unit) (fun _ => True) (fun _ => .bool false) (fun _ => []) := by
  refine cal_in Tryz.func14 rfl Tryz.ntmps14 rfl ⟨rfl, trivial⟩ ?_
  intro w0 sc hw hsc
  simp only [enumEnv, enumPre]
  refine e_seq ?_
  refine e_reg ?_
  refine as_ rfl rfl ?_
  refine l_nil ?_
  refine x_then ?_
  refine e_seq ?_
  refine e_seq ?_
  refine e_reg ?_
  refine mv rfl rfl ?_
  refine tt (t_call (n := 1) (poly_valid _ _) rfl rfl rfl ⟨rfl, trivial⟩ Tryz.call56 (pre_same 1 rfl rfl rfl pre_nil) rfl hw) rfl (fun _ _ => ?_)
  refine dt (d_notb rfl rfl) rfl ?_
  refine l_nil ?_
  refine x_then ?_
  refine e_condb rfl (fun h19 => ?_) (fun h19 => ?_)
  · refine e_seq ?_
    refine e_reg ?_
    refine as_ rfl rfl ?_
    refine l_nil ?_
    refine x_then ?_
    refine e_ret ?_
    refine x_ret ?_
    exact x_end (.inl rfl) hsc () _ (fun a w hs => res1 hs Tryz.results14 rfl) rfl trivial rfl give_nil
  · exfalso; simp_all
theorem st_check0 (v : Value) (xs : List Int) (hv : Vp xs) : Cal Tryz.prog 51 #[v, .slice none 0 0] [slp 2 wv v xs] false (G := Unit) (fun _ => True) (fun _ => .int .i64 (chk0 xs)) (fun _ => []) := by
  refine cal_in Tryz.func51 rfl Tryz.ntmps51 rfl ⟨rfl, trivial⟩ ?_
  intro w0 sc hw hsc
  simp only [enumEnv, enumPre]
  refine e_imp (s_nil 999 2 28 wv) ?_
  refine e_imp (s_pub 999 rfl rfl pV) ?_
  refine e_seq ?_
  refine e_reg ?_
  refine as_ rfl rfl ?_
  refine l_nil ?_
  refine x_then ?_
  refine e_seq ?_
  refine e_reg ?_
  refine mv rfl rfl ?_
  refine tt (t_call (n := 1) (st_fits _ _ hv) rfl rfl rfl ⟨rfl, trivial⟩ Tryz.call14 (pre_same 1 rfl rfl rfl pre_nil) rfl hw) rfl (fun _ _ => ?_)
  refine dt (d_not rfl rfl) rfl ?_
  refine as_ rfl rfl ?_
  refine l_nil ?_
  refine x_then ?_
  refine e_seq ?_
  refine e_seq ?_
  refine e_reg ?_
  refine mv rfl rfl ?_
  refine dt (d_len rfl rfl (i := 999) rfl rd_slp Tryz.underlying87) rfl ?_
  refine mv rfl rfl ?_
  refine l_nil ?_
  refine x_then ?_
  refine e_block ?_
  refine e_lp [(0, _), (1, _), (13, _), (14, _)] [(0, _), (1, _), (999, _)] (fun (_ : Unit) => [(15, .int .i64 0), (5, .bool (decide (¬ sfits xs)))]) (fun (_ : Unit) => []) (fun (_ : Unit) => True) (fun (_ : Unit) => 0) () trivial ⟨rfl, rfl, rfl, rfl, rfl, rfl, trivial⟩ ⟨rfl, rfl, rfl, trivial⟩ ?_
  rintro _ -
  simp only [List.cons_append, List.nil_append]
  refine e_seq ?_
  refine e_reg ?_
  refine dt (det_is (r' := .bool false) (d_lss rfl rfl rfl) (congrArg Value.bool (by decide))) rfl ?_
  refine l_nil ?_
  refine x_then ?_
  refine e_seq ?_
  refine e_condf rfl ?_
  refine e_exit ?_
  refine x_exit ?_
  refine x_exit ?_
  refine x_be ?_
  refine x_then ?_
  refine e_seq ?_
  refine e_seq ?_
  refine e_reg ?_
  refine mv rfl rfl ?_
  refine tt (t_call (n := 1) (poly_valid_ok _ _ (by assumption)) rfl rfl rfl ⟨rfl, trivial⟩ Tryz.call56 (pre_same 1 rfl rfl rfl pre_nil) rfl hw) rfl (fun _ _ => ?_)
  refine dt (d_notb rfl rfl) rfl ?_
  refine l_nil ?_
  refine x_then ?_
  refine e_condf rfl ?_
  refine e_skip ?_
  refine x_then ?_
  refine e_seq ?_
  refine e_seq ?_
  refine e_reg ?_
  refine mv rfl rfl ?_
  refine dt (d_len rfl rfl (i := 1) rfl rd_slp Tryz.underlying23) rfl ?_
  refine dt (d_eql rfl rfl rfl) rfl ?_
  refine l_nil ?_
  refine x_then ?_
  refine e_cond rfl (fun h39 => ?_) (fun h39 => ?_)
  · refine e_seq ?_
    refine e_reg ?_
    refine as_ rfl rfl ?_
    refine l_nil ?_
    refine x_then ?_
    refine e_ret ?_
    refine x_ret ?_
    exact x_end (.inl rfl) hsc () _ (fun a w hs => res1 hs Tryz.results51 rfl) (by unfold chk0; rw [if_pos (by omega)]) trivial rfl give_nil
  · refine e_skip ?_
    refine x_then ?_
    refine e_seq ?_
    refine e_seq ?_
    refine e_reg ?_
    refine mv rfl rfl ?_
    refine dt (d_len rfl rfl (i := 999) rfl rd_slp Tryz.underlying87) rfl ?_
    refine dt (det_is (r' := .bool false) (d_eql rfl rfl rfl) (congrArg Value.bool (by decide))) rfl ?_
    refine l_nil ?_
    refine x_then ?_
    refine e_condf rfl ?_
    refine e_skip ?_
    refine x_then ?_
    refine e_seq ?_
    refine e_seq ?_
    refine e_reg ?_
    refine mv rfl rfl ?_
    refine l_nil ?_
    refine x_then ?_
    refine e_condb rfl (fun h47 => ?_) (fun h47 => ?_)
    · refine e_seq ?_
      refine e_reg ?_
      refine as_ rfl rfl ?_
      refine l_nil ?_
      refine x_then ?_
      refine e_ret ?_
      refine x_ret ?_
      exact x_end (.inl rfl) hsc () _ (fun a w hs => res1 hs Tryz.results51 rfl) (by unfold chk0; rw [if_neg (by omega), if_neg (by simpa using h47)]) trivial rfl give_nil
    · refine e_skip ?_
      refine x_then ?_
      refine e_seq ?_
      refine e_reg ?_
      refine as_ rfl rfl ?_
      refine l_nil ?_
      refine x_then ?_
      refine e_ret ?_
      exact x_end (.inl rfl) hsc () _ (fun a w hs => res1 hs Tryz.results51 rfl) (by unfold chk0; rw [if_neg (by omega), if_pos (by simpa using h47)]) trivial rfl give_nil
theorem st_check0_bad (v : Value) (r : List (Bool × ByteArray)) (h : okP r = false) : Cal Tryz.prog 51 #[v, .slice none 0 0] [slp 2 encW v r] false (G := Unit) (fun _ => True) (fun _ => .int .i64 2) (fun _ => []) := by
  refine cal_in Tryz.func51 rfl Tryz.ntmps51 rfl ⟨rfl, trivial⟩ ?_
  intro w0 sc hw hsc
  simp only [enumEnv, enumPre]
  refine e_imp (s_nil 999 2 28 wv) ?_
  refine e_imp (s_pub 999 rfl rfl pV) ?_
  refine e_seq ?_
  refine e_reg ?_
  refine as_ rfl rfl ?_
  refine l_nil ?_
  refine x_then ?_
  refine e_seq ?_
  refine e_reg ?_
  refine mv rfl rfl ?_
  refine tt (t_call (n := 1) (st_fits_bad _ _ (by assumption)) rfl rfl rfl ⟨rfl, trivial⟩ Tryz.call14 (pre_same 1 rfl rfl rfl pre_nil) rfl hw) rfl (fun _ _ => ?_)
  refine dt (d_notb rfl rfl) rfl ?_
  refine as_ rfl rfl ?_
  refine l_nil ?_
  refine x_then ?_
  refine e_seq ?_
  refine e_seq ?_
  refine e_reg ?_
  refine mv rfl rfl ?_
  refine dt (d_len rfl rfl (i := 999) rfl rd_slp Tryz.underlying87) rfl ?_
  refine mv rfl rfl ?_
  refine l_nil ?_
  refine x_then ?_
  refine e_block ?_
  refine e_lp [(0, _), (1, _), (13, _), (14, _)] [(0, _), (1, _), (999, _)] (fun (_ : Unit) => [(15, .int .i64 0), (5, .bool true)]) (fun (_ : Unit) => []) (fun (_ : Unit) => True) (fun (_ : Unit) => 0) () trivial ⟨rfl, rfl, rfl, rfl, rfl, rfl, trivial⟩ ⟨rfl, rfl, rfl, trivial⟩ ?_
  rintro _ -
  simp only [List.cons_append, List.nil_append]
  refine e_seq ?_
  refine e_reg ?_
  refine dt (det_is (r' := .bool false) (d_lss rfl rfl rfl) (congrArg Value.bool (by decide))) rfl ?_
  refine l_nil ?_
  refine x_then ?_
  refine e_seq ?_
  refine e_condf rfl ?_
  refine e_exit ?_
  refine x_exit ?_
  refine x_exit ?_
  refine x_be ?_
  refine x_then ?_
  refine e_seq ?_
  refine e_seq ?_
  refine e_reg ?_
  refine mv rfl rfl ?_
  refine tt (t_call (n := 1) (poly_valid _ _) rfl rfl rfl ⟨rfl, trivial⟩ Tryz.call56 (pre_same 1 rfl rfl rfl pre_nil) rfl hw) rfl (fun _ _ => ?_)
  refine dt (d_notb rfl rfl) rfl ?_
  refine l_nil ?_
  refine x_then ?_
  refine e_condb rfl (fun h36 => ?_) (fun h36 => ?_)
  · refine e_seq ?_
    refine e_reg ?_
    refine as_ rfl rfl ?_
    refine l_nil ?_
    refine x_then ?_
    refine e_ret ?_
    refine x_ret ?_
    exact x_end (.inl rfl) hsc () _ (fun a w hs => res1 hs Tryz.results51 rfl) rfl trivial rfl give_nil
  · exfalso; simp_all
theorem st_check2 (v : Value) (xs : List Int) (hv : Vp xs) (u : Value) (x y x2 y2 : Int) (hx : bl x.natAbs ≤ 65536) (hy : bl y.natAbs ≤ 65536) (hx2 : bl x2.natAbs ≤ 65536) (hy2 : bl y2.natAbs ≤ 65536) (hp : 0 < y) (hp2 : 0 < y2) : Cal Tryz.prog 51 #[v, u] [slp 2 wv v xs, slp 4 rq u [(x, y), (x2, y2)]] false (G := Unit) (fun _ => True) (fun _ => .int .i64 (chk2r xs x y x2 y2)) (fun _ => []) := by
  refine cal_in Tryz.func51 rfl Tryz.ntmps51 rfl ⟨rfl, rfl, trivial⟩ ?_
  intro w0 sc hw hsc
  simp only [enumEnv, enumPre]
  have hll : ([(x, y), (x2, y2)] : List (Int × Int)).length = 2 := rfl
  have hzx : ∀ i, i < 2 → bl ([(x, y), (x2, y2)].getD i (0, 0)).1.natAbs ≤ 65536 := fun i hi => by match i, hi with | 0, _ => exact hx | 1, _ => exact hx2
  have hzy : ∀ i, i < 2 → bl ([(x, y), (x2, y2)].getD i (0, 0)).2.natAbs ≤ 65536 := fun i hi => by match i, hi with | 0, _ => exact hy | 1, _ => exact hy2
  have hzp : ∀ i, i < 2 → 0 < ([(x, y), (x2, y2)].getD i (0, 0)).2 := fun i hi => by match i, hi with | 0, _ => exact hp | 1, _ => exact hp2
  refine e_imp (s_nil 999 2 28 wv) ?_
  refine e_imp (s_pub 999 rfl rfl pV) ?_
  refine e_seq ?_
  refine e_reg ?_
  refine as_ rfl rfl ?_
  refine l_nil ?_
  refine x_then ?_
  refine e_seq ?_
  refine e_reg ?_
  refine mv rfl rfl ?_
  refine tt (t_call (n := 2) (st_fits _ _ hv) rfl rfl rfl ⟨rfl, trivial⟩ Tryz.call14 (pre_same 1 rfl rfl rfl pre_nil) rfl hw) rfl (fun _ _ => ?_)
  refine dt (d_not rfl rfl) rfl ?_
  refine as_ rfl rfl ?_
  refine l_nil ?_
  refine x_then ?_
  refine e_seq ?_
  refine e_seq ?_
  refine e_reg ?_
  refine mv rfl rfl ?_
  refine dt (d_len rfl rfl (i := 2) rfl rd_slp Tryz.underlying87) rfl ?_
  refine mv rfl rfl ?_
  refine l_nil ?_
  refine x_then ?_
  refine e_block ?_
  refine e_lp [(0, _), (1, _), (13, _), (14, _)] [(0, _), (1, _), (2, _), (999, _)] (fun (q : Nat × Bool) => [(15, .int .i64 (q.1 : Int)), (5, .bool q.2)]) (fun (q : Nat × Bool) => []) (fun (q : Nat × Bool) => (q.1 ≤ 2) ∧ (q.2 = (!decide (sfits xs) || ([(x, y), (x2, y2)].take q.1).any ef))) (fun (q : Nat × Bool) => 2 - q.1) (0, decide (¬ sfits xs)) ⟨by first | omega | (dsimp only <;> omega), by simp⟩ ⟨rfl, rfl, rfl, rfl, rfl, rfl, trivial⟩ ⟨rfl, rfl, rfl, rfl, trivial⟩ ?_
  rintro ⟨i, fl⟩ ⟨hi, hfl⟩
  dsimp only at hi hfl
  simp only [List.cons_append, List.nil_append]
  refine e_seq ?_
  refine e_reg ?_
  refine dt (d_lss rfl rfl rfl) rfl ?_
  refine l_nil ?_
  refine x_then ?_
  refine e_seq ?_
  refine e_cond rfl (fun h30 => ?_) (fun h30 => ?_)
  · refine e_skip ?_
    refine x_then ?_
    refine e_seq ?_
    refine e_block ?_
    refine e_seq ?_
    refine e_reg ?_
    refine dt (d_ixa (ii := 2) rfl rfl rfl rfl rd_slp Tryz.underlying87 Tryz.sizeOf49 rfl (by first | omega | (simp only [List.length_set]; omega))) rfl ?_
    refine dt (d_lde (ii := 2) (0, 0) rfl rfl rfl rd_slp pQ (by first | omega | (simp only [List.length_set]; omega))) rfl ?_
    refine tt (t_alloc (i := 3) rfl rfl rfl Tryz.zeroValue49 rfl rfl hw) rfl (fun bx _ => ?_)
    refine tt (t_stw (i := 3) rfl rfl rfl rfl rfl (by decide) rfl Tryz.sizeOf49 rfl rfl ⟨(one_rfl rfl), (one_rfl rfl), (one_rfl rfl), (one_rfl rfl), trivial⟩ rfl hw trivial) rfl (fun _ _ => ?_)
    refine l_nil ?_
    refine x_then ?_
    refine e_seq ?_
    refine e_seq ?_
    refine e_reg ?_
    refine dt (d_lb4 (i := 3) rfl rfl rfl Tryz.isAgg49 Tryz.sizeOf49 rfl rfl rfl rfl) rfl ?_
    refine tt (t_call (n := 3) (wide_validratio_ok _ _ (hzx i (by omega)) (hzy i (by omega)) (hzp i (by omega))) rfl rfl rfl ⟨rfl, trivial⟩ Tryz.call98 pre_nil rfl hw) rfl (fun _ _ => ?_)
    refine dt (d_notb rfl rfl) rfl ?_
    refine l_nil ?_
    refine x_then ?_
    refine e_condf rfl ?_
    refine e_skip ?_
    refine x_then ?_
    refine e_reg ?_
    refine mv rfl rfl ?_
    refine mv rfl rfl ?_
    refine l_splitb (d := 23) rfl (fun s34 => ?_) (fun s34 => ?_)
    · refine gsk rfl rfl rfl rfl rfl ?_
      refine gsk rfl rfl rfl rfl rfl ?_
      refine gsk rfl rfl rfl rfl rfl ?_
      refine gsk rfl rfl rfl rfl rfl ?_
      refine dt (d_pickt rfl rfl rfl) rfl ?_
      refine mv rfl rfl ?_
      refine gsk rfl rfl rfl rfl rfl ?_
      refine gsk rfl rfl rfl rfl rfl ?_
      refine gsk rfl rfl rfl rfl rfl ?_
      refine gsk rfl rfl rfl rfl rfl ?_
      refine dt (d_pickt rfl rfl rfl) rfl ?_
      refine as_ rfl rfl ?_
      refine l_nil ?_
      refine x_bn ?_
      refine x_then ?_
      refine e_reg ?_
      refine dt (d_add rfl rfl rfl ⟨by omega, by omega⟩) rfl ?_
      refine mv rfl rfl ?_
      refine l_nil ?_
      exact x_rnd (i + 1, _) ⟨by first | omega | (dsimp only <;> omega), st_fl (by omega) hfl (by first | exact ef_1 _ (by assumption) | exact ef_2 _ (by assumption) | exact ef_3 (by assumption) (by assumption))⟩ (by first | omega | (dsimp only <;> omega)) ⟨rfl, rfl, rfl, rfl, rfl, rfl, trivial⟩ ⟨rfl, rfl, rfl, rfl, trivial⟩
    · refine gdt (d_fa rfl rfl Tryz.underlying49 rfl Tryz.sizeOf28 rfl rfl) rfl rfl rfl rfl ?_
      refine gdt (d_lb2 (i := 3) rfl rfl rfl Tryz.isAgg28 Tryz.sizeOf28 rfl rfl) rfl rfl rfl rfl ?_
      refine gtt (t_call (n := 3) (wide_len _ (hzx i (by omega))) rfl rfl rfl ⟨rfl, trivial⟩ Tryz.call99 pre_nil rfl hw) rfl rfl rfl rfl (fun _ _ => ?_)
      refine gdt (d_gtr rfl rfl rfl) rfl rfl rfl rfl ?_
      refine dt (d_pickf rfl rfl rfl) rfl ?_
      refine mv rfl rfl ?_
      refine l_split (d := 29) rfl (fun s34_2 => ?_) (fun s34_2 => ?_)
      · refine gsk rfl rfl rfl rfl rfl ?_
        refine gsk rfl rfl rfl rfl rfl ?_
        refine gsk rfl rfl rfl rfl rfl ?_
        refine gsk rfl rfl rfl rfl rfl ?_
        refine dt (d_pickt rfl rfl rfl) rfl ?_
        refine as_ rfl rfl ?_
        refine l_nil ?_
        refine x_bn ?_
        refine x_then ?_
        refine e_reg ?_
        refine dt (d_add rfl rfl rfl ⟨by omega, by omega⟩) rfl ?_
        refine mv rfl rfl ?_
        refine l_nil ?_
        exact x_rnd (i + 1, _) ⟨by first | omega | (dsimp only <;> omega), st_fl (by omega) hfl (by first | exact ef_1 _ (by assumption) | exact ef_2 _ (by assumption) | exact ef_3 (by assumption) (by assumption))⟩ (by first | omega | (dsimp only <;> omega)) ⟨rfl, rfl, rfl, rfl, rfl, rfl, trivial⟩ ⟨rfl, rfl, rfl, rfl, trivial⟩
      · refine gdt (d_fa rfl rfl Tryz.underlying49 rfl Tryz.sizeOf28 rfl rfl) rfl rfl rfl rfl ?_
        refine gdt (d_lb2 (i := 3) rfl rfl rfl Tryz.isAgg28 Tryz.sizeOf28 rfl rfl) rfl rfl rfl rfl ?_
        refine gtt (t_call (n := 3) (wide_len _ (hzy i (by omega))) rfl rfl rfl ⟨rfl, trivial⟩ Tryz.call99 pre_nil rfl hw) rfl rfl rfl rfl (fun _ _ => ?_)
        refine gdt (d_gtr rfl rfl rfl) rfl rfl rfl rfl ?_
        refine dt (d_pickf rfl rfl rfl) rfl ?_
        refine as_ rfl rfl ?_
        refine l_nil ?_
        refine x_bn ?_
        refine x_then ?_
        refine e_reg ?_
        refine dt (d_add rfl rfl rfl ⟨by omega, by omega⟩) rfl ?_
        refine mv rfl rfl ?_
        refine l_nil ?_
        exact x_rnd (i + 1, _) ⟨by first | omega | (dsimp only <;> omega), st_fl (by omega) hfl (by first | exact ef_1 _ (by assumption) | exact ef_2 _ (by assumption) | exact ef_3 (by assumption) (by assumption))⟩ (by first | omega | (dsimp only <;> omega)) ⟨rfl, rfl, rfl, rfl, rfl, rfl, trivial⟩ ⟨rfl, rfl, rfl, rfl, trivial⟩
  · refine e_exit ?_
    refine x_exit ?_
    refine x_exit ?_
    refine x_be ?_
    refine x_then ?_
    refine e_seq ?_
    refine e_seq ?_
    obtain rfl : i = 2 := by omega
    refine e_reg ?_
    refine mv rfl rfl ?_
    refine tt (t_call (n := 3) (poly_valid_ok _ _ (by assumption)) rfl rfl rfl ⟨rfl, trivial⟩ Tryz.call56 (pre_same 1 rfl rfl rfl pre_nil) rfl hw) rfl (fun _ _ => ?_)
    refine dt (d_notb rfl rfl) rfl ?_
    refine l_nil ?_
    refine x_then ?_
    refine e_condf rfl ?_
    refine e_skip ?_
    refine x_then ?_
    refine e_seq ?_
    refine e_seq ?_
    refine e_reg ?_
    refine mv rfl rfl ?_
    refine dt (d_len rfl rfl (i := 1) rfl rd_slp Tryz.underlying23) rfl ?_
    refine dt (d_eql rfl rfl rfl) rfl ?_
    refine l_nil ?_
    refine x_then ?_
    refine e_cond rfl (fun h39 => ?_) (fun h39 => ?_)
    · refine e_seq ?_
      refine e_reg ?_
      refine as_ rfl rfl ?_
      refine l_nil ?_
      refine x_then ?_
      refine e_ret ?_
      refine x_ret ?_
      exact x_end (.inl rfl) hsc () _ (fun a w hs => res1 hs Tryz.results51 rfl) (by unfold chk2r; rw [if_pos (by omega)]) trivial rfl give_nil
    · refine e_skip ?_
      refine x_then ?_
      refine e_seq ?_
      refine e_seq ?_
      refine e_reg ?_
      refine mv rfl rfl ?_
      refine dt (d_len rfl rfl (i := 2) rfl rd_slp Tryz.underlying87) rfl ?_
      refine dt (det_is (r' := .bool true) (d_eql rfl rfl rfl) (congrArg Value.bool (decide_eq_true rfl))) rfl ?_
      refine l_nil ?_
      refine x_then ?_
      refine e_condt rfl ?_
      refine e_seq ?_
      refine e_dreg (fun _ => False) [(0, 0), (1, 0), (2, 0), (3, 0), (4, 0), (5, 0), (6, 1), (7, 0), (8, 0), (9, 0), (10, 0), (11, 3)] (by kernel_rfl) ?_ ?_
      · kernel_rfl
      refine r0' rfl rfl rfl rfl (st0 (d_mv rfl rfl)) ?_
      refine r0' rfl rfl rfl rfl (st0 (d_ixa (ii := 2) rfl rfl rfl rfl rd_slp Tryz.underlying87 Tryz.sizeOf49 rfl (by first | omega | (simp only [List.length_set]; omega)))) ?_
      refine r0' rfl rfl rfl rfl (st0 (d_lde (ii := 2) (0, 0) rfl rfl rfl rd_slp pQ (by first | omega | (simp only [List.length_set]; omega)))) ?_
      refine r0' rfl rfl rfl rfl (st0 (d_mv rfl rfl)) ?_
      refine r0' rfl rfl rfl rfl (st0 (d_ixa (ii := 2) rfl rfl rfl rfl rd_slp Tryz.underlying87 Tryz.sizeOf49 rfl (by first | omega | (simp only [List.length_set]; omega)))) ?_
      refine r0' rfl rfl rfl rfl (st0 (d_lde (ii := 2) (0, 0) rfl rfl rfl rd_slp pQ (by first | omega | (simp only [List.length_set]; omega)))) ?_
      refine r1' rfl rfl (t_call (n := 3) (wide_compareratio _ _ _ _ hx hy hx2 hy2 hp hp2) rfl rfl rfl ⟨rfl, rfl, trivial⟩ Tryz.call100 pre_nil rfl hw) (fun _ _ => ?_)
      refine r0' rfl rfl rfl rfl (st0 (d_mv rfl rfl)) ?_
      refine r0' rfl rfl rfl rfl (st0 (d_ex rfl rfl rfl)) ?_
      refine r0' rfl rfl rfl rfl (st0 (d_ex rfl rfl rfl)) ?_
      refine r0' rfl rfl rfl rfl (st0 (d_as rfl rfl)) ?_
      refine r3' rfl rfl (t_det (d_as rfl rfl) rfl rfl) (fun _ _ => ?_)
      refine r_end ?_
      refine x_then ?_
      refine e_seq ?_
      refine e_reg ?_
      refine mv rfl rfl ?_
      refine dt (d_gtr rfl rfl rfl) rfl ?_
      refine l_nil ?_
      refine x_then ?_
      refine e_cond rfl (fun h43 => ?_) (fun h43 => ?_)
      · refine e_seq ?_
        refine e_reg ?_
        refine as_ rfl rfl ?_
        refine l_nil ?_
        refine x_then ?_
        refine e_ret ?_
        refine x_ret ?_
        exact x_end (.inl rfl) hsc () _ (fun a w hs => res1 hs Tryz.results51 rfl) (by unfold chk2r; rw [if_neg (by omega), if_pos (int_sign_pos (by omega))]) trivial rfl give_nil
      · refine e_skip ?_
        refine x_then ?_
        refine e_seq ?_
        refine e_seq ?_
        refine e_reg ?_
        refine mv rfl rfl ?_
        refine l_nil ?_
        refine x_then ?_
        refine e_condb rfl (fun h47 => ?_) (fun h47 => ?_)
        · refine e_seq ?_
          refine e_reg ?_
          refine as_ rfl rfl ?_
          refine l_nil ?_
          refine x_then ?_
          refine e_ret ?_
          refine x_ret ?_
          exact x_end (.inl rfl) hsc () _ (fun a w hs => res1 hs Tryz.results51 rfl) (by unfold chk2r; rw [if_neg (by omega), if_neg (fun h => by have := int_pos_sign h; omega), if_neg (st_flt (h47 ▸ hfl))]) trivial rfl give_nil
        · refine e_skip ?_
          refine x_then ?_
          refine e_seq ?_
          refine e_reg ?_
          refine as_ rfl rfl ?_
          refine l_nil ?_
          refine x_then ?_
          refine e_ret ?_
          exact x_end (.inl rfl) hsc () _ (fun a w hs => res1 hs Tryz.results51 rfl) (by unfold chk2r; rw [if_neg (by omega), if_neg (fun h => by have := int_pos_sign h; omega), if_pos (st_flf (h47 ▸ hfl))]) trivial rfl give_nil
end Go.Sky
namespace Go.Sky
open Go.Proofs
set_option maxRecDepth 20000
set_option maxHeartbeats 4000000
set_option linter.unusedVariables false
set_option linter.unusedSimpArgs false
theorem st_positive (v : Value) (xs : List Int) (hv : Vp xs) (h0 : xs ≠ []) : Cal Tryz.prog 64 #[v] [slp 2 wv v xs] true (G := Value) (fun r => True) (fun r => .tuple #[r, .int .i64 0]) (fun r => [slp 2 wv r (nrm xs)]) := by
  refine cal_in Tryz.func64 rfl Tryz.ntmps64 rfl ⟨rfl, trivial⟩ ?_
  intro w0 sc hw hsc
  simp only [enumEnv, enumPre]
  have hvp := vp_pprim hv
  have hl0 := List.length_pos_iff.2 h0
  have hlp := length_pprim xs
  have hlen := hv.len
  refine e_seq ?_
  refine e_reg ?_
  refine as_ rfl rfl ?_
  refine as_ rfl rfl ?_
  refine l_nil ?_
  refine x_then ?_
  refine e_seq ?_
  refine e_reg ?_
  refine mv rfl rfl ?_
  refine tt (t_call (n := 2) (poly_primitive _ _ hv) rfl rfl rfl ⟨rfl, trivial⟩ Tryz.call68 (pre_same 1 rfl rfl rfl pre_nil) rfl hw) rfl (fun _ _ => ?_)
  refine mv rfl rfl ?_
  refine dt (d_ex rfl rfl rfl) rfl ?_
  refine dt (d_ex rfl rfl rfl) rfl ?_
  refine as_ rfl rfl ?_
  refine as_ rfl rfl ?_
  refine l_nil ?_
  refine x_then ?_
  refine e_seq ?_
  refine e_seq ?_
  refine e_reg ?_
  refine mv rfl rfl ?_
  refine dt (det_is (r' := .bool true) (d_eql rfl rfl rfl) (congrArg Value.bool (by decide))) rfl ?_
  refine mv rfl rfl ?_
  refine gdt (d_mv rfl rfl) rfl rfl rfl rfl ?_
  refine gdt (d_mv rfl rfl) rfl rfl rfl rfl ?_
  refine gdt (d_len rfl rfl (i := 2) rfl rd_slp Tryz.underlying23) rfl rfl rfl rfl ?_
  refine gdt (d_sub rfl rfl rfl ⟨by omega, by omega⟩) rfl rfl rfl rfl ?_
  refine gdt (d_ixa (ii := 2) (i := ((pprim xs).length - 1)) rfl rfl rfl rfl rd_slp Tryz.underlying23 Tryz.sizeOf28 (by omega) (by omega)) rfl rfl rfl rfl ?_
  refine gdt (d_lde (ii := 2) 0 rfl rfl rfl rd_slp pV (by first | omega | (simp only [List.length_set]; omega))) rfl rfl rfl rfl ?_
  refine gtt (t_call (n := 2) (wide_sign _ (hvp.sz _)) rfl rfl rfl ⟨rfl, trivial⟩ Tryz.call80 pre_nil rfl hw) rfl rfl rfl rfl (fun _ _ => ?_)
  refine gdt (d_lss rfl rfl rfl) rfl rfl rfl rfl ?_
  refine dt (d_pickt rfl rfl rfl) rfl ?_
  refine l_nil ?_
  refine x_then ?_
  refine e_cond rfl (fun h56 => ?_) (fun h56 => ?_)
  · refine e_seq ?_
    refine e_reg ?_
    refine mv rfl rfl ?_
    refine tt (t_call (n := 2) (wide_of_int _ ⟨by decide, by decide⟩) rfl rfl rfl ⟨rfl, trivial⟩ Tryz.call55 pre_nil rfl hw) rfl (fun _ _ => ?_)
    refine tt (t_call (n := 3) (poly_scale _ _ _ hvp (by decide +kernel) (fun i => bl_negm hvp.sz i)) rfl rfl rfl ⟨rfl, rfl, trivial⟩ Tryz.call113 (pre_same 2 rfl rfl rfl pre_nil) rfl hw) rfl (fun _ _ => ?_)
    refine dt (d_ex rfl rfl rfl) rfl ?_
    refine dt (d_ex rfl rfl rfl) rfl ?_
    refine as_ rfl rfl ?_
    refine as_ rfl rfl ?_
    refine l_nil ?_
    refine x_then ?_
    refine e_ret ?_
    refine x_ret ?_
    exact x_end (.inl rfl) hsc _ _ (fun a w hs => res2 hs Tryz.results64 rfl rfl) rfl trivial rfl (give_samee 3 rfl rfl rfl (by rw [nrm_neg (by omega) ((sign_neg_iff _).1 (by assumption))] <;> rfl) give_nil)
  · refine e_skip ?_
    refine x_then ?_
    refine e_seq ?_
    refine e_reg ?_
    refine mv rfl rfl ?_
    refine mv rfl rfl ?_
    refine as_ rfl rfl ?_
    refine as_ rfl rfl ?_
    refine l_nil ?_
    refine x_then ?_
    refine e_ret ?_
    exact x_end (.inl rfl) hsc _ _ (fun a w hs => res2 hs Tryz.results64 rfl rfl) rfl trivial rfl (give_samee 2 rfl rfl rfl (by rw [nrm_pos (fun h => by have h2 := (sign_neg_iff _).2 h; exact absurd h2 (by assumption))] <;> rfl) give_nil)
theorem st_sqf (v : Value) (xs : List Int) (hv : Vp xs) (h0 : xs ≠ []) (hf : sfits xs) (F : Nat) (hS : sqOK F xs) : Cal Tryz.prog 19 #[v] [slp 2 wv v xs] true (G := Value) (fun r => True) (fun r => .tuple #[r, .int .i64 0]) (fun r => [slp 2 wv r (sqf F xs)]) := by
  refine cal_in Tryz.func19 rfl Tryz.ntmps19 rfl ⟨rfl, trivial⟩ ?_
  intro w0 sc hw hsc
  simp only [enumEnv, enumPre]
  obtain ⟨hS1, hS2, hS3, hS4, hS5⟩ := hS
  have hvn := vp_nrm hv
  have hln := length_nrm hv.tr
  have hvd : Vp (pder (nrm xs)) := vp_pder hvn (fun i hi => hS1 i (by omega))
  have hvg := vp_pgcd hvn hvd hS3
  have hc0 := chk0_ok h0 hf
  refine e_imp (s_nil 999 2 28 wv) ?_
  refine e_imp (s_pub 999 rfl rfl pV) ?_
  refine e_seq ?_
  refine e_reg ?_
  refine as_ rfl rfl ?_
  refine as_ rfl rfl ?_
  refine l_nil ?_
  refine x_then ?_
  refine e_seq ?_
  refine e_seq ?_
  refine e_reg ?_
  refine mv rfl rfl ?_
  refine tt (t_call (n := 1) (st_check0 _ _ hv) rfl rfl rfl ⟨rfl, rfl, trivial⟩ Tryz.call51 (pre_same 1 rfl rfl rfl pre_nil) rfl hw) rfl (fun _ _ => ?_)
  refine as_ rfl rfl ?_
  refine l_nil ?_
  refine x_then ?_
  refine e_seq ?_
  refine e_reg ?_
  refine mv rfl rfl ?_
  refine dt (d_neq rfl rfl rfl) rfl ?_
  refine l_nil ?_
  refine x_then ?_
  refine e_cond rfl (fun h64 => ?_) (fun h64 => ?_)
  · exfalso; omega
  · refine e_skip ?_
    refine x_then ?_
    refine e_seq ?_
    refine e_reg ?_
    refine mv rfl rfl ?_
    refine tt (t_call (n := 2) (st_positive _ _ hv h0) rfl rfl rfl ⟨rfl, trivial⟩ Tryz.call64 (pre_same 1 rfl rfl rfl pre_nil) rfl hw) rfl (fun _ _ => ?_)
    refine mv rfl rfl ?_
    refine dt (d_ex rfl rfl rfl) rfl ?_
    refine dt (d_ex rfl rfl rfl) rfl ?_
    refine as_ rfl rfl ?_
    refine as_ rfl rfl ?_
    refine l_nil ?_
    refine x_then ?_
    refine e_seq ?_
    refine e_seq ?_
    refine e_reg ?_
    refine mv rfl rfl ?_
    refine dt (det_is (r' := .bool false) (d_neq rfl rfl rfl) (congrArg Value.bool (by decide))) rfl ?_
    refine l_nil ?_
    refine x_then ?_
    refine e_condf rfl ?_
    refine e_skip ?_
    refine x_then ?_
    refine e_seq ?_
    refine e_reg ?_
    refine mv rfl rfl ?_
    refine tt (t_call (n := 3) (poly_derive _ _ hvn (fun i => by by_cases hi : i < xs.length; exact hS1 i hi; rw [cf_ge (by omega)]; simp [bl_zero])) rfl rfl rfl ⟨rfl, trivial⟩ Tryz.call65 (pre_same 2 rfl rfl rfl pre_nil) rfl hw) rfl (fun _ _ => ?_)
    refine mv rfl rfl ?_
    refine dt (d_ex rfl rfl rfl) rfl ?_
    refine dt (d_ex rfl rfl rfl) rfl ?_
    refine as_ rfl rfl ?_
    refine as_ rfl rfl ?_
    refine l_nil ?_
    refine x_then ?_
    refine e_seq ?_
    refine e_seq ?_
    refine e_reg ?_
    refine mv rfl rfl ?_
    refine dt (det_is (r' := .bool false) (d_neq rfl rfl rfl) (congrArg Value.bool (by decide))) rfl ?_
    refine l_nil ?_
    refine x_then ?_
    refine e_condf rfl ?_
    refine e_skip ?_
    refine x_then ?_
    refine e_seq ?_
    refine e_reg ?_
    refine mv rfl rfl ?_
    refine mv rfl rfl ?_
    refine tt (t_call (n := 4) (poly_gcd _ _ _ _ hvn hvd F hS2 hS3) rfl rfl rfl ⟨rfl, rfl, trivial⟩ Tryz.call66 (pre_same 2 rfl rfl rfl (pre_same 3 rfl rfl rfl pre_nil)) rfl hw) rfl (fun _ _ => ?_)
    refine mv rfl rfl ?_
    refine dt (d_ex rfl rfl rfl) rfl ?_
    refine dt (d_ex rfl rfl rfl) rfl ?_
    refine as_ rfl rfl ?_
    refine as_ rfl rfl ?_
    refine l_nil ?_
    refine x_then ?_
    refine e_seq ?_
    refine e_seq ?_
    refine e_reg ?_
    refine mv rfl rfl ?_
    refine dt (det_is (r' := .bool false) (d_neq rfl rfl rfl) (congrArg Value.bool (by decide))) rfl ?_
    refine l_nil ?_
    refine x_then ?_
    refine e_condf rfl ?_
    refine e_skip ?_
    refine x_then ?_
    refine e_seq ?_
    refine e_reg ?_
    refine mv rfl rfl ?_
    refine mv rfl rfl ?_
    refine tt (t_call (n := 5) (poly_divide _ _ _ _ hvn hvg hS4) rfl rfl rfl ⟨rfl, rfl, trivial⟩ Tryz.call67 (pre_same 2 rfl rfl rfl (pre_same 4 rfl rfl rfl pre_nil)) rfl hw) rfl (fun _ _ => ?_)
    refine dt (d_ex rfl rfl rfl) rfl ?_
    refine dt (d_ex rfl rfl rfl) rfl ?_
    refine as_ rfl rfl ?_
    refine as_ rfl rfl ?_
    refine l_nil ?_
    refine x_then ?_
    refine e_ret ?_
    exact x_end (.inl rfl) hsc _ _ (fun a w hs => res2 hs Tryz.results19 rfl rfl) (by rw [if_pos hS5] <;> rfl) trivial rfl (give_samee 5 rfl rfl rfl (by rw [if_pos hS5] <;> rfl) give_nil)
theorem st_sqf_err (v : Value) (xs : List Int) (hv : Vp xs) (he : chk0 xs ≠ 0) : Cal Tryz.prog 19 #[v] [slp 2 wv v xs] false (G := Unit) (fun _ => True) (fun _ => .tuple #[.slice none 0 0, .int .i64 (chk0 xs)]) (fun _ => []) := by
  refine cal_in Tryz.func19 rfl Tryz.ntmps19 rfl ⟨rfl, trivial⟩ ?_
  intro w0 sc hw hsc
  simp only [enumEnv, enumPre]
  refine e_imp (s_nil 999 2 28 wv) ?_
  refine e_imp (s_pub 999 rfl rfl pV) ?_
  refine e_seq ?_
  refine e_reg ?_
  refine as_ rfl rfl ?_
  refine as_ rfl rfl ?_
  refine l_nil ?_
  refine x_then ?_
  refine e_seq ?_
  refine e_seq ?_
  refine e_reg ?_
  refine mv rfl rfl ?_
  refine tt (t_call (n := 1) (st_check0 _ _ hv) rfl rfl rfl ⟨rfl, rfl, trivial⟩ Tryz.call51 (pre_same 1 rfl rfl rfl pre_nil) rfl hw) rfl (fun _ _ => ?_)
  refine as_ rfl rfl ?_
  refine l_nil ?_
  refine x_then ?_
  refine e_seq ?_
  refine e_reg ?_
  refine mv rfl rfl ?_
  refine dt (d_neq rfl rfl rfl) rfl ?_
  refine l_nil ?_
  refine x_then ?_
  refine e_cond rfl (fun h64 => ?_) (fun h64 => ?_)
  · refine e_seq ?_
    refine e_reg ?_
    refine mv rfl rfl ?_
    refine as_ rfl rfl ?_
    refine as_ rfl rfl ?_
    refine l_nil ?_
    refine x_then ?_
    refine e_ret ?_
    refine x_ret ?_
    exact x_end (.inl rfl) hsc () _ (fun a w hs => res2 hs Tryz.results19 rfl rfl) rfl trivial rfl give_nil
  · exfalso; omega
theorem st_sqf_bad (v : Value) (r : List (Bool × ByteArray)) (h : okP r = false) : Cal Tryz.prog 19 #[v] [slp 2 encW v r] false (G := Unit) (fun _ => True) (fun _ => .tuple #[.slice none 0 0, .int .i64 2]) (fun _ => []) := by
  refine cal_in Tryz.func19 rfl Tryz.ntmps19 rfl ⟨rfl, trivial⟩ ?_
  intro w0 sc hw hsc
  simp only [enumEnv, enumPre]
  refine e_imp (s_nil 999 2 28 wv) ?_
  refine e_imp (s_pub 999 rfl rfl pV) ?_
  refine e_seq ?_
  refine e_reg ?_
  refine as_ rfl rfl ?_
  refine as_ rfl rfl ?_
  refine l_nil ?_
  refine x_then ?_
  refine e_seq ?_
  refine e_seq ?_
  refine e_reg ?_
  refine mv rfl rfl ?_
  refine tt (t_call (n := 1) (st_check0_bad _ _ (by assumption)) rfl rfl rfl ⟨rfl, rfl, trivial⟩ Tryz.call51 (pre_same 1 rfl rfl rfl pre_nil) rfl hw) rfl (fun _ _ => ?_)
  refine as_ rfl rfl ?_
  refine l_nil ?_
  refine x_then ?_
  refine e_seq ?_
  refine e_reg ?_
  refine mv rfl rfl ?_
  refine dt (det_is (r' := .bool true) (d_neq rfl rfl rfl) (congrArg Value.bool (by decide))) rfl ?_
  refine l_nil ?_
  refine x_then ?_
  refine e_condt rfl ?_
  refine e_seq ?_
  refine e_reg ?_
  refine mv rfl rfl ?_
  refine as_ rfl rfl ?_
  refine as_ rfl rfl ?_
  refine l_nil ?_
  refine x_then ?_
  refine e_ret ?_
  refine x_ret ?_
  exact x_end (.inl rfl) hsc () _ (fun a w hs => res2 hs Tryz.results19 rfl rfl) rfl trivial rfl give_nil
end Go.Sky
namespace Go.Sky
open Go.Proofs
set_option maxRecDepth 20000
set_option maxHeartbeats 4000000
set_option linter.unusedVariables false
set_option linter.unusedSimpArgs false
theorem st_next (v u : Value) (xs ys : List Int) (hv : Vp xs) (hu : Vp ys) (h0 : ys ≠ []) (hd : derr xs ys = 0) (hl : ys.length ≤ xs.length) : Cal Tryz.prog 69 #[v, u] [slp 2 wv v xs, slp 2 wv u ys] true (G := Value) (fun r => True) (fun r => .tuple #[r, .int .i64 0]) (fun r => [slp 2 wv r (snext xs ys)]) := by
  refine cal_in Tryz.func69 rfl Tryz.ntmps69 rfl ⟨rfl, rfl, trivial⟩ ?_
  intro w0 sc hw hsc
  simp only [enumEnv, enumPre]
  have hvr := vp_prest hv hd
  have hvp := vp_pprim hvr
  have hlen := hv.len
  have hlen2 := hu.len
  have hl0 := List.length_pos_iff.2 h0
  refine e_imp (s_nil 999 2 28 wv) ?_
  refine e_imp (s_pub 999 rfl rfl pV) ?_
  refine e_seq ?_
  refine e_reg ?_
  refine as_ rfl rfl ?_
  refine as_ rfl rfl ?_
  refine l_nil ?_
  refine x_then ?_
  refine e_seq ?_
  refine e_reg ?_
  refine mv rfl rfl ?_
  refine mv rfl rfl ?_
  refine tt (t_call (n := 3) (poly_rest _ _ _ _ hv hu hd) rfl rfl rfl ⟨rfl, rfl, trivial⟩ Tryz.call116 (pre_same 1 rfl rfl rfl (pre_same 2 rfl rfl rfl pre_nil)) rfl hw) rfl (fun _ _ => ?_)
  refine mv rfl rfl ?_
  refine dt (d_ex rfl rfl rfl) rfl ?_
  refine dt (d_ex rfl rfl rfl) rfl ?_
  refine as_ rfl rfl ?_
  refine as_ rfl rfl ?_
  refine l_nil ?_
  refine x_then ?_
  refine e_seq ?_
  refine e_seq ?_
  refine e_reg ?_
  refine mv rfl rfl ?_
  refine dt (det_is (r' := .bool false) (d_neq rfl rfl rfl) (congrArg Value.bool (by decide))) rfl ?_
  refine mv rfl rfl ?_
  refine gdt (d_mv rfl rfl) rfl rfl rfl rfl ?_
  refine gdt (d_len rfl rfl (i := 3) rfl rd_slp Tryz.underlying23) rfl rfl rfl rfl ?_
  refine gdt (d_eql rfl rfl rfl) rfl rfl rfl rfl ?_
  refine dt (d_pickf rfl rfl rfl) rfl ?_
  refine l_nil ?_
  refine x_then ?_
  refine e_cond rfl (fun h85 => ?_) (fun h85 => ?_)
  · refine e_seq ?_
    refine e_reg ?_
    refine mv rfl rfl ?_
    refine as_ rfl rfl ?_
    refine as_ rfl rfl ?_
    refine l_nil ?_
    refine x_then ?_
    refine e_ret ?_
    refine x_ret ?_
    exact x_end (.inl rfl) hsc (.slice none 0 0) _ (fun a w hs => res2 hs Tryz.results69 rfl rfl) rfl trivial rfl (give_none (snext_nil (by omega)) give_nil)
  · refine e_skip ?_
    refine x_then ?_
    refine e_seq ?_
    refine e_reg ?_
    refine mv rfl rfl ?_
    refine tt (t_call (n := 4) (poly_primitive _ _ hvr) rfl rfl rfl ⟨rfl, trivial⟩ Tryz.call68 (pre_same 3 rfl rfl rfl pre_nil) rfl hw) rfl (fun _ _ => ?_)
    refine mv rfl rfl ?_
    refine dt (d_ex rfl rfl rfl) rfl ?_
    refine dt (d_ex rfl rfl rfl) rfl ?_
    refine as_ rfl rfl ?_
    refine as_ rfl rfl ?_
    refine l_nil ?_
    refine x_then ?_
    refine e_seq ?_
    refine e_seq ?_
    refine e_reg ?_
    refine mv rfl rfl ?_
    refine dt (det_is (r' := .bool false) (d_neq rfl rfl rfl) (congrArg Value.bool (by decide))) rfl ?_
    refine l_nil ?_
    refine x_then ?_
    refine e_condf rfl ?_
    refine e_skip ?_
    refine x_then ?_
    refine e_seq ?_
    refine e_reg ?_
    refine mv rfl rfl ?_
    refine dt (d_len rfl rfl (i := 1) rfl rd_slp Tryz.underlying23) rfl ?_
    refine mv rfl rfl ?_
    refine dt (d_len rfl rfl (i := 2) rfl rd_slp Tryz.underlying23) rfl ?_
    refine dt (d_sub rfl rfl rfl ⟨by omega, by omega⟩) rfl ?_
    refine dt (d_add rfl rfl rfl ⟨by omega, by omega⟩) rfl ?_
    refine as_ rfl rfl ?_
    refine l_nil ?_
    refine x_then ?_
    refine e_seq ?_
    refine e_seq ?_
    refine e_reg ?_
    refine mv rfl rfl ?_
    refine mv rfl rfl ?_
    refine dt (d_len rfl rfl (i := 2) rfl rd_slp Tryz.underlying23) rfl ?_
    refine dt (d_sub rfl rfl rfl ⟨by omega, by omega⟩) rfl ?_
    refine dt (d_ixa (ii := 2) (i := (ys.length - 1)) rfl rfl rfl rfl rd_slp Tryz.underlying23 Tryz.sizeOf28 (by omega) (by omega)) rfl ?_
    refine dt (d_lde (ii := 2) 0 rfl rfl rfl rd_slp pV (by first | omega | (simp only [List.length_set]; omega))) rfl ?_
    refine tt (t_call (n := 4) (wide_sign _ (hu.sz _)) rfl rfl rfl ⟨rfl, trivial⟩ Tryz.call80 pre_nil rfl hw) rfl (fun _ _ => ?_)
    refine dt (d_lss rfl rfl rfl) rfl ?_
    refine mv rfl rfl ?_
    refine l_split (d := 45) rfl (fun s94 => ?_) (fun s94 => ?_)
    · refine gdt (d_mv rfl rfl) rfl rfl rfl rfl ?_
      refine gdt (d_rem rfl rfl rfl (by omega) (by omega)) rfl rfl rfl rfl ?_
      refine gdt (d_eql rfl rfl rfl) rfl rfl rfl rfl ?_
      refine dt (d_pickt rfl rfl rfl) rfl ?_
      refine l_nil ?_
      refine x_then ?_
      refine e_cond rfl (fun h94 => ?_) (fun h94 => ?_)
      · refine e_seq ?_
        refine e_reg ?_
        refine mv rfl rfl ?_
        refine as_ rfl rfl ?_
        refine as_ rfl rfl ?_
        refine l_nil ?_
        refine x_then ?_
        refine e_ret ?_
        refine x_ret ?_
        exact x_end (.inl rfl) hsc _ _ (fun a w hs => res2 hs Tryz.results69 rfl rfl) rfl trivial rfl (give_samee 4 rfl rfl rfl (by rw [snext_a hl (by assumption) (by assumption)] <;> rfl) give_nil)
      · refine e_skip ?_
        refine x_then ?_
        refine e_seq ?_
        refine e_reg ?_
        refine mv rfl rfl ?_
        refine tt (t_call (n := 4) (wide_of_int _ ⟨by decide, by decide⟩) rfl rfl rfl ⟨rfl, trivial⟩ Tryz.call55 pre_nil rfl hw) rfl (fun _ _ => ?_)
        refine tt (t_call (n := 5) (poly_scale _ _ _ hvp (by decide +kernel) (fun i => bl_negm hvp.sz i)) rfl rfl rfl ⟨rfl, rfl, trivial⟩ Tryz.call113 (pre_same 4 rfl rfl rfl pre_nil) rfl hw) rfl (fun _ _ => ?_)
        refine dt (d_ex rfl rfl rfl) rfl ?_
        refine dt (d_ex rfl rfl rfl) rfl ?_
        refine as_ rfl rfl ?_
        refine as_ rfl rfl ?_
        refine l_nil ?_
        refine x_then ?_
        refine e_ret ?_
        exact x_end (.inl rfl) hsc _ _ (fun a w hs => res2 hs Tryz.results69 rfl rfl) rfl trivial rfl (give_samee 5 rfl rfl rfl (by first | (rw [snext_b (by assumption)] <;> rfl) | (rw [snext_c hl (by assumption)] <;> rfl)) give_nil)
    · refine gsk rfl rfl rfl rfl rfl ?_
      refine gsk rfl rfl rfl rfl rfl ?_
      refine gsk rfl rfl rfl rfl rfl ?_
      refine dt (d_pickf rfl rfl rfl) rfl ?_
      refine l_nil ?_
      refine x_then ?_
      refine e_condf rfl ?_
      refine e_skip ?_
      refine x_then ?_
      refine e_seq ?_
      refine e_reg ?_
      refine mv rfl rfl ?_
      refine tt (t_call (n := 5) (wide_of_int _ ⟨by decide, by decide⟩) rfl rfl rfl ⟨rfl, trivial⟩ Tryz.call55 pre_nil rfl hw) rfl (fun _ _ => ?_)
      refine tt (t_call (n := 6) (poly_scale _ _ _ hvp (by decide +kernel) (fun i => bl_negm hvp.sz i)) rfl rfl rfl ⟨rfl, rfl, trivial⟩ Tryz.call113 (pre_same 4 rfl rfl rfl pre_nil) rfl hw) rfl (fun _ _ => ?_)
      refine dt (d_ex rfl rfl rfl) rfl ?_
      refine dt (d_ex rfl rfl rfl) rfl ?_
      refine as_ rfl rfl ?_
      refine as_ rfl rfl ?_
      refine l_nil ?_
      refine x_then ?_
      refine e_ret ?_
      exact x_end (.inl rfl) hsc _ _ (fun a w hs => res2 hs Tryz.results69 rfl rfl) rfl trivial rfl (give_samee 6 rfl rfl rfl (by first | (rw [snext_b (by assumption)] <;> rfl) | (rw [snext_c hl (by assumption)] <;> rfl)) give_nil)
theorem st_chain (v : Value) (xs : List Int) (hv : Vp xs) (h0 : xs ≠ []) (hf : sfits xs) (F : Nat) (hC : chOK F xs) : Cal Tryz.prog 20 #[v] [slp 2 wv v xs] true (G := Value × List (SL × List Int)) (fun r => r.2.map Prod.snd = chn F xs) (fun r => .tuple #[r.1, .int .i64 0]) (fun r => [deep 1 encS qZ r.1 r.2]) := by
  refine cal_in Tryz.func20 rfl Tryz.ntmps20 rfl ⟨rfl, trivial⟩ ?_
  intro w0 sc hw hsc
  simp only [enumEnv, enumPre]
  obtain ⟨hC1, hC2, hC3⟩ := hC
  have hvq := vp_sqf hv h0 hC1
  have hlq := length_sqf hv hC1
  have hvqd : Vp (pder (sqf F xs)) := vp_pder hvq (fun i hi => hC2 i (by omega))
  refine e_imp (s_nil 999 2 28 wv) ?_
  refine e_imp (s_pub 999 rfl rfl pV) ?_
  refine e_seq ?_
  refine e_reg ?_
  refine as_ rfl rfl ?_
  refine as_ rfl rfl ?_
  refine l_nil ?_
  refine x_then ?_
  refine e_seq ?_
  refine e_reg ?_
  refine mv rfl rfl ?_
  refine tt (t_call (n := 2) (st_sqf _ _ hv h0 hf F hC1) rfl rfl rfl ⟨rfl, trivial⟩ Tryz.call19 (pre_same 1 rfl rfl rfl pre_nil) rfl hw) rfl (fun _ _ => ?_)
  refine mv rfl rfl ?_
  refine dt (d_ex rfl rfl rfl) rfl ?_
  refine dt (d_ex rfl rfl rfl) rfl ?_
  refine as_ rfl rfl ?_
  refine as_ rfl rfl ?_
  refine l_nil ?_
  refine x_then ?_
  refine e_seq ?_
  refine e_seq ?_
  refine e_reg ?_
  refine mv rfl rfl ?_
  refine dt (det_is (r' := .bool false) (d_neq rfl rfl rfl) (congrArg Value.bool (by decide))) rfl ?_
  refine l_nil ?_
  refine x_then ?_
  refine e_condf rfl ?_
  refine e_skip ?_
  refine x_then ?_
  refine e_seq ?_
  refine e_reg ?_
  refine mv rfl rfl ?_
  refine tt (t_call (n := 3) (poly_derive _ _ hvq (fun i => by by_cases hi : i < xs.length; exact hC2 i hi; rw [cf_ge (by omega)]; simp [bl_zero])) rfl rfl rfl ⟨rfl, trivial⟩ Tryz.call65 (pre_same 2 rfl rfl rfl pre_nil) rfl hw) rfl (fun _ _ => ?_)
  refine mv rfl rfl ?_
  refine dt (d_ex rfl rfl rfl) rfl ?_
  refine dt (d_ex rfl rfl rfl) rfl ?_
  refine as_ rfl rfl ?_
  refine as_ rfl rfl ?_
  refine l_nil ?_
  refine x_then ?_
  refine e_seq ?_
  refine e_seq ?_
  refine e_reg ?_
  refine mv rfl rfl ?_
  refine dt (det_is (r' := .bool true) (d_eql rfl rfl rfl) (congrArg Value.bool (by decide))) rfl ?_
  refine l_nil ?_
  refine x_then ?_
  refine e_condt rfl ?_
  refine e_reg ?_
  refine mv rfl rfl ?_
  refine tt (t_call (n := 80) (poly_primitive _ _ hvqd) rfl rfl rfl ⟨rfl, trivial⟩ Tryz.call68 (pre_same 3 rfl rfl rfl pre_nil) rfl hw) rfl (fun _ _ => ?_)
  refine mv rfl rfl ?_
  refine dt (d_ex rfl rfl rfl) rfl ?_
  refine dt (d_ex rfl rfl rfl) rfl ?_
  refine as_ rfl rfl ?_
  refine as_ rfl rfl ?_
  refine l_nil ?_
  refine x_then ?_
  refine e_seq ?_
  refine e_seq ?_
  refine e_reg ?_
  refine mv rfl rfl ?_
  refine dt (det_is (r' := .bool false) (d_neq rfl rfl rfl) (congrArg Value.bool (by decide))) rfl ?_
  refine l_nil ?_
  refine x_then ?_
  refine e_condf rfl ?_
  refine e_skip ?_
  refine x_then ?_
  refine e_seq ?_
  refine e_ex (f_slice 2 rfl rd_slp) (fun ss hss => ?_)
  subst hss
  refine e_imp (s_many_nil qZ 71) ?_
  refine e_imp (s_many_snoc (q := qZ) (z := (ss, sqf F xs)) 71 2 71 rfl rfl rfl rfl rfl) ?_
  refine e_ex (f_slice 80 rfl rd_slp) (fun sd0 hsd => ?_)
  subst hsd
  refine e_reg ?_
  refine mv rfl rfl ?_
  refine tt (t_bsg (i := 70) (ivs := [(0, _)]) (enc := encS) [(ss, sqf F xs)] rfl rfl rfl ⟨rfl, rfl, trivial⟩ Tryz.underlying44 Tryz.ti23 rfl rfl rfl rfl rfl rfl pS.cells rfl rfl hw) rfl (fun v _ => ?_)
  refine as_ rfl rfl ?_
  refine l_nil ?_
  refine x_then ?_
  refine e_seq ?_
  refine e_block ?_
  refine e_lp [] [(0, _), (1, _), (999, _), (2, _), (3, _)] (fun (q : List (SL × List Int) × SL × List Int × SL × List Int × Nat × Value) => [(7, q.2.2.2.2.2.2), (6, svv q.2.2.2.1)]) (fun (q : List (SL × List Int) × SL × List Int × SL × List Int × Nat × Value) => [(70, osl 1 23 encS q.2.2.2.2.2.2 (q.1 ++ [(q.2.1, q.2.2.1)])), (71, many qZ (q.1 ++ [(q.2.1, q.2.2.1)])), (80, slp 2 wv (svv q.2.2.2.1) q.2.2.2.2.1)]) (fun (q : List (SL × List Int) × SL × List Int × SL × List Int × Nat × Value) => (Vp q.2.2.1) ∧ (Vp q.2.2.2.2.1) ∧ (cok q.2.2.2.2.2.1 q.2.2.1 q.2.2.2.2.1) ∧ (q.1.map Prod.snd ++ schain q.2.2.2.2.2.1 q.2.2.1 q.2.2.2.2.1 = chn F xs) ∧ (q.1.length + q.2.2.2.2.1.length ≤ 25)) (fun (q : List (SL × List Int) × SL × List Int × SL × List Int × Nat × Value) => q.2.2.2.2.1.length) ([], ss, sqf F xs, sd0, pprim (pder (sqf F xs)), F, _) ⟨hvq, vp_pprim hvqd, hC3, rfl, by rw [length_pprim]; simp; have := hvqd.len; omega⟩ ⟨rfl, rfl, trivial⟩ ⟨rfl, rfl, rfl, rfl, rfl, rfl, rfl, rfl, trivial⟩ ?_
  rintro ⟨ws, sx, x, sd, y, f, vo⟩ ⟨hvx, hvy, hck, hch, hwl⟩
  dsimp only at hvx hvy hck hch hwl
  simp only [List.cons_append, List.nil_append]
  refine e_seq ?_
  refine e_seq ?_
  refine e_reg ?_
  refine mv rfl rfl ?_
  refine dt (d_len rfl rfl (i := 80) rfl rd_slp Tryz.underlying23) rfl ?_
  refine dt (d_gtr rfl rfl rfl) rfl ?_
  refine l_nil ?_
  refine x_then ?_
  refine e_cond rfl (fun h114 => ?_) (fun h114 => ?_)
  · have hy0 : y ≠ [] := fun e => by rw [e] at h114; simp at h114
    obtain ⟨f0, rfl, hd, hle, hck2, hsc2⟩ := cok_step hck hy0
    refine e_skip ?_
    refine x_then ?_
    refine e_block ?_
    refine e_seq ?_
    refine e_reg ?_
    refine mv rfl rfl ?_
    refine mv rfl rfl ?_
    refine tt (t_bsg (i := 4) (ivs := [(0, _)]) (enc := encS) [(sd, y)] rfl rfl rfl ⟨rfl, rfl, trivial⟩ Tryz.underlying44 Tryz.ti23 rfl rfl rfl rfl rfl rfl pS.cells rfl rfl hw) rfl (fun v_2 _ => ?_)
    refine tt (t_appa (i := 70) (j := 4) (by_ := 24) rfl rfl rfl rfl rfl rfl (by decide) rfl (rd_osl pS) Tryz.underlying44 Tryz.ti23 rfl pS rfl rfl rfl (by simp; omega) (by decide) rfl hw) rfl (fun v_3 _ => ?_)
    refine as_ rfl rfl ?_
    refine l_nil ?_
    refine x_then ?_
    refine e_seq ?_
    have hll : (ws ++ [(sx, x)] ++ [(sd, y)]).length = ws.length + 2 := by simp
    refine e_imp (s_many_snoc (q := qZ) (z := (sd, y)) 71 80 71 rfl rfl rfl rfl rfl) ?_
    refine e_imp (s_many (q := qZ) 71 92 (sx, x) rfl rfl (by simp) rfl) ?_
    refine e_reg ?_
    refine mv rfl rfl ?_
    refine mv rfl rfl ?_
    refine dt (d_len rfl rfl (i := 70) rfl (rd_osl pS) Tryz.underlying44) rfl ?_
    refine dt (d_sub rfl rfl rfl ⟨by omega, by omega⟩) rfl ?_
    refine dt (d_ixa (ii := 70) (i := ws.length) rfl rfl rfl rfl (rd_osl pS) Tryz.underlying44 Tryz.sizeOf23 (by omega) (by omega)) rfl ?_
    refine dt (det_is (r' := svv sx) (d_lde (ii := 70) Z0 rfl rfl rfl (rd_osl pS) pS (by omega)) (by simp [List.getD_eq_getElem?_getD])) rfl ?_
    refine mv rfl rfl ?_
    refine tt (t_call (n := 80) (st_next _ _ _ _ hvx hvy hy0 hd hle) rfl rfl rfl ⟨rfl, rfl, trivial⟩ Tryz.call69 (pre_same 92 rfl rfl rfl (pre_same 80 rfl rfl rfl pre_nil)) rfl hw) rfl (fun _ _ => ?_)
    refine l_ex (f_slice 80 rfl rd_slp) (fun sn hsn => ?_)
    subst hsn
    refine mv rfl rfl ?_
    refine dt (d_ex rfl rfl rfl) rfl ?_
    refine dt (d_ex rfl rfl rfl) rfl ?_
    refine as_ rfl rfl ?_
    refine as_ rfl rfl ?_
    refine l_nil ?_
    refine x_then ?_
    refine e_seq ?_
    refine e_reg ?_
    refine mv rfl rfl ?_
    refine dt (det_is (r' := .bool false) (d_neq rfl rfl rfl) (congrArg Value.bool (by decide))) rfl ?_
    refine l_nil ?_
    refine x_then ?_
    refine e_condf rfl ?_
    refine e_skip ?_
    refine x_bn ?_
    exact x_rnd (ws ++ [(sx, x)], sd, y, sn, snext x y, f0, _) ⟨hvy, vp_snext hvx hd, hck2, by rw [← hch, hsc2]; simp, by have h7 := length_prest_lt x hy0; have h8 := length_snext (y := y) hvx.tr; simp; omega⟩ (by have h7 := length_prest_lt x hy0; have h8 := length_snext (y := y) hvx.tr; dsimp only; omega) ⟨rfl, rfl, trivial⟩ ⟨rfl, rfl, rfl, rfl, rfl, rfl, rfl, rfl, trivial⟩
  · refine e_exit ?_
    refine x_exit ?_
    refine x_exit ?_
    refine x_be ?_
    refine x_then ?_
    refine e_seq ?_
    obtain rfl : y = [] := List.eq_nil_of_length_eq_zero (by omega)
    refine e_imp (s_pub 70 rfl rfl pS) ?_
    refine e_imp (s_mkdeep 70 71 72 rfl rfl rfl rfl) ?_
    refine e_reg ?_
    refine mv rfl rfl ?_
    refine as_ rfl rfl ?_
    refine as_ rfl rfl ?_
    refine l_nil ?_
    refine x_then ?_
    refine e_ret ?_
    exact x_end (.inl rfl) hsc (_, ws ++ [(sx, x)]) _ (fun a w hs => res2 hs Tryz.results20 rfl rfl) rfl (by rw [← hch, schain_nil]; simp) rfl (give_same 72 rfl rfl rfl give_nil)
theorem st_chain_err (v : Value) (xs : List Int) (hv : Vp xs) (he : chk0 xs ≠ 0) : Cal Tryz.prog 20 #[v] [slp 2 wv v xs] false (G := Unit) (fun _ => True) (fun _ => .tuple #[.slice none 0 0, .int .i64 (chk0 xs)]) (fun _ => []) := by
  refine cal_in Tryz.func20 rfl Tryz.ntmps20 rfl ⟨rfl, trivial⟩ ?_
  intro w0 sc hw hsc
  simp only [enumEnv, enumPre]
  refine e_imp (s_nil 999 2 28 wv) ?_
  refine e_imp (s_pub 999 rfl rfl pV) ?_
  refine e_seq ?_
  refine e_reg ?_
  refine as_ rfl rfl ?_
  refine as_ rfl rfl ?_
  refine l_nil ?_
  refine x_then ?_
  refine e_seq ?_
  refine e_reg ?_
  refine mv rfl rfl ?_
  refine tt (t_call (n := 1) (st_sqf_err _ _ (by assumption) (by assumption)) rfl rfl rfl ⟨rfl, trivial⟩ Tryz.call19 (pre_same 1 rfl rfl rfl pre_nil) rfl hw) rfl (fun _ _ => ?_)
  refine mv rfl rfl ?_
  refine dt (d_ex rfl rfl rfl) rfl ?_
  refine dt (d_ex rfl rfl rfl) rfl ?_
  refine as_ rfl rfl ?_
  refine as_ rfl rfl ?_
  refine l_nil ?_
  refine x_then ?_
  refine e_seq ?_
  refine e_seq ?_
  refine e_reg ?_
  refine mv rfl rfl ?_
  refine dt (d_neq rfl rfl rfl) rfl ?_
  refine l_nil ?_
  refine x_then ?_
  refine e_cond rfl (fun h103 => ?_) (fun h103 => ?_)
  · refine e_seq ?_
    refine e_reg ?_
    refine mv rfl rfl ?_
    refine as_ rfl rfl ?_
    refine as_ rfl rfl ?_
    refine l_nil ?_
    refine x_then ?_
    refine e_ret ?_
    refine x_ret ?_
    exact x_end (.inl rfl) hsc () _ (fun a w hs => res2 hs Tryz.results20 rfl rfl) rfl trivial rfl give_nil
  · exfalso; omega
theorem st_chain_bad (v : Value) (r : List (Bool × ByteArray)) (h : okP r = false) : Cal Tryz.prog 20 #[v] [slp 2 encW v r] false (G := Unit) (fun _ => True) (fun _ => .tuple #[.slice none 0 0, .int .i64 2]) (fun _ => []) := by
  refine cal_in Tryz.func20 rfl Tryz.ntmps20 rfl ⟨rfl, trivial⟩ ?_
  intro w0 sc hw hsc
  simp only [enumEnv, enumPre]
  refine e_imp (s_nil 999 2 28 wv) ?_
  refine e_imp (s_pub 999 rfl rfl pV) ?_
  refine e_seq ?_
  refine e_reg ?_
  refine as_ rfl rfl ?_
  refine as_ rfl rfl ?_
  refine l_nil ?_
  refine x_then ?_
  refine e_seq ?_
  refine e_reg ?_
  refine mv rfl rfl ?_
  refine tt (t_call (n := 1) (st_sqf_bad _ _ (by assumption)) rfl rfl rfl ⟨rfl, trivial⟩ Tryz.call19 (pre_same 1 rfl rfl rfl pre_nil) rfl hw) rfl (fun _ _ => ?_)
  refine mv rfl rfl ?_
  refine dt (d_ex rfl rfl rfl) rfl ?_
  refine dt (d_ex rfl rfl rfl) rfl ?_
  refine as_ rfl rfl ?_
  refine as_ rfl rfl ?_
  refine l_nil ?_
  refine x_then ?_
  refine e_seq ?_
  refine e_seq ?_
  refine e_reg ?_
  refine mv rfl rfl ?_
  refine dt (det_is (r' := .bool true) (d_neq rfl rfl rfl) (congrArg Value.bool (by decide))) rfl ?_
  refine l_nil ?_
  refine x_then ?_
  refine e_condt rfl ?_
  refine e_seq ?_
  refine e_reg ?_
  refine mv rfl rfl ?_
  refine as_ rfl rfl ?_
  refine as_ rfl rfl ?_
  refine l_nil ?_
  refine x_then ?_
  refine e_ret ?_
  refine x_ret ?_
  exact x_end (.inl rfl) hsc () _ (fun a w hs => res2 hs Tryz.results20 rfl rfl) rfl trivial rfl give_nil
end Go.Sky
namespace Go.Sky
open Go.Proofs
set_option maxRecDepth 20000
set_option maxHeartbeats 4000000
set_option linter.unusedVariables false
set_option linter.unusedSimpArgs false
theorem st_at1 (v : Value) (br : Nat) (xs : List Int) (x y : Int) (hx : bl x.natAbs ≤ 65536) (hy : bl y.natAbs ≤ 65536) (hp : 0 < y) (hv : Vp xs) (hE : ¬ evfull xs x y) : Cal Tryz.prog 126 #[v, .pointer (some ⟨br, 0, none⟩)] [slp 2 wv v xs, rbox br 49 #[.bool (decide (x < 0)), .string (bstr x.natAbs), .bool (decide (y < 0)), .string (bstr y.natAbs)]] false (G := Unit) (fun _ => True) (fun _ => .tuple #[.int .i64 (fat x y xs), .int .i64 0]) (fun _ => []) := by
  refine cal_in Tryz.func126 rfl Tryz.ntmps126 rfl ⟨rfl, rfl, trivial⟩ ?_
  intro w0 sc hw hsc
  simp only [enumEnv, enumPre]
  refine e_seq ?_
  refine e_reg ?_
  refine as_ rfl rfl ?_
  refine as_ rfl rfl ?_
  refine l_nil ?_
  refine x_then ?_
  refine e_seq ?_
  refine e_reg ?_
  refine mv rfl rfl ?_
  refine dt (d_lr4 (i := 2) rfl rfl rfl Tryz.isAgg49 Tryz.sizeOf49 rfl rfl rfl rfl) rfl ?_
  refine tt (t_call (n := 2) (poly_signat _ _ _ _ hv hx hy hp) rfl rfl rfl ⟨rfl, rfl, trivial⟩ Tryz.call127 (pre_same 1 rfl rfl rfl pre_nil) rfl hw) rfl (fun _ _ => ?_)
  refine dt (d_ex rfl rfl rfl) rfl ?_
  refine dt (d_ex rfl rfl rfl) rfl ?_
  refine as_ rfl rfl ?_
  refine as_ rfl rfl ?_
  refine l_nil ?_
  refine x_then ?_
  refine e_ret ?_
  exact x_end (.inl rfl) hsc () _ (fun a w hs => res2 hs Tryz.results126 rfl rfl) (by unfold fat; rw [show evv xs x y = pev xs x y from if_neg hE, show eve xs x y = 0 from if_neg hE] <;> rfl) trivial rfl give_nil
theorem st_tot1 (v : Value) (xs : List Int) (hv : Vp xs) (h0 : xs ≠ []) : Cal Tryz.prog 79 #[v] [slp 2 wv v xs] false (G := Unit) (fun _ => True) (fun _ => .tuple #[.int .i64 (fr xs), .int .i64 0]) (fun _ => []) := by
  refine cal_in Tryz.func79 rfl Tryz.ntmps79 rfl ⟨rfl, trivial⟩ ?_
  intro w0 sc hw hsc
  simp only [enumEnv, enumPre]
  have hlen := hv.len
  have hl0 := List.length_pos_iff.2 h0
  refine e_seq ?_
  refine e_reg ?_
  refine as_ rfl rfl ?_
  refine as_ rfl rfl ?_
  refine l_nil ?_
  refine x_then ?_
  refine e_seq ?_
  refine e_reg ?_
  refine mv rfl rfl ?_
  refine mv rfl rfl ?_
  refine dt (d_len rfl rfl (i := 1) rfl rd_slp Tryz.underlying23) rfl ?_
  refine dt (d_sub rfl rfl rfl ⟨by omega, by omega⟩) rfl ?_
  refine dt (d_ixa (ii := 1) (i := (xs.length - 1)) rfl rfl rfl rfl rd_slp Tryz.underlying23 Tryz.sizeOf28 (by omega) (by omega)) rfl ?_
  refine dt (d_lde (ii := 1) 0 rfl rfl rfl rd_slp pV (by first | omega | (simp only [List.length_set]; omega))) rfl ?_
  refine tt (t_call (n := 1) (wide_sign _ (hv.sz _)) rfl rfl rfl ⟨rfl, trivial⟩ Tryz.call80 pre_nil rfl hw) rfl (fun _ _ => ?_)
  refine as_ rfl rfl ?_
  refine as_ rfl rfl ?_
  refine l_nil ?_
  refine x_then ?_
  refine e_ret ?_
  exact x_end (.inl rfl) hsc () _ (fun a w hs => res2 hs Tryz.results79 rfl rfl) rfl trivial rfl give_nil
theorem st_tot2 (v : Value) (xs : List Int) (hv : Vp xs) (h0 : xs ≠ []) : Cal Tryz.prog 81 #[v] [slp 2 wv v xs] false (G := Unit) (fun _ => True) (fun _ => .tuple #[.int .i64 (fl xs), .int .i64 0]) (fun _ => []) := by
  refine cal_in Tryz.func81 rfl Tryz.ntmps81 rfl ⟨rfl, trivial⟩ ?_
  intro w0 sc hw hsc
  simp only [enumEnv, enumPre]
  have hlen := hv.len
  have hl0 := List.length_pos_iff.2 h0
  have hsr := sg_range (cf xs (xs.length - 1))
  refine e_seq ?_
  refine e_reg ?_
  refine as_ rfl rfl ?_
  refine as_ rfl rfl ?_
  refine l_nil ?_
  refine x_then ?_
  refine e_seq ?_
  refine e_reg ?_
  refine mv rfl rfl ?_
  refine mv rfl rfl ?_
  refine dt (d_len rfl rfl (i := 1) rfl rd_slp Tryz.underlying23) rfl ?_
  refine dt (d_sub rfl rfl rfl ⟨by omega, by omega⟩) rfl ?_
  refine dt (d_ixa (ii := 1) (i := (xs.length - 1)) rfl rfl rfl rfl rd_slp Tryz.underlying23 Tryz.sizeOf28 (by omega) (by omega)) rfl ?_
  refine dt (d_lde (ii := 1) 0 rfl rfl rfl rd_slp pV (by first | omega | (simp only [List.length_set]; omega))) rfl ?_
  refine tt (t_call (n := 1) (wide_sign _ (hv.sz _)) rfl rfl rfl ⟨rfl, trivial⟩ Tryz.call80 pre_nil rfl hw) rfl (fun _ _ => ?_)
  refine as_ rfl rfl ?_
  refine l_nil ?_
  refine x_then ?_
  refine e_seq ?_
  refine e_seq ?_
  refine e_reg ?_
  refine mv rfl rfl ?_
  refine dt (d_len rfl rfl (i := 1) rfl rd_slp Tryz.underlying23) rfl ?_
  refine dt (d_rem rfl rfl rfl (by omega) (by omega)) rfl ?_
  refine dt (d_eql rfl rfl rfl) rfl ?_
  refine l_nil ?_
  refine x_then ?_
  refine e_cond rfl (fun h176 => ?_) (fun h176 => ?_)
  · refine e_reg ?_
    refine mv rfl rfl ?_
    refine dt (d_negi rfl rfl ⟨by show _ ≤ -(cf xs (xs.length - 1)).sign; omega, by show -(cf xs (xs.length - 1)).sign ≤ _; omega⟩) rfl ?_
    refine as_ rfl rfl ?_
    refine l_nil ?_
    refine x_then ?_
    refine e_seq ?_
    refine e_reg ?_
    refine mv rfl rfl ?_
    refine as_ rfl rfl ?_
    refine as_ rfl rfl ?_
    refine l_nil ?_
    refine x_then ?_
    refine e_ret ?_
    exact x_end (.inl rfl) hsc () _ (fun a w hs => res2 hs Tryz.results81 rfl rfl) (by unfold fl; first | (rw [if_pos (by omega)] <;> rfl) | (rw [if_neg (by omega)] <;> rfl)) trivial rfl give_nil
  · refine e_skip ?_
    refine x_then ?_
    refine e_seq ?_
    refine e_reg ?_
    refine mv rfl rfl ?_
    refine as_ rfl rfl ?_
    refine as_ rfl rfl ?_
    refine l_nil ?_
    refine x_then ?_
    refine e_ret ?_
    exact x_end (.inl rfl) hsc () _ (fun a w hs => res2 hs Tryz.results81 rfl rfl) (by unfold fl; first | (rw [if_pos (by omega)] <;> rfl) | (rw [if_neg (by omega)] <;> rfl)) trivial rfl give_nil
theorem st_chg_at (v : Value) (ls : List (SL × List Int)) (br : Nat) (hvp : ∀ z ∈ ls, Vp z.2) (x y : Int) (hx : bl x.natAbs ≤ 65536) (hy : bl y.natAbs ≤ 65536) (hp : 0 < y) (hE : ∀ z ∈ ls, ¬ evfull z.2 x y) : Cal Tryz.prog 78 #[v, .func (.func 126) #[] #[.pointer (some ⟨br, 0, none⟩)]] [deep 1 encS qZ v ls, rbox br 49 #[.bool (decide (x < 0)), .string (bstr x.natAbs), .bool (decide (y < 0)), .string (bstr y.natAbs)]] false (G := Unit) (fun _ => True) (fun _ => .tuple #[.int .i64 (chg (sgx ls (fat x y))), .int .i64 0]) (fun _ => []) := by
  refine cal_in Tryz.func78 rfl Tryz.ntmps78 rfl ⟨rfl, rfl, trivial⟩ ?_
  intro w0 sc hw hsc
  simp only [enumEnv, enumPre]
  refine e_fact (f_len (i := 1) rfl rd_deep) (fun hlen => ?_)
  have hLl := length_sgx ls (fat x y)
  have hLg := fun i (h : i < ls.length) => sgx_getD ls (fat x y) h
  refine e_seq ?_
  refine e_reg ?_
  refine as_ rfl rfl ?_
  refine as_ rfl rfl ?_
  refine l_nil ?_
  refine x_then ?_
  refine e_seq ?_
  refine e_reg ?_
  refine as_ rfl rfl ?_
  refine as_ rfl rfl ?_
  refine l_nil ?_
  refine x_then ?_
  refine e_seq ?_
  refine e_seq ?_
  refine e_reg ?_
  refine mv rfl rfl ?_
  refine dt (d_len rfl rfl (i := 1) rfl rd_deep Tryz.underlying107) rfl ?_
  refine mv rfl rfl ?_
  refine l_nil ?_
  refine x_then ?_
  refine e_block ?_
  refine e_lp [(1, _), (12, _), (13, _)] [(0, _), (1, _), (2, _)] (fun (q : Nat × Int × Int) => [(14, .int .i64 (q.1 : Int)), (6, .int .i64 q.2.1), (7, .int .i64 q.2.2)]) (fun (q : Nat × Int × Int) => []) (fun (q : Nat × Int × Int) => (q.1 ≤ ls.length) ∧ ((q.2.1, q.2.2) = ((sgx ls (fat x y)).take q.1).foldl chg1 (0, 0)) ∧ (0 ≤ q.2.1) ∧ (q.2.1 ≤ (q.1 : Int)) ∧ (-1 ≤ q.2.2) ∧ (q.2.2 ≤ 1)) (fun (q : Nat × Int × Int) => ls.length - q.1) (0, 0, 0) ⟨by first | omega | (dsimp only <;> omega), by simp, by first | omega | (dsimp only <;> omega), by first | omega | (dsimp only <;> omega), by first | omega | (dsimp only <;> omega), by first | omega | (dsimp only <;> omega)⟩ ⟨rfl, rfl, rfl, rfl, rfl, rfl, trivial⟩ ⟨rfl, rfl, rfl, trivial⟩ ?_
  rintro ⟨i, n, l⟩ ⟨hi, hc, hn0, hn1, hl0, hl1⟩
  dsimp only at hi hc hn0 hn1 hl0 hl1
  simp only [List.cons_append, List.nil_append]
  have hfr := fat_r x y (ls.getD i Z0).2
  refine e_seq ?_
  refine e_reg ?_
  refine dt (d_lss rfl rfl rfl) rfl ?_
  refine l_nil ?_
  refine x_then ?_
  refine e_seq ?_
  refine e_cond rfl (fun h129 => ?_) (fun h129 => ?_)
  · refine e_skip ?_
    refine x_then ?_
    refine e_seq ?_
    refine e_block ?_
    refine e_seq ?_
    refine e_reg ?_
    refine dt (d_ixa (ii := 1) rfl rfl rfl rfl rd_deep Tryz.underlying107 Tryz.sizeOf23 rfl (by first | omega | (simp only [List.length_set]; omega))) rfl ?_
    refine dt (d_lde (ii := 1) Z0 rfl rfl rfl rd_deep pS (by first | omega | (simp only [List.length_set]; omega))) rfl ?_
    refine as_ rfl rfl ?_
    refine l_nil ?_
    refine x_then ?_
    refine e_seq ?_
    refine e_imp (s_deep 1 91 (ls.getD i Z0) rfl rfl (getD_mem (by omega)) rfl) ?_
    refine e_reg ?_
    refine mv rfl rfl ?_
    refine mv rfl rfl ?_
    refine tt (t_callc (n := 2) (fs := []) (vs := [_]) (us := [_]) (st_at1 _ _ _ _ _ hx hy hp (hvp (ls.getD i Z0) (getD_mem (by omega))) (hE (ls.getD i Z0) (getD_mem (by omega)))) rfl rfl rfl rfl ⟨rfl, trivial⟩ Tryz.call126 (pre_same 91 rfl rfl rfl (pre_same 2 rfl rfl rfl pre_nil)) rfl hw) rfl (fun _ _ => ?_)
    refine mv rfl rfl ?_
    refine dt (d_ex rfl rfl rfl) rfl ?_
    refine dt (d_ex rfl rfl rfl) rfl ?_
    refine as_ rfl rfl ?_
    refine as_ rfl rfl ?_
    refine l_nil ?_
    refine x_then ?_
    refine e_seq ?_
    refine e_seq ?_
    refine e_reg ?_
    refine mv rfl rfl ?_
    refine dt (det_is (r' := .bool false) (d_neq rfl rfl rfl) (congrArg Value.bool (by decide))) rfl ?_
    refine l_nil ?_
    refine x_then ?_
    refine e_condf rfl ?_
    refine e_skip ?_
    refine x_then ?_
    refine e_seq ?_
    refine e_reg ?_
    refine mv rfl rfl ?_
    refine dt (d_neq rfl rfl rfl) rfl ?_
    refine l_nil ?_
    refine x_then ?_
    refine e_cond rfl (fun h134 => ?_) (fun h134 => ?_)
    · refine e_seq ?_
      refine e_seq ?_
      refine e_reg ?_
      refine mv rfl rfl ?_
      refine mv rfl rfl ?_
      refine dt (d_negi rfl rfl ⟨by omega, by omega⟩) rfl ?_
      refine dt (d_eql rfl rfl rfl) rfl ?_
      refine l_nil ?_
      refine x_then ?_
      refine e_cond rfl (fun h135 => ?_) (fun h135 => ?_)
      · refine e_reg ?_
        refine mv rfl rfl ?_
        refine dt (d_add rfl rfl rfl ⟨by omega, by omega⟩) rfl ?_
        refine as_ rfl rfl ?_
        refine l_nil ?_
        refine x_then ?_
        refine e_reg ?_
        refine mv rfl rfl ?_
        refine as_ rfl rfl ?_
        refine l_nil ?_
        refine x_bn ?_
        refine x_then ?_
        refine e_reg ?_
        refine dt (d_add rfl rfl rfl ⟨by omega, by omega⟩) rfl ?_
        refine mv rfl rfl ?_
        refine l_nil ?_
        exact x_rnd (i + 1, _, _) ⟨by first | omega | (dsimp only <;> omega), by first | exact chg_0 (by omega) hc (hLg i (by omega)) (Decidable.byContradiction (by assumption)) | exact chg_a (by omega) hc (hLg i (by omega)) (by assumption) (by assumption) | exact chg_b (by omega) hc (hLg i (by omega)) (by assumption) (by assumption), by first | exact hn0 | (dsimp only; omega), by dsimp only; omega, by first | exact hl0 | exact hfr.1, by first | exact hl1 | exact hfr.2⟩ (by first | omega | (dsimp only <;> omega)) ⟨rfl, rfl, rfl, rfl, rfl, rfl, trivial⟩ ⟨rfl, rfl, rfl, trivial⟩
      · refine e_skip ?_
        refine x_then ?_
        refine e_reg ?_
        refine mv rfl rfl ?_
        refine as_ rfl rfl ?_
        refine l_nil ?_
        refine x_bn ?_
        refine x_then ?_
        refine e_reg ?_
        refine dt (d_add rfl rfl rfl ⟨by omega, by omega⟩) rfl ?_
        refine mv rfl rfl ?_
        refine l_nil ?_
        exact x_rnd (i + 1, _, _) ⟨by first | omega | (dsimp only <;> omega), by first | exact chg_0 (by omega) hc (hLg i (by omega)) (Decidable.byContradiction (by assumption)) | exact chg_a (by omega) hc (hLg i (by omega)) (by assumption) (by assumption) | exact chg_b (by omega) hc (hLg i (by omega)) (by assumption) (by assumption), by first | exact hn0 | (dsimp only; omega), by dsimp only; omega, by first | exact hl0 | exact hfr.1, by first | exact hl1 | exact hfr.2⟩ (by first | omega | (dsimp only <;> omega)) ⟨rfl, rfl, rfl, rfl, rfl, rfl, trivial⟩ ⟨rfl, rfl, rfl, trivial⟩
    · refine e_skip ?_
      refine x_bn ?_
      refine x_then ?_
      refine e_reg ?_
      refine dt (d_add rfl rfl rfl ⟨by omega, by omega⟩) rfl ?_
      refine mv rfl rfl ?_
      refine l_nil ?_
      exact x_rnd (i + 1, _, _) ⟨by first | omega | (dsimp only <;> omega), by first | exact chg_0 (by omega) hc (hLg i (by omega)) (Decidable.byContradiction (by assumption)) | exact chg_a (by omega) hc (hLg i (by omega)) (by assumption) (by assumption) | exact chg_b (by omega) hc (hLg i (by omega)) (by assumption) (by assumption), by first | exact hn0 | (dsimp only; omega), by dsimp only; omega, by first | exact hl0 | exact hfr.1, by first | exact hl1 | exact hfr.2⟩ (by first | omega | (dsimp only <;> omega)) ⟨rfl, rfl, rfl, rfl, rfl, rfl, trivial⟩ ⟨rfl, rfl, rfl, trivial⟩
  · refine e_exit ?_
    refine x_exit ?_
    refine x_exit ?_
    refine x_be ?_
    refine x_then ?_
    refine e_seq ?_
    refine e_reg ?_
    refine mv rfl rfl ?_
    refine as_ rfl rfl ?_
    refine as_ rfl rfl ?_
    refine l_nil ?_
    refine x_then ?_
    refine e_ret ?_
    exact x_end (.inl rfl) hsc () _ (fun a w hs => res2 hs Tryz.results78 rfl rfl) (by rw [chg_end (by omega) hc]) trivial rfl give_nil
theorem st_chg_r (v : Value) (ls : List (SL × List Int)) (hvp : ∀ z ∈ ls, Vp z.2) (h0 : ∀ z ∈ ls, z.2 ≠ []) : Cal Tryz.prog 78 #[v, .func (.func 79) #[] #[]] [deep 1 encS qZ v ls] false (G := Unit) (fun _ => True) (fun _ => .tuple #[.int .i64 (chg (sgx ls fr)), .int .i64 0]) (fun _ => []) := by
  refine cal_in Tryz.func78 rfl Tryz.ntmps78 rfl ⟨rfl, trivial⟩ ?_
  intro w0 sc hw hsc
  simp only [enumEnv, enumPre]
  refine e_fact (f_len (i := 1) rfl rd_deep) (fun hlen => ?_)
  have hLl := length_sgx ls fr
  have hLg := fun i (h : i < ls.length) => sgx_getD ls fr h
  refine e_seq ?_
  refine e_reg ?_
  refine as_ rfl rfl ?_
  refine as_ rfl rfl ?_
  refine l_nil ?_
  refine x_then ?_
  refine e_seq ?_
  refine e_reg ?_
  refine as_ rfl rfl ?_
  refine as_ rfl rfl ?_
  refine l_nil ?_
  refine x_then ?_
  refine e_seq ?_
  refine e_seq ?_
  refine e_reg ?_
  refine mv rfl rfl ?_
  refine dt (d_len rfl rfl (i := 1) rfl rd_deep Tryz.underlying107) rfl ?_
  refine mv rfl rfl ?_
  refine l_nil ?_
  refine x_then ?_
  refine e_block ?_
  refine e_lp [(1, _), (12, _), (13, _)] [(0, _), (1, _)] (fun (q : Nat × Int × Int) => [(14, .int .i64 (q.1 : Int)), (6, .int .i64 q.2.1), (7, .int .i64 q.2.2)]) (fun (q : Nat × Int × Int) => []) (fun (q : Nat × Int × Int) => (q.1 ≤ ls.length) ∧ ((q.2.1, q.2.2) = ((sgx ls fr).take q.1).foldl chg1 (0, 0)) ∧ (0 ≤ q.2.1) ∧ (q.2.1 ≤ (q.1 : Int)) ∧ (-1 ≤ q.2.2) ∧ (q.2.2 ≤ 1)) (fun (q : Nat × Int × Int) => ls.length - q.1) (0, 0, 0) ⟨by first | omega | (dsimp only <;> omega), by simp, by first | omega | (dsimp only <;> omega), by first | omega | (dsimp only <;> omega), by first | omega | (dsimp only <;> omega), by first | omega | (dsimp only <;> omega)⟩ ⟨rfl, rfl, rfl, rfl, rfl, rfl, trivial⟩ ⟨rfl, rfl, trivial⟩ ?_
  rintro ⟨i, n, l⟩ ⟨hi, hc, hn0, hn1, hl0, hl1⟩
  dsimp only at hi hc hn0 hn1 hl0 hl1
  simp only [List.cons_append, List.nil_append]
  have hfr := fr_r (ls.getD i Z0).2
  refine e_seq ?_
  refine e_reg ?_
  refine dt (d_lss rfl rfl rfl) rfl ?_
  refine l_nil ?_
  refine x_then ?_
  refine e_seq ?_
  refine e_cond rfl (fun h129 => ?_) (fun h129 => ?_)
  · refine e_skip ?_
    refine x_then ?_
    refine e_seq ?_
    refine e_block ?_
    refine e_seq ?_
    refine e_reg ?_
    refine dt (d_ixa (ii := 1) rfl rfl rfl rfl rd_deep Tryz.underlying107 Tryz.sizeOf23 rfl (by first | omega | (simp only [List.length_set]; omega))) rfl ?_
    refine dt (d_lde (ii := 1) Z0 rfl rfl rfl rd_deep pS (by first | omega | (simp only [List.length_set]; omega))) rfl ?_
    refine as_ rfl rfl ?_
    refine l_nil ?_
    refine x_then ?_
    refine e_seq ?_
    refine e_imp (s_deep 1 91 (ls.getD i Z0) rfl rfl (getD_mem (by omega)) rfl) ?_
    refine e_reg ?_
    refine mv rfl rfl ?_
    refine mv rfl rfl ?_
    refine tt (t_callc (n := 1) (fs := []) (vs := [_]) (us := []) (st_tot1 _ _ (hvp (ls.getD i Z0) (getD_mem (by omega))) (h0 (ls.getD i Z0) (getD_mem (by omega)))) rfl rfl rfl rfl ⟨rfl, trivial⟩ Tryz.call79 (pre_same 91 rfl rfl rfl pre_nil) rfl hw) rfl (fun _ _ => ?_)
    refine mv rfl rfl ?_
    refine dt (d_ex rfl rfl rfl) rfl ?_
    refine dt (d_ex rfl rfl rfl) rfl ?_
    refine as_ rfl rfl ?_
    refine as_ rfl rfl ?_
    refine l_nil ?_
    refine x_then ?_
    refine e_seq ?_
    refine e_seq ?_
    refine e_reg ?_
    refine mv rfl rfl ?_
    refine dt (det_is (r' := .bool false) (d_neq rfl rfl rfl) (congrArg Value.bool (by decide))) rfl ?_
    refine l_nil ?_
    refine x_then ?_
    refine e_condf rfl ?_
    refine e_skip ?_
    refine x_then ?_
    refine e_seq ?_
    refine e_reg ?_
    refine mv rfl rfl ?_
    refine dt (d_neq rfl rfl rfl) rfl ?_
    refine l_nil ?_
    refine x_then ?_
    refine e_cond rfl (fun h134 => ?_) (fun h134 => ?_)
    · refine e_seq ?_
      refine e_seq ?_
      refine e_reg ?_
      refine mv rfl rfl ?_
      refine mv rfl rfl ?_
      refine dt (d_negi rfl rfl ⟨by omega, by omega⟩) rfl ?_
      refine dt (d_eql rfl rfl rfl) rfl ?_
      refine l_nil ?_
      refine x_then ?_
      refine e_cond rfl (fun h135 => ?_) (fun h135 => ?_)
      · refine e_reg ?_
        refine mv rfl rfl ?_
        refine dt (d_add rfl rfl rfl ⟨by omega, by omega⟩) rfl ?_
        refine as_ rfl rfl ?_
        refine l_nil ?_
        refine x_then ?_
        refine e_reg ?_
        refine mv rfl rfl ?_
        refine as_ rfl rfl ?_
        refine l_nil ?_
        refine x_bn ?_
        refine x_then ?_
        refine e_reg ?_
        refine dt (d_add rfl rfl rfl ⟨by omega, by omega⟩) rfl ?_
        refine mv rfl rfl ?_
        refine l_nil ?_
        exact x_rnd (i + 1, _, _) ⟨by first | omega | (dsimp only <;> omega), by first | exact chg_0 (by omega) hc (hLg i (by omega)) (Decidable.byContradiction (by assumption)) | exact chg_a (by omega) hc (hLg i (by omega)) (by assumption) (by assumption) | exact chg_b (by omega) hc (hLg i (by omega)) (by assumption) (by assumption), by first | exact hn0 | (dsimp only; omega), by dsimp only; omega, by first | exact hl0 | exact hfr.1, by first | exact hl1 | exact hfr.2⟩ (by first | omega | (dsimp only <;> omega)) ⟨rfl, rfl, rfl, rfl, rfl, rfl, trivial⟩ ⟨rfl, rfl, trivial⟩
      · refine e_skip ?_
        refine x_then ?_
        refine e_reg ?_
        refine mv rfl rfl ?_
        refine as_ rfl rfl ?_
        refine l_nil ?_
        refine x_bn ?_
        refine x_then ?_
        refine e_reg ?_
        refine dt (d_add rfl rfl rfl ⟨by omega, by omega⟩) rfl ?_
        refine mv rfl rfl ?_
        refine l_nil ?_
        exact x_rnd (i + 1, _, _) ⟨by first | omega | (dsimp only <;> omega), by first | exact chg_0 (by omega) hc (hLg i (by omega)) (Decidable.byContradiction (by assumption)) | exact chg_a (by omega) hc (hLg i (by omega)) (by assumption) (by assumption) | exact chg_b (by omega) hc (hLg i (by omega)) (by assumption) (by assumption), by first | exact hn0 | (dsimp only; omega), by dsimp only; omega, by first | exact hl0 | exact hfr.1, by first | exact hl1 | exact hfr.2⟩ (by first | omega | (dsimp only <;> omega)) ⟨rfl, rfl, rfl, rfl, rfl, rfl, trivial⟩ ⟨rfl, rfl, trivial⟩
    · refine e_skip ?_
      refine x_bn ?_
      refine x_then ?_
      refine e_reg ?_
      refine dt (d_add rfl rfl rfl ⟨by omega, by omega⟩) rfl ?_
      refine mv rfl rfl ?_
      refine l_nil ?_
      exact x_rnd (i + 1, _, _) ⟨by first | omega | (dsimp only <;> omega), by first | exact chg_0 (by omega) hc (hLg i (by omega)) (Decidable.byContradiction (by assumption)) | exact chg_a (by omega) hc (hLg i (by omega)) (by assumption) (by assumption) | exact chg_b (by omega) hc (hLg i (by omega)) (by assumption) (by assumption), by first | exact hn0 | (dsimp only; omega), by dsimp only; omega, by first | exact hl0 | exact hfr.1, by first | exact hl1 | exact hfr.2⟩ (by first | omega | (dsimp only <;> omega)) ⟨rfl, rfl, rfl, rfl, rfl, rfl, trivial⟩ ⟨rfl, rfl, trivial⟩
  · refine e_exit ?_
    refine x_exit ?_
    refine x_exit ?_
    refine x_be ?_
    refine x_then ?_
    refine e_seq ?_
    refine e_reg ?_
    refine mv rfl rfl ?_
    refine as_ rfl rfl ?_
    refine as_ rfl rfl ?_
    refine l_nil ?_
    refine x_then ?_
    refine e_ret ?_
    exact x_end (.inl rfl) hsc () _ (fun a w hs => res2 hs Tryz.results78 rfl rfl) (by rw [chg_end (by omega) hc]) trivial rfl give_nil
theorem st_chg_l (v : Value) (ls : List (SL × List Int)) (hvp : ∀ z ∈ ls, Vp z.2) (h0 : ∀ z ∈ ls, z.2 ≠ []) : Cal Tryz.prog 78 #[v, .func (.func 81) #[] #[]] [deep 1 encS qZ v ls] false (G := Unit) (fun _ => True) (fun _ => .tuple #[.int .i64 (chg (sgx ls fl)), .int .i64 0]) (fun _ => []) := by
  refine cal_in Tryz.func78 rfl Tryz.ntmps78 rfl ⟨rfl, trivial⟩ ?_
  intro w0 sc hw hsc
  simp only [enumEnv, enumPre]
  refine e_fact (f_len (i := 1) rfl rd_deep) (fun hlen => ?_)
  have hLl := length_sgx ls fl
  have hLg := fun i (h : i < ls.length) => sgx_getD ls fl h
  refine e_seq ?_
  refine e_reg ?_
  refine as_ rfl rfl ?_
  refine as_ rfl rfl ?_
  refine l_nil ?_
  refine x_then ?_
  refine e_seq ?_
  refine e_reg ?_
  refine as_ rfl rfl ?_
  refine as_ rfl rfl ?_
  refine l_nil ?_
  refine x_then ?_
  refine e_seq ?_
  refine e_seq ?_
  refine e_reg ?_
  refine mv rfl rfl ?_
  refine dt (d_len rfl rfl (i := 1) rfl rd_deep Tryz.underlying107) rfl ?_
  refine mv rfl rfl ?_
  refine l_nil ?_
  refine x_then ?_
  refine e_block ?_
  refine e_lp [(1, _), (12, _), (13, _)] [(0, _), (1, _)] (fun (q : Nat × Int × Int) => [(14, .int .i64 (q.1 : Int)), (6, .int .i64 q.2.1), (7, .int .i64 q.2.2)]) (fun (q : Nat × Int × Int) => []) (fun (q : Nat × Int × Int) => (q.1 ≤ ls.length) ∧ ((q.2.1, q.2.2) = ((sgx ls fl).take q.1).foldl chg1 (0, 0)) ∧ (0 ≤ q.2.1) ∧ (q.2.1 ≤ (q.1 : Int)) ∧ (-1 ≤ q.2.2) ∧ (q.2.2 ≤ 1)) (fun (q : Nat × Int × Int) => ls.length - q.1) (0, 0, 0) ⟨by first | omega | (dsimp only <;> omega), by simp, by first | omega | (dsimp only <;> omega), by first | omega | (dsimp only <;> omega), by first | omega | (dsimp only <;> omega), by first | omega | (dsimp only <;> omega)⟩ ⟨rfl, rfl, rfl, rfl, rfl, rfl, trivial⟩ ⟨rfl, rfl, trivial⟩ ?_
  rintro ⟨i, n, l⟩ ⟨hi, hc, hn0, hn1, hl0, hl1⟩
  dsimp only at hi hc hn0 hn1 hl0 hl1
  simp only [List.cons_append, List.nil_append]
  have hfr := fl_r (ls.getD i Z0).2
  refine e_seq ?_
  refine e_reg ?_
  refine dt (d_lss rfl rfl rfl) rfl ?_
  refine l_nil ?_
  refine x_then ?_
  refine e_seq ?_
  refine e_cond rfl (fun h129 => ?_) (fun h129 => ?_)
  · refine e_skip ?_
    refine x_then ?_
    refine e_seq ?_
    refine e_block ?_
    refine e_seq ?_
    refine e_reg ?_
    refine dt (d_ixa (ii := 1) rfl rfl rfl rfl rd_deep Tryz.underlying107 Tryz.sizeOf23 rfl (by first | omega | (simp only [List.length_set]; omega))) rfl ?_
    refine dt (d_lde (ii := 1) Z0 rfl rfl rfl rd_deep pS (by first | omega | (simp only [List.length_set]; omega))) rfl ?_
    refine as_ rfl rfl ?_
    refine l_nil ?_
    refine x_then ?_
    refine e_seq ?_
    refine e_imp (s_deep 1 91 (ls.getD i Z0) rfl rfl (getD_mem (by omega)) rfl) ?_
    refine e_reg ?_
    refine mv rfl rfl ?_
    refine mv rfl rfl ?_
    refine tt (t_callc (n := 1) (fs := []) (vs := [_]) (us := []) (st_tot2 _ _ (hvp (ls.getD i Z0) (getD_mem (by omega))) (h0 (ls.getD i Z0) (getD_mem (by omega)))) rfl rfl rfl rfl ⟨rfl, trivial⟩ Tryz.call81 (pre_same 91 rfl rfl rfl pre_nil) rfl hw) rfl (fun _ _ => ?_)
    refine mv rfl rfl ?_
    refine dt (d_ex rfl rfl rfl) rfl ?_
    refine dt (d_ex rfl rfl rfl) rfl ?_
    refine as_ rfl rfl ?_
    refine as_ rfl rfl ?_
    refine l_nil ?_
    refine x_then ?_
    refine e_seq ?_
    refine e_seq ?_
    refine e_reg ?_
    refine mv rfl rfl ?_
    refine dt (det_is (r' := .bool false) (d_neq rfl rfl rfl) (congrArg Value.bool (by decide))) rfl ?_
    refine l_nil ?_
    refine x_then ?_
    refine e_condf rfl ?_
    refine e_skip ?_
    refine x_then ?_
    refine e_seq ?_
    refine e_reg ?_
    refine mv rfl rfl ?_
    refine dt (d_neq rfl rfl rfl) rfl ?_
    refine l_nil ?_
    refine x_then ?_
    refine e_cond rfl (fun h134 => ?_) (fun h134 => ?_)
    · refine e_seq ?_
      refine e_seq ?_
      refine e_reg ?_
      refine mv rfl rfl ?_
      refine mv rfl rfl ?_
      refine dt (d_negi rfl rfl ⟨by omega, by omega⟩) rfl ?_
      refine dt (d_eql rfl rfl rfl) rfl ?_
      refine l_nil ?_
      refine x_then ?_
      refine e_cond rfl (fun h135 => ?_) (fun h135 => ?_)
      · refine e_reg ?_
        refine mv rfl rfl ?_
        refine dt (d_add rfl rfl rfl ⟨by omega, by omega⟩) rfl ?_
        refine as_ rfl rfl ?_
        refine l_nil ?_
        refine x_then ?_
        refine e_reg ?_
        refine mv rfl rfl ?_
        refine as_ rfl rfl ?_
        refine l_nil ?_
        refine x_bn ?_
        refine x_then ?_
        refine e_reg ?_
        refine dt (d_add rfl rfl rfl ⟨by omega, by omega⟩) rfl ?_
        refine mv rfl rfl ?_
        refine l_nil ?_
        exact x_rnd (i + 1, _, _) ⟨by first | omega | (dsimp only <;> omega), by first | exact chg_0 (by omega) hc (hLg i (by omega)) (Decidable.byContradiction (by assumption)) | exact chg_a (by omega) hc (hLg i (by omega)) (by assumption) (by assumption) | exact chg_b (by omega) hc (hLg i (by omega)) (by assumption) (by assumption), by first | exact hn0 | (dsimp only; omega), by dsimp only; omega, by first | exact hl0 | exact hfr.1, by first | exact hl1 | exact hfr.2⟩ (by first | omega | (dsimp only <;> omega)) ⟨rfl, rfl, rfl, rfl, rfl, rfl, trivial⟩ ⟨rfl, rfl, trivial⟩
      · refine e_skip ?_
        refine x_then ?_
        refine e_reg ?_
        refine mv rfl rfl ?_
        refine as_ rfl rfl ?_
        refine l_nil ?_
        refine x_bn ?_
        refine x_then ?_
        refine e_reg ?_
        refine dt (d_add rfl rfl rfl ⟨by omega, by omega⟩) rfl ?_
        refine mv rfl rfl ?_
        refine l_nil ?_
        exact x_rnd (i + 1, _, _) ⟨by first | omega | (dsimp only <;> omega), by first | exact chg_0 (by omega) hc (hLg i (by omega)) (Decidable.byContradiction (by assumption)) | exact chg_a (by omega) hc (hLg i (by omega)) (by assumption) (by assumption) | exact chg_b (by omega) hc (hLg i (by omega)) (by assumption) (by assumption), by first | exact hn0 | (dsimp only; omega), by dsimp only; omega, by first | exact hl0 | exact hfr.1, by first | exact hl1 | exact hfr.2⟩ (by first | omega | (dsimp only <;> omega)) ⟨rfl, rfl, rfl, rfl, rfl, rfl, trivial⟩ ⟨rfl, rfl, trivial⟩
    · refine e_skip ?_
      refine x_bn ?_
      refine x_then ?_
      refine e_reg ?_
      refine dt (d_add rfl rfl rfl ⟨by omega, by omega⟩) rfl ?_
      refine mv rfl rfl ?_
      refine l_nil ?_
      exact x_rnd (i + 1, _, _) ⟨by first | omega | (dsimp only <;> omega), by first | exact chg_0 (by omega) hc (hLg i (by omega)) (Decidable.byContradiction (by assumption)) | exact chg_a (by omega) hc (hLg i (by omega)) (by assumption) (by assumption) | exact chg_b (by omega) hc (hLg i (by omega)) (by assumption) (by assumption), by first | exact hn0 | (dsimp only; omega), by dsimp only; omega, by first | exact hl0 | exact hfr.1, by first | exact hl1 | exact hfr.2⟩ (by first | omega | (dsimp only <;> omega)) ⟨rfl, rfl, rfl, rfl, rfl, rfl, trivial⟩ ⟨rfl, rfl, trivial⟩
  · refine e_exit ?_
    refine x_exit ?_
    refine x_exit ?_
    refine x_be ?_
    refine x_then ?_
    refine e_seq ?_
    refine e_reg ?_
    refine mv rfl rfl ?_
    refine as_ rfl rfl ?_
    refine as_ rfl rfl ?_
    refine l_nil ?_
    refine x_then ?_
    refine e_ret ?_
    exact x_end (.inl rfl) hsc () _ (fun a w hs => res2 hs Tryz.results78 rfl rfl) (by rw [chg_end (by omega) hc]) trivial rfl give_nil
end Go.Sky
namespace Go.Sky
open Go.Proofs
set_option maxRecDepth 20000
set_option maxHeartbeats 4000000
set_option linter.unusedVariables false
set_option linter.unusedSimpArgs false
theorem st_at (v : Value) (ls : List (SL × List Int)) (x y : Int) (hx : bl x.natAbs ≤ 65536) (hy : bl y.natAbs ≤ 65536) (hp : 0 < y) (hvp : ∀ z ∈ ls, Vp z.2) (hE : ∀ z ∈ ls, ¬ evfull z.2 x y) : Cal Tryz.prog 77 #[v, .agg #[.bool (decide (x < 0)), .string (bstr x.natAbs), .bool (decide (y < 0)), .string (bstr y.natAbs)]] [deep 1 encS qZ v ls] false (G := Unit) (fun _ => True) (fun _ => .tuple #[.int .i64 (chg (sgx ls (fat x y))), .int .i64 0]) (fun _ => []) := by
  refine cal_in Tryz.func77 rfl Tryz.ntmps77 rfl ⟨rfl, trivial⟩ ?_
  intro w0 sc hw hsc
  simp only [enumEnv, enumPre]
  refine e_seq ?_
  refine e_reg ?_
  refine tt (t_box (i := 2) rfl rfl rfl rfl rfl rfl hw) rfl (fun b _ => ?_)
  refine as_ rfl rfl ?_
  refine as_ rfl rfl ?_
  refine l_nil ?_
  refine x_then ?_
  refine e_seq ?_
  refine e_reg ?_
  refine mv rfl rfl ?_
  refine dt (d_mkc (vs := []) (us := [_]) rfl trivial ⟨rfl, trivial⟩) rfl ?_
  refine tt (t_call (n := 2) (st_chg_at _ _ _ hvp x y hx hy hp hE) rfl rfl rfl ⟨rfl, rfl, trivial⟩ Tryz.call78 (pre_same 1 rfl rfl rfl (pre_lendb 2 rfl rfl pre_nil)) rfl hw) rfl (fun _ _ => ?_)
  refine dt (d_ex rfl rfl rfl) rfl ?_
  refine dt (d_ex rfl rfl rfl) rfl ?_
  refine as_ rfl rfl ?_
  refine as_ rfl rfl ?_
  refine l_nil ?_
  refine x_then ?_
  refine e_ret ?_
  exact x_end (.inl rfl) hsc () _ (fun a w hs => res2 hs Tryz.results77 rfl rfl) rfl trivial rfl give_nil
theorem st_count (v : Value) (xs : List Int) (hv : Vp xs) (x y x2 y2 : Int) (hx : bl x.natAbs ≤ 65536) (hy : bl y.natAbs ≤ 65536) (hx2 : bl x2.natAbs ≤ 65536) (hy2 : bl y2.natAbs ≤ 65536) (hp : 0 < y) (hp2 : 0 < y2) (F : Nat) (hFb : F ≤ 1000000) (hC : chOK F xs) (hk : chk2r xs x y x2 y2 = 0) (hE1 : ∀ p ∈ chn F xs, ¬ evfull p x y) (hE2 : ∀ p ∈ chn F xs, ¬ evfull p x2 y2) : Cal Tryz.prog 28 #[v, .agg #[.bool (decide (x < 0)), .string (bstr x.natAbs), .bool (decide (y < 0)), .string (bstr y.natAbs)], .agg #[.bool (decide (x2 < 0)), .string (bstr x2.natAbs), .bool (decide (y2 < 0)), .string (bstr y2.natAbs)]] [slp 2 wv v xs] false (G := Unit) (fun _ => True) (fun _ => .tuple #[.int .i64 (cnt F xs x y - cnt F xs x2 y2), .int .i64 0]) (fun _ => []) := by
  refine cal_in Tryz.func28 rfl Tryz.ntmps28 rfl ⟨rfl, trivial⟩ ?_
  intro w0 sc hw hsc
  simp only [enumEnv, enumPre]
  obtain ⟨h0, hf⟩ := chk2_fits hk
  have hr1 := chg_range ((chn F xs).map (fat x y))
  have hr2 := chg_range ((chn F xs).map (fat x2 y2))
  have hll := length_schain F (sqf F xs) (pprim (pder (sqf F xs)))
  rw [List.length_map] at hr1 hr2
  have hF : F ≤ 1000000 := hFb
  refine e_imp (s_nil 999 2 28 wv) ?_
  refine e_imp (s_pub 999 rfl rfl pV) ?_
  refine e_seq ?_
  refine e_reg ?_
  refine tt (t_box (i := 2) rfl rfl rfl rfl rfl rfl hw) rfl (fun bx _ => ?_)
  refine tt (t_box (i := 3) rfl rfl rfl rfl rfl rfl hw) rfl (fun bx_2 _ => ?_)
  refine as_ rfl rfl ?_
  refine as_ rfl rfl ?_
  refine l_nil ?_
  refine x_then ?_
  refine e_seq ?_
  refine e_seq ?_
  refine e_reg ?_
  refine mv rfl rfl ?_
  refine dt (d_lb4 (i := 2) rfl rfl rfl Tryz.isAgg49 Tryz.sizeOf49 rfl rfl rfl rfl) rfl ?_
  refine dt (d_lb4 (i := 3) rfl rfl rfl Tryz.isAgg49 Tryz.sizeOf49 rfl rfl rfl rfl) rfl ?_
  refine tt (t_bsg (i := 4) (ivs := [(0, _), (1, _)]) (enc := rq) [(x, y), (x2, y2)] rfl rfl rfl ⟨rfl, rfl, rfl, rfl, trivial⟩ Tryz.underlying87 Tryz.ti49 rfl rfl rfl (fill24 _ _ _ _ _ _ _ _ _ _ _ _) rfl rfl pQ.cells rfl rfl hw) rfl (fun v _ => ?_)
  refine tt (t_call (n := 4) (st_check2 _ _ hv _ _ _ _ _ hx hy hx2 hy2 hp hp2) rfl rfl rfl ⟨rfl, rfl, trivial⟩ Tryz.call51 (pre_same 1 rfl rfl rfl (pre_lend 4 rfl rfl pQ pre_nil)) rfl hw) rfl (fun _ _ => ?_)
  refine as_ rfl rfl ?_
  refine l_nil ?_
  refine x_then ?_
  refine e_seq ?_
  refine e_reg ?_
  refine mv rfl rfl ?_
  refine dt (det_is (r' := .bool false) (d_neq rfl rfl rfl) (congrArg Value.bool (by rw [hk]; rfl))) rfl ?_
  refine l_nil ?_
  refine x_then ?_
  refine e_condf rfl ?_
  refine e_skip ?_
  refine x_then ?_
  refine e_seq ?_
  refine e_reg ?_
  refine mv rfl rfl ?_
  refine tt (t_call (n := 5) (st_chain _ _ hv h0 hf F hC) rfl rfl rfl ⟨rfl, trivial⟩ Tryz.call20 (pre_same 1 rfl rfl rfl pre_nil) rfl hw) rfl (fun g hg => ?_)
  refine mv rfl rfl ?_
  refine dt (d_ex rfl rfl rfl) rfl ?_
  refine dt (d_ex rfl rfl rfl) rfl ?_
  refine as_ rfl rfl ?_
  refine as_ rfl rfl ?_
  refine l_nil ?_
  refine x_then ?_
  refine e_seq ?_
  refine e_seq ?_
  refine e_reg ?_
  refine mv rfl rfl ?_
  refine dt (det_is (r' := .bool false) (d_neq rfl rfl rfl) (congrArg Value.bool (by decide))) rfl ?_
  refine l_nil ?_
  refine x_then ?_
  refine e_condf rfl ?_
  refine e_skip ?_
  refine x_then ?_
  refine e_seq ?_
  refine e_reg ?_
  refine mv rfl rfl ?_
  refine dt (d_lb4 (i := 2) rfl rfl rfl Tryz.isAgg49 Tryz.sizeOf49 rfl rfl rfl rfl) rfl ?_
  refine tt (t_call (n := 5) (st_at _ _ _ _ hx hy hp (mem_snd hg (vp_chn hv h0 hC)) (mem_snd hg hE1)) rfl rfl rfl ⟨rfl, rfl, trivial⟩ Tryz.call77 (pre_same 5 rfl rfl rfl pre_nil) rfl hw) rfl (fun _ _ => ?_)
  refine mv rfl rfl ?_
  refine dt (d_ex rfl rfl rfl) rfl ?_
  refine dt (d_ex rfl rfl rfl) rfl ?_
  refine as_ rfl rfl ?_
  refine as_ rfl rfl ?_
  refine l_nil ?_
  refine x_then ?_
  refine e_seq ?_
  refine e_seq ?_
  refine e_reg ?_
  refine mv rfl rfl ?_
  refine dt (det_is (r' := .bool false) (d_neq rfl rfl rfl) (congrArg Value.bool (by decide))) rfl ?_
  refine l_nil ?_
  refine x_then ?_
  refine e_condf rfl ?_
  refine e_skip ?_
  refine x_then ?_
  refine e_seq ?_
  refine e_reg ?_
  refine mv rfl rfl ?_
  refine dt (d_lb4 (i := 3) rfl rfl rfl Tryz.isAgg49 Tryz.sizeOf49 rfl rfl rfl rfl) rfl ?_
  refine tt (t_call (n := 5) (st_at _ _ _ _ hx2 hy2 hp2 (mem_snd hg (vp_chn hv h0 hC)) (mem_snd hg hE2)) rfl rfl rfl ⟨rfl, rfl, trivial⟩ Tryz.call77 (pre_same 5 rfl rfl rfl pre_nil) rfl hw) rfl (fun _ _ => ?_)
  refine mv rfl rfl ?_
  refine dt (d_ex rfl rfl rfl) rfl ?_
  refine dt (d_ex rfl rfl rfl) rfl ?_
  refine as_ rfl rfl ?_
  refine as_ rfl rfl ?_
  refine l_nil ?_
  refine x_then ?_
  refine e_seq ?_
  have hs1 := sgx_map hg (fat x y)
  have hs2 := sgx_map hg (fat x2 y2)
  rw [← hs1] at hr1
  rw [← hs2] at hr2
  have hll2 : (chn F xs).length ≤ F + 1 := hll
  refine e_reg ?_
  refine mv rfl rfl ?_
  refine mv rfl rfl ?_
  refine dt (d_sub rfl rfl rfl ⟨by omega, by omega⟩) rfl ?_
  refine mv rfl rfl ?_
  refine as_ rfl rfl ?_
  refine as_ rfl rfl ?_
  refine l_nil ?_
  refine x_then ?_
  refine e_ret ?_
  exact x_end (.inl rfl) hsc () _ (fun a w hs => res2 hs Tryz.results28 rfl rfl) (by unfold cnt; rw [← hs1, ← hs2] <;> rfl) trivial rfl give_nil
theorem st_count_err (v : Value) (xs : List Int) (hv : Vp xs) (x y x2 y2 : Int) (hx : bl x.natAbs ≤ 65536) (hy : bl y.natAbs ≤ 65536) (hx2 : bl x2.natAbs ≤ 65536) (hy2 : bl y2.natAbs ≤ 65536) (hp : 0 < y) (hp2 : 0 < y2) (hk : chk2r xs x y x2 y2 ≠ 0) : Cal Tryz.prog 28 #[v, .agg #[.bool (decide (x < 0)), .string (bstr x.natAbs), .bool (decide (y < 0)), .string (bstr y.natAbs)], .agg #[.bool (decide (x2 < 0)), .string (bstr x2.natAbs), .bool (decide (y2 < 0)), .string (bstr y2.natAbs)]] [slp 2 wv v xs] false (G := Unit) (fun _ => True) (fun _ => .tuple #[.int .i64 0, .int .i64 (chk2r xs x y x2 y2)]) (fun _ => []) := by
  refine cal_in Tryz.func28 rfl Tryz.ntmps28 rfl ⟨rfl, trivial⟩ ?_
  intro w0 sc hw hsc
  simp only [enumEnv, enumPre]
  refine e_imp (s_nil 999 2 28 wv) ?_
  refine e_imp (s_pub 999 rfl rfl pV) ?_
  refine e_seq ?_
  refine e_reg ?_
  refine tt (t_box (i := 2) rfl rfl rfl rfl rfl rfl hw) rfl (fun bx _ => ?_)
  refine tt (t_box (i := 3) rfl rfl rfl rfl rfl rfl hw) rfl (fun bx_2 _ => ?_)
  refine as_ rfl rfl ?_
  refine as_ rfl rfl ?_
  refine l_nil ?_
  refine x_then ?_
  refine e_seq ?_
  refine e_seq ?_
  refine e_reg ?_
  refine mv rfl rfl ?_
  refine dt (d_lb4 (i := 2) rfl rfl rfl Tryz.isAgg49 Tryz.sizeOf49 rfl rfl rfl rfl) rfl ?_
  refine dt (d_lb4 (i := 3) rfl rfl rfl Tryz.isAgg49 Tryz.sizeOf49 rfl rfl rfl rfl) rfl ?_
  refine tt (t_bsg (i := 4) (ivs := [(0, _), (1, _)]) (enc := rq) [(x, y), (x2, y2)] rfl rfl rfl ⟨rfl, rfl, rfl, rfl, trivial⟩ Tryz.underlying87 Tryz.ti49 rfl rfl rfl (fill24 _ _ _ _ _ _ _ _ _ _ _ _) rfl rfl pQ.cells rfl rfl hw) rfl (fun v _ => ?_)
  refine tt (t_call (n := 4) (st_check2 _ _ hv _ _ _ _ _ hx hy hx2 hy2 hp hp2) rfl rfl rfl ⟨rfl, rfl, trivial⟩ Tryz.call51 (pre_same 1 rfl rfl rfl (pre_lend 4 rfl rfl pQ pre_nil)) rfl hw) rfl (fun _ _ => ?_)
  refine as_ rfl rfl ?_
  refine l_nil ?_
  refine x_then ?_
  refine e_seq ?_
  refine e_reg ?_
  refine mv rfl rfl ?_
  refine dt (d_neq rfl rfl rfl) rfl ?_
  refine l_nil ?_
  refine x_then ?_
  refine e_cond rfl (fun h151 => ?_) (fun h151 => ?_)
  · refine e_seq ?_
    refine e_reg ?_
    refine mv rfl rfl ?_
    refine as_ rfl rfl ?_
    refine as_ rfl rfl ?_
    refine l_nil ?_
    refine x_then ?_
    refine e_ret ?_
    refine x_ret ?_
    exact x_end (.inl rfl) hsc () _ (fun a w hs => res2 hs Tryz.results28 rfl rfl) rfl trivial rfl give_nil
  · exfalso; omega
end Go.Sky
namespace Go.Sky
open Go.Proofs
set_option maxRecDepth 20000
set_option maxHeartbeats 4000000
set_option linter.unusedVariables false
set_option linter.unusedSimpArgs false
theorem st_total (v : Value) (xs : List Int) (hv : Vp xs) (F : Nat) (hFb : F ≤ 1000000) (hk : chk0 xs = 0) (hq : sqf F xs ≠ []) (hC : chOK F xs) : Cal Tryz.prog 29 #[v] [slp 2 wv v xs] false (G := Unit) (fun _ => True) (fun _ => .tuple #[.int .i64 (sleft F xs - sright F xs), .int .i64 0]) (fun _ => []) := by
  refine cal_in Tryz.func29 rfl Tryz.ntmps29 rfl ⟨rfl, trivial⟩ ?_
  intro w0 sc hw hsc
  simp only [enumEnv, enumPre]
  obtain ⟨h0, hf⟩ := chk0_fits hk
  have hr1 := chg_range ((chn F xs).map fl)
  have hr2 := chg_range ((chn F xs).map fr)
  have hll := length_schain F (sqf F xs) (pprim (pder (sqf F xs)))
  rw [List.length_map] at hr1 hr2
  have hne := ne_schain F (x := sqf F xs) (y := pprim (pder (sqf F xs))) hq
  refine e_imp (s_nil 999 2 28 wv) ?_
  refine e_imp (s_pub 999 rfl rfl pV) ?_
  refine e_seq ?_
  refine e_reg ?_
  refine as_ rfl rfl ?_
  refine as_ rfl rfl ?_
  refine l_nil ?_
  refine x_then ?_
  refine e_seq ?_
  refine e_reg ?_
  refine mv rfl rfl ?_
  refine tt (t_call (n := 2) (st_chain _ _ hv h0 hf F hC) rfl rfl rfl ⟨rfl, trivial⟩ Tryz.call20 (pre_same 1 rfl rfl rfl pre_nil) rfl hw) rfl (fun g hg => ?_)
  refine mv rfl rfl ?_
  refine dt (d_ex rfl rfl rfl) rfl ?_
  refine dt (d_ex rfl rfl rfl) rfl ?_
  refine as_ rfl rfl ?_
  refine as_ rfl rfl ?_
  refine l_nil ?_
  refine x_then ?_
  refine e_seq ?_
  refine e_seq ?_
  refine e_reg ?_
  refine mv rfl rfl ?_
  refine dt (det_is (r' := .bool false) (d_neq rfl rfl rfl) (congrArg Value.bool (by decide))) rfl ?_
  refine l_nil ?_
  refine x_then ?_
  refine e_condf rfl ?_
  refine e_skip ?_
  refine x_then ?_
  refine e_seq ?_
  refine e_reg ?_
  refine mv rfl rfl ?_
  refine tt (t_call (n := 2) (st_chg_r _ _ (mem_snd hg (vp_chn hv h0 hC)) (mem_snd hg hne)) rfl rfl rfl ⟨rfl, rfl, trivial⟩ Tryz.call78 (pre_same 2 rfl rfl rfl pre_nil) rfl hw) rfl (fun _ _ => ?_)
  refine mv rfl rfl ?_
  refine dt (d_ex rfl rfl rfl) rfl ?_
  refine dt (d_ex rfl rfl rfl) rfl ?_
  refine as_ rfl rfl ?_
  refine as_ rfl rfl ?_
  refine l_nil ?_
  refine x_then ?_
  refine e_seq ?_
  refine e_reg ?_
  refine mv rfl rfl ?_
  refine tt (t_call (n := 2) (st_chg_l _ _ (mem_snd hg (vp_chn hv h0 hC)) (mem_snd hg hne)) rfl rfl rfl ⟨rfl, rfl, trivial⟩ Tryz.call78 (pre_same 2 rfl rfl rfl pre_nil) rfl hw) rfl (fun _ _ => ?_)
  refine mv rfl rfl ?_
  refine dt (d_ex rfl rfl rfl) rfl ?_
  refine dt (d_ex rfl rfl rfl) rfl ?_
  refine as_ rfl rfl ?_
  refine as_ rfl rfl ?_
  refine l_nil ?_
  refine x_then ?_
  refine e_seq ?_
  have hs1 := sgx_map hg fl
  have hs2 := sgx_map hg fr
  rw [← hs1] at hr1
  rw [← hs2] at hr2
  have hll2 : (chn F xs).length ≤ F + 1 := hll
  refine e_reg ?_
  refine mv rfl rfl ?_
  refine mv rfl rfl ?_
  refine dt (d_sub rfl rfl rfl ⟨by omega, by omega⟩) rfl ?_
  refine as_ rfl rfl ?_
  refine as_ rfl rfl ?_
  refine l_nil ?_
  refine x_then ?_
  refine e_ret ?_
  exact x_end (.inl rfl) hsc () _ (fun a w hs => res2 hs Tryz.results29 rfl rfl) (by unfold sleft sright; rw [← hs1, ← hs2] <;> rfl) trivial rfl give_nil
theorem st_bound (v : Value) (xs : List Int) (hv : Vp xs) (hk : chk0 xs = 0) : Cal Tryz.prog 12 #[v] [slp 2 wv v xs] false (G := Unit) (fun _ => True) (fun _ => .tuple #[wv (sbound xs), .int .i64 0]) (fun _ => []) := by
  refine cal_in Tryz.func12 rfl Tryz.ntmps12 rfl ⟨rfl, trivial⟩ ?_
  intro w0 sc hw hsc
  simp only [enumEnv, enumPre]
  obtain ⟨h0, hf⟩ := chk0_fits hk
  have hmz := fits_msz hf
  have hlen := hv.len
  have hl0 := List.length_pos_iff.2 h0
  have hsb := fun i => sm_b (msz_sz xs) i
  have hld := hv.tr.mem h0
  have hsz := msz_sz xs
  have hbb := sbound_b hsz
  have htl : (xs.take (xs.length - 1)).length = xs.length - 1 := by rw [List.length_take]; omega
  refine e_imp (s_nil 999 2 28 wv) ?_
  refine e_imp (s_pub 999 rfl rfl pV) ?_
  refine e_seq ?_
  refine e_reg ?_
  refine tt (t_alloc (i := 2) rfl rfl rfl Tryz.zeroValue28 rfl rfl hw) rfl (fun bx _ => ?_)
  refine as_ rfl rfl ?_
  refine l_nil ?_
  refine x_then ?_
  refine e_seq ?_
  refine e_seq ?_
  refine e_reg ?_
  refine mv rfl rfl ?_
  refine tt (t_call (n := 2) (st_check0 _ _ hv) rfl rfl rfl ⟨rfl, rfl, trivial⟩ Tryz.call51 (pre_same 1 rfl rfl rfl pre_nil) rfl hw) rfl (fun _ _ => ?_)
  refine as_ rfl rfl ?_
  refine l_nil ?_
  refine x_then ?_
  refine e_seq ?_
  refine e_reg ?_
  refine mv rfl rfl ?_
  refine dt (d_neq rfl rfl rfl) rfl ?_
  refine l_nil ?_
  refine x_then ?_
  refine e_cond rfl (fun h186 => ?_) (fun h186 => ?_)
  · exfalso; omega
  · refine e_skip ?_
    refine x_then ?_
    refine e_seq ?_
    refine e_reg ?_
    refine tt (t_alloc (i := 3) rfl rfl rfl Tryz.zeroValue28 rfl rfl hw) rfl (fun bx_2 _ => ?_)
    refine l_nil ?_
    refine x_then ?_
    refine e_seq ?_
    refine e_seq ?_
    refine e_reg ?_
    refine mv rfl rfl ?_
    refine mv rfl rfl ?_
    refine dt (d_len rfl rfl (i := 1) rfl rd_slp Tryz.underlying23) rfl ?_
    refine dt (d_sub rfl rfl rfl ⟨by omega, by omega⟩) rfl ?_
    refine dt (d_pre (ii := 1) (i := (xs.length - 1)) rfl rfl rfl rfl rd_slp Tryz.underlying23 Tryz.sizeOf28 (by omega) (by omega)) rfl ?_
    refine l_imp (s_pre 1 4 ((xs.length - 1)) rfl rfl (by omega)) ?_
    refine dt (d_len rfl rfl (i := 4) rfl rd_slp Tryz.underlying23) rfl ?_
    refine mv rfl rfl ?_
    refine l_nil ?_
    refine x_then ?_
    refine e_block ?_
    refine e_lp [(0, _), (2, _), (5, _), (22, _), (23, _)] [(0, _), (1, _), (999, _), (2, _), (4, _)] (fun (i : Nat) => [(24, .int .i64 (i : Int))]) (fun (i : Nat) => [(3, box bx_2 28 (wc ((sm xs i : Nat) : Int)))]) (fun (i : Nat) => (i ≤ xs.length - 1)) (fun (i : Nat) => xs.length - 1 - i) 0 (by first | omega | (dsimp only <;> omega)) ⟨rfl, rfl, rfl, rfl, rfl, rfl, trivial⟩ ⟨rfl, rfl, rfl, rfl, rfl, rfl, trivial⟩ ?_
    rintro i hi
    simp only [List.cons_append, List.nil_append]
    refine e_seq ?_
    refine e_reg ?_
    refine dt (d_lss rfl rfl rfl) rfl ?_
    refine l_nil ?_
    refine x_then ?_
    refine e_seq ?_
    refine e_cond rfl (fun h190 => ?_) (fun h190 => ?_)
    · refine e_skip ?_
      refine x_then ?_
      refine e_seq ?_
      refine e_block ?_
      refine e_seq ?_
      refine e_reg ?_
      refine dt (d_ixa (ii := 4) rfl rfl rfl rfl rd_slp Tryz.underlying23 Tryz.sizeOf28 rfl (by first | omega | (simp only [List.length_set]; omega))) rfl ?_
      refine dt (d_lde (ii := 4) 0 rfl rfl rfl rd_slp pV (by first | omega | (simp only [List.length_set]; omega))) rfl ?_
      refine tt (t_alloc (i := 5) rfl rfl rfl Tryz.zeroValue28 rfl rfl hw) rfl (fun bx_3 _ => ?_)
      refine tt (t_stw (i := 5) rfl rfl rfl rfl rfl (by decide) rfl Tryz.sizeOf28 rfl rfl ⟨(one_rfl rfl), (one_rfl rfl), trivial⟩ rfl hw trivial) rfl (fun _ _ => ?_)
      refine l_nil ?_
      refine x_then ?_
      refine e_seq ?_
      refine e_reg ?_
      refine dt (d_fa rfl rfl Tryz.underlying28 rfl Tryz.sizeOf4 rfl rfl) rfl ?_
      refine tt (t_stp (cs' := #[]) (i := 5) rfl rfl rfl rfl rfl (by decide) rfl Tryz.sizeOf4 rfl rfl ⟨(one_rfl rfl), trivial⟩ rfl hw trivial) rfl (fun _ _ => ?_)
      refine l_nil ?_
      refine x_then ?_
      refine e_seq ?_
      refine e_reg ?_
      refine dt (det_is (r' := wv (((cf xs i).natAbs : Nat) : Int)) (d_lb2 (i := 5) rfl rfl rfl Tryz.isAgg28 Tryz.sizeOf28 rfl rfl) (by rw [wv_abs]; exact congrArg (fun z : Int => Value.agg #[.bool false, .string (bstr z.natAbs)]) (getD_take _ _ _ _ (by omega)))) rfl ?_
      refine dt (d_lb2 (i := 3) rfl rfl rfl Tryz.isAgg28 Tryz.sizeOf28 rfl rfl) rfl ?_
      refine tt (t_call (n := 5) (wide_compare ((cf xs i).natAbs : Int) ((sm xs i : Nat) : Int) (by have := hsz i; rw [Int.natAbs_natCast]; omega) (by have := hsb i; rw [Int.natAbs_natCast]; omega)) rfl rfl rfl ⟨rfl, rfl, trivial⟩ Tryz.call52 pre_nil rfl hw) rfl (fun _ _ => ?_)
      refine dt (d_gtr rfl rfl rfl) rfl ?_
      refine l_nil ?_
      refine x_then ?_
      refine e_cond rfl (fun h192 => ?_) (fun h192 => ?_)
      · refine e_reg ?_
        refine dt (det_is (r' := wv (((cf xs i).natAbs : Nat) : Int)) (d_lb2 (i := 5) rfl rfl rfl Tryz.isAgg28 Tryz.sizeOf28 rfl rfl) (by rw [wv_abs]; exact congrArg (fun z : Int => Value.agg #[.bool false, .string (bstr z.natAbs)]) (getD_take _ _ _ _ (by omega)))) rfl ?_
        refine tt (t_stw (i := 3) rfl rfl rfl rfl rfl (by decide) rfl Tryz.sizeOf28 rfl rfl ⟨(one_rfl rfl), (one_rfl rfl), trivial⟩ rfl hw trivial) rfl (fun _ _ => ?_)
        refine l_nil ?_
        refine x_bn ?_
        refine x_then ?_
        refine e_reg ?_
        refine dt (d_add rfl rfl rfl ⟨by omega, by omega⟩) rfl ?_
        refine mv rfl rfl ?_
        refine l_nil ?_
        exact x_rnd (i + 1) (by first | omega | (dsimp only <;> omega)) (by first | omega | (dsimp only <;> omega)) ⟨rfl, rfl, rfl, rfl, rfl, rfl, trivial⟩ ⟨by rw [sm_succ (by omega)]; first | (rw [Nat.max_eq_right (by have := sign_sub_pos.1 h192; omega)] <;> rfl) | (rw [Nat.max_eq_left (Nat.le_of_not_lt fun h => h192 (sign_sub_pos.2 h))] <;> rfl), rfl, rfl, rfl, rfl, rfl, trivial⟩
      · refine e_skip ?_
        refine x_bn ?_
        refine x_then ?_
        refine e_reg ?_
        refine dt (d_add rfl rfl rfl ⟨by omega, by omega⟩) rfl ?_
        refine mv rfl rfl ?_
        refine l_nil ?_
        exact x_rnd (i + 1) (by first | omega | (dsimp only <;> omega)) (by first | omega | (dsimp only <;> omega)) ⟨rfl, rfl, rfl, rfl, rfl, rfl, trivial⟩ ⟨by rw [sm_succ (by omega)]; first | (rw [Nat.max_eq_right (by have := sign_sub_pos.1 h192; omega)] <;> rfl) | (rw [Nat.max_eq_left (Nat.le_of_not_lt fun h => h192 (sign_sub_pos.2 h))] <;> rfl), rfl, rfl, rfl, rfl, rfl, trivial⟩
    · refine e_exit ?_
      refine x_exit ?_
      refine x_exit ?_
      refine x_be ?_
      refine x_then ?_
      refine e_seq ?_
      obtain rfl : i = xs.length - 1 := by omega
      have hqe := sbound_eq h0
      have hqb : bl (smost xs : Int).natAbs ≤ msz xs := smost_b hsz
      refine e_reg ?_
      refine mv rfl rfl ?_
      refine mv rfl rfl ?_
      refine dt (d_len rfl rfl (i := 1) rfl rd_slp Tryz.underlying23) rfl ?_
      refine dt (d_sub rfl rfl rfl ⟨by omega, by omega⟩) rfl ?_
      refine dt (d_ixa (ii := 1) (i := (xs.length - 1)) rfl rfl rfl rfl rd_slp Tryz.underlying23 Tryz.sizeOf28 (by omega) (by omega)) rfl ?_
      refine dt (d_lde (ii := 1) 0 rfl rfl rfl rd_slp pV (by first | omega | (simp only [List.length_set]; omega))) rfl ?_
      refine tt (t_alloc (i := 6) rfl rfl rfl Tryz.zeroValue28 rfl rfl hw) rfl (fun bx_4 _ => ?_)
      refine tt (t_stw (i := 6) rfl rfl rfl rfl rfl (by decide) rfl Tryz.sizeOf28 rfl rfl ⟨(one_rfl rfl), (one_rfl rfl), trivial⟩ rfl hw trivial) rfl (fun _ _ => ?_)
      refine l_nil ?_
      refine x_then ?_
      refine e_seq ?_
      refine e_reg ?_
      refine dt (d_fa rfl rfl Tryz.underlying28 rfl Tryz.sizeOf4 rfl rfl) rfl ?_
      refine tt (t_stp (cs' := #[]) (i := 6) rfl rfl rfl rfl rfl (by decide) rfl Tryz.sizeOf4 rfl rfl ⟨(one_rfl rfl), trivial⟩ rfl hw trivial) rfl (fun _ _ => ?_)
      refine l_nil ?_
      refine x_then ?_
      refine e_seq ?_
      refine e_reg ?_
      refine dt (d_lb2 (i := 3) rfl rfl rfl Tryz.isAgg28 Tryz.sizeOf28 rfl rfl) rfl ?_
      refine dt (det_is (r' := wv (((cf xs (xs.length - 1)).natAbs : Nat) : Int)) (d_lb2 (i := 6) rfl rfl rfl Tryz.isAgg28 Tryz.sizeOf28 rfl rfl) (by rw [wv_abs]; rfl)) rfl ?_
      refine tt (t_call (n := 6) (wide_quo ((sm xs (xs.length - 1) : Nat) : Int) (((cf xs (xs.length - 1)).natAbs : Nat) : Int) (by have := hsb (xs.length - 1); rw [Int.natAbs_natCast]; omega) (by have := hsz (xs.length - 1); rw [Int.natAbs_natCast]; omega) (by omega)) rfl rfl rfl ⟨rfl, rfl, trivial⟩ Tryz.call53 pre_nil rfl hw) rfl (fun _ _ => ?_)
      refine mv rfl rfl ?_
      refine dt (d_ex rfl rfl rfl) rfl ?_
      refine dt (d_ex rfl rfl rfl) rfl ?_
      refine dt (d_ex rfl rfl rfl) rfl ?_
      refine tt (t_alloc (i := 7) rfl rfl rfl Tryz.zeroValue28 rfl rfl hw) rfl (fun bx_5 _ => ?_)
      refine tt (t_alloc (i := 8) rfl rfl rfl Tryz.zeroValue28 rfl rfl hw) rfl (fun bx_6 _ => ?_)
      refine tt (t_stw (i := 7) rfl rfl rfl rfl rfl (by decide) rfl Tryz.sizeOf28 rfl rfl ⟨(one_rfl rfl), (one_rfl rfl), trivial⟩ rfl hw trivial) rfl (fun _ _ => ?_)
      refine tt (t_stw (i := 8) rfl rfl rfl rfl rfl (by decide) rfl Tryz.sizeOf28 rfl rfl ⟨(one_rfl rfl), (one_rfl rfl), trivial⟩ rfl hw trivial) rfl (fun _ _ => ?_)
      refine as_ rfl rfl ?_
      refine l_nil ?_
      refine x_then ?_
      refine e_seq ?_
      refine e_seq ?_
      refine e_reg ?_
      refine mv rfl rfl ?_
      refine dt (det_is (r' := .bool false) (d_neq rfl rfl rfl) (congrArg Value.bool (by decide))) rfl ?_
      refine l_nil ?_
      refine x_then ?_
      refine e_condf rfl ?_
      refine e_skip ?_
      refine x_then ?_
      refine e_seq ?_
      refine e_dreg (fun _ => False) [(0, 0), (1, 1), (2, 1), (3, 0), (4, 0), (5, 3), (6, 3)] (by kernel_rfl) ?_ ?_
      · kernel_rfl
      refine r0' rfl rfl rfl rfl (st0 (d_lb2 (i := 7) rfl rfl rfl Tryz.isAgg28 Tryz.sizeOf28 rfl rfl)) ?_
      refine r1' rfl rfl (t_call (n := 8) (wide_of_int _ ⟨by decide, by decide⟩) rfl rfl rfl ⟨rfl, trivial⟩ Tryz.call55 pre_nil rfl hw) (fun _ _ => ?_)
      refine r1' rfl rfl (t_call (n := 8) (wide_add _ _ (clip_bl _) (by decide +kernel)) rfl rfl rfl ⟨rfl, rfl, trivial⟩ Tryz.call54 pre_nil rfl hw) (fun _ _ => ?_)
      refine r0' rfl rfl rfl rfl (st0 (d_ex rfl rfl rfl)) ?_
      refine r0' rfl rfl rfl rfl (st0 (d_ex rfl rfl rfl)) ?_
      refine r3' rfl rfl (t_stw (i := 2) rfl rfl rfl rfl rfl (by decide) rfl Tryz.sizeOf28 rfl rfl ⟨(one_rfl rfl), (one_rfl rfl), trivial⟩ rfl hw trivial) (fun _ _ => ?_)
      refine r3' rfl rfl (t_det (d_as rfl rfl) rfl rfl) (fun _ _ => ?_)
      refine r_end ?_
      refine x_then ?_
      refine e_ret ?_
      exact x_end (.inl rfl) hsc () _ (fun a w hs => res2 hs Tryz.results12 (rv_cell (i := 2) rfl rfl Tryz.isAgg28 Tryz.sizeOf28 rfl) rfl) (by rw [clip_ok (show bl ((sm xs (xs.length - 1) : Int) / _).natAbs ≤ 65536 from Nat.le_trans (bl_idiv _ _) (by show bl (smost xs : Int).natAbs + 1 ≤ _; omega)), show ((sm xs (xs.length - 1) : Nat) : Int) = ((smost xs : Nat) : Int) from rfl, hqe]; exact (wide_ok (by omega)).symm) trivial rfl give_nil
theorem st_middle (x y x2 y2 : Int) (hx : bl x.natAbs ≤ 65536) (hy : bl y.natAbs ≤ 65536) (hx2 : bl x2.natAbs ≤ 65536) (hy2 : bl y2.natAbs ≤ 65536) (hp : 0 < y) (hp2 : 0 < y2) (hq : ¬ rfull (x * y2 + x2 * y) (y * y2)) : Cal Tryz.prog 86 #[.agg #[.bool (decide (x < 0)), .string (bstr x.natAbs), .bool (decide (y < 0)), .string (bstr y.natAbs)], .agg #[.bool (decide (x2 < 0)), .string (bstr x2.natAbs), .bool (decide (y2 < 0)), .string (bstr y2.natAbs)]] [] false (G := Unit) (fun _ => True) (fun _ => ratioV (rnum (x * y2 + x2 * y) (y * y2) * 1) (rden (x * y2 + x2 * y) (y * y2) * 2)) (fun _ => []) := by
  refine cal_in Tryz.func86 rfl Tryz.ntmps86 rfl trivial ?_
  intro w0 sc hw hsc
  simp only [enumEnv, enumPre]
  obtain ⟨hn1, hn2, hn3⟩ := nr_num hq
  obtain ⟨hb1, hb2⟩ := nr_bl hq
  have hdp := nr_pos hq (Int.mul_pos hp hp2)
  refine e_seq ?_
  refine e_reg ?_
  refine tt (t_box (i := 1) rfl rfl rfl rfl rfl rfl hw) rfl (fun bx _ => ?_)
  refine tt (t_box (i := 2) rfl rfl rfl rfl rfl rfl hw) rfl (fun bx_2 _ => ?_)
  refine tt (t_alloc (i := 3) rfl rfl rfl Tryz.zeroValue49 rfl rfl hw) rfl (fun bx_3 _ => ?_)
  refine as_ rfl rfl ?_
  refine l_nil ?_
  refine x_then ?_
  refine e_seq ?_
  refine e_reg ?_
  refine dt (d_lb4 (i := 1) rfl rfl rfl Tryz.isAgg49 Tryz.sizeOf49 rfl rfl rfl rfl) rfl ?_
  refine dt (d_lb4 (i := 2) rfl rfl rfl Tryz.isAgg49 Tryz.sizeOf49 rfl rfl rfl rfl) rfl ?_
  refine tt (t_call (n := 3) (wide_addratio _ _ _ _ hx hy hx2 hy2 hp hp2) rfl rfl rfl ⟨rfl, rfl, trivial⟩ Tryz.call130 pre_nil rfl hw) rfl (fun _ _ => ?_)
  refine mv rfl rfl ?_
  refine dt (d_ex rfl rfl rfl) rfl ?_
  refine dt (d_ex rfl rfl rfl) rfl ?_
  refine tt (t_alloc (i := 4) rfl rfl rfl Tryz.zeroValue49 rfl rfl hw) rfl (fun bx_4 _ => ?_)
  refine tt (t_stw (i := 4) rfl rfl rfl rfl rfl (by decide) rfl Tryz.sizeOf49 rfl rfl ⟨(one_rfl rfl), (one_rfl rfl), (one_rfl rfl), (one_rfl rfl), trivial⟩ rfl hw trivial) rfl (fun _ _ => ?_)
  refine as_ rfl rfl ?_
  refine l_nil ?_
  refine x_then ?_
  refine e_seq ?_
  refine e_seq ?_
  refine e_reg ?_
  refine mv rfl rfl ?_
  refine dt (det_is (r' := .bool false) (d_neq rfl rfl rfl) (congrArg Value.bool (by rw [hn3]; rfl))) rfl ?_
  refine l_nil ?_
  refine x_then ?_
  refine e_condf rfl ?_
  refine e_skip ?_
  refine x_then ?_
  refine e_seq ?_
  refine e_dreg (fun _ => False) [(0, 0), (1, 1), (2, 1), (3, 0), (4, 1), (5, 0), (6, 0), (7, 3), (8, 3)] (by kernel_rfl) ?_ ?_
  · kernel_rfl
  refine r0' rfl rfl rfl rfl (st0 (d_lb4 (i := 4) rfl rfl rfl Tryz.isAgg49 Tryz.sizeOf49 rfl rfl rfl rfl)) ?_
  refine r1' rfl rfl (t_call (n := 4) (wide_of_int _ ⟨by decide, by decide⟩) rfl rfl rfl ⟨rfl, trivial⟩ Tryz.call55 pre_nil rfl hw) (fun _ _ => ?_)
  refine r1' rfl rfl (t_call (n := 4) (wide_of_int _ ⟨by decide, by decide⟩) rfl rfl rfl ⟨rfl, trivial⟩ Tryz.call55 pre_nil rfl hw) (fun _ _ => ?_)
  refine r0' rfl rfl rfl rfl (st0 (d_bld (ivs := [(0, _), (1, _)]) rfl ⟨rfl, rfl, rfl, rfl, trivial⟩ (fun a w hs => b49_01))) ?_
  refine r1' rfl rfl (t_call (n := 4) (wide_mulratio _ _ 1 2 hb1 hb2 (by decide +kernel) (by decide +kernel) hdp (by decide)) rfl rfl rfl ⟨rfl, rfl, trivial⟩ Tryz.call131 pre_nil rfl hw) (fun _ _ => ?_)
  refine r0' rfl rfl rfl rfl (st0 (d_ex rfl rfl rfl)) ?_
  refine r0' rfl rfl rfl rfl (st0 (d_ex rfl rfl rfl)) ?_
  refine r3' rfl rfl (t_stw (i := 3) rfl rfl rfl rfl rfl (by decide) rfl Tryz.sizeOf49 rfl rfl ⟨(one_rfl rfl), (one_rfl rfl), (one_rfl rfl), (one_rfl rfl), trivial⟩ rfl hw trivial) (fun _ _ => ?_)
  refine r3' rfl rfl (t_det (d_as rfl rfl) rfl rfl) (fun _ _ => ?_)
  refine r_end ?_
  refine x_then ?_
  refine e_ret ?_
  exact x_end (.inl rfl) hsc () _ (fun a w hs => res2 hs Tryz.results86 (rv_cell (i := 3) rfl rfl Tryz.isAgg49 Tryz.sizeOf49 rfl) rfl) rfl trivial rfl give_nil
end Go.Sky

