/- contracts of package wide
   Proved without conditions of its own: each theorem bears its own. -/
import Derived.Test.YtjkhdpcmkcjjcaaD
import Derived.Test.YtjkhdpcmkcjjcaaB
import Derived.Test.YtjkhdpcmkcjjcaaC
import Derived.Test.YtjkhdpcmkcjjcaaE
set_option linter.all false
namespace Go.Sky
open Go.Proofs
set_option maxRecDepth 20000
set_option maxHeartbeats 4000000
set_option linter.unusedVariables false
set_option linter.unusedSimpArgs false
theorem num_neg (s : Bool) (v : Value) (x : Int) (hs : sg s x) : Cal Try.prog 72 #[.agg #[.bool s, v]] [dgp v x.natAbs] true (G := Bool × Value) (fun r => sg r.1 (-x)) (fun r => .agg #[.bool r.1, r.2]) (fun r => [dgp r.2 (-x).natAbs]) := by
 refine cal_in Try.func72 rfl Try.ntmps72 rfl ⟨rfl, trivial⟩ ?_
 intro w0 sc hw hsc
 simp only [enumEnv, enumPre]
 refine e_seq (e_reg (tt (t_box (i := 2) rfl rfl rfl rfl rfl rfl hw) rfl (fun b _ => ?_)))
 refine tt (t_alloc (i := 3) rfl rfl rfl Try.zeroValue86 rfl rfl hw) rfl (fun b_2 _ => ?_)
 refine l_nil (x_then (e_seq (e_reg (dt (d_fa rfl rfl Try.underlying86 rfl Try.sizeOf4 rfl rfl) rfl ?_))))
 refine dt (d_lb (i := 2) rfl rfl rfl Try.isAgg4 rfl) rfl ?_
 refine dt (d_notb rfl rfl) rfl ?_
 refine dt (d_fa rfl rfl Try.underlying86 rfl Try.sizeOf83 rfl rfl) rfl ?_
 refine dt (d_lb (i := 2) rfl rfl rfl Try.isAgg83 rfl) rfl ?_
 refine dt (d_bld (ivs := [(0, _), (1, _)]) rfl ⟨rfl, rfl, rfl, rfl, trivial⟩ (fun a w hs => b86_01 ((one_rfl rfl) a w hs) ((one_rd (i := 1) rfl rd_slp) a w hs))) rfl ?_
 refine tt (t_stw (i := 3) rfl rfl rfl rfl rfl (by decide) rfl Try.sizeOf86 rfl rfl ⟨(one_rfl rfl), (one_rd (i := 1) rfl rd_slp), trivial⟩ rfl hw trivial) rfl (fun _ _ => ?_)
 refine l_nil (x_then (e_ret ?_))
 exact x_end (.inl rfl) hsc (!s, v) _ (fun a w hs => res1 hs Try.results72 (rv_cell (i := 3) rfl rfl Try.isAgg86 Try.sizeOf86 rfl)) rfl (sg_neg hs) rfl (give_samee 1 rfl rfl rfl (by rw [Int.natAbs_neg]) give_nil)
theorem num_mul (s t : Bool) (v w : Value) (x y : Int) (hs : sg s x) (ht : sg t y) (hx : bl x.natAbs ≤ 4294967296) (hy : bl y.natAbs ≤ 4294967296) : Cal Try.prog 70 #[.agg #[.bool s, v], .agg #[.bool t, w]] [dgp v x.natAbs, dgp w y.natAbs] true (G := Bool × Value) (fun r => sg r.1 (x * y)) (fun r => .agg #[.bool r.1, r.2]) (fun r => [dgp r.2 (x * y).natAbs]) := by
 refine cal_in Try.func70 rfl Try.ntmps70 rfl ⟨rfl, rfl, trivial⟩ ?_
 intro w0 sc hw hsc
 simp only [enumEnv, enumPre]
 refine e_seq (e_reg (tt (t_box (i := 3) rfl rfl rfl rfl rfl rfl hw) rfl (fun b _ => ?_)))
 refine tt (t_box (i := 4) rfl rfl rfl rfl rfl rfl hw) rfl (fun b_2 _ => ?_)
 refine tt (t_alloc (i := 5) rfl rfl rfl Try.zeroValue86 rfl rfl hw) rfl (fun b_3 _ => ?_)
 refine l_nil (x_then (e_seq (e_dreg (fun _ => False) [(0, 0), (1, 0), (2, 0), (3, 0), (4, 0), (5, 0), (6, 0), (7, 0), (8, 0), (9, 1), (10, 0), (11, 3)] (by kernel_rfl) ?_ ?_)))
 ·kernel_rfl
 refine r0' rfl rfl rfl rfl (st0 (d_fa rfl rfl Try.underlying86 rfl Try.sizeOf4 rfl rfl)) ?_
 refine r0' rfl rfl rfl rfl (st0 (d_lb (i := 3) rfl rfl rfl Try.isAgg4 rfl)) ?_
 refine r0' rfl rfl rfl rfl (st0 (d_fa rfl rfl Try.underlying86 rfl Try.sizeOf4 rfl rfl)) ?_
 refine r0' rfl rfl rfl rfl (st0 (d_lb (i := 4) rfl rfl rfl Try.isAgg4 rfl)) ?_
 refine r0' rfl rfl rfl rfl (st0 (d_neb rfl rfl rfl Try.underlying4)) ?_
 refine r0' rfl rfl rfl rfl (st0 (d_fa rfl rfl Try.underlying86 rfl Try.sizeOf83 rfl rfl)) ?_
 refine r0' rfl rfl rfl rfl (st0 (d_lb (i := 3) rfl rfl rfl Try.isAgg83 rfl)) ?_
 refine r0' rfl rfl rfl rfl (st0 (d_fa rfl rfl Try.underlying86 rfl Try.sizeOf83 rfl rfl)) ?_
 refine r0' rfl rfl rfl rfl (st0 (d_lb (i := 4) rfl rfl rfl Try.isAgg83 rfl)) ?_
 refine r1' rfl rfl (t_call (n := 6) (nat_mul _ _ _ _ hx hy) rfl rfl rfl ⟨rfl, rfl, trivial⟩ Try.call81 (pre_same 1 rfl rfl rfl (pre_same 2 rfl rfl rfl pre_nil)) rfl hw) (fun v _ => ?_)
 refine r0' rfl rfl rfl rfl (st0 (d_bld (ivs := [(0, _), (1, _)]) rfl ⟨rfl, rfl, rfl, rfl, trivial⟩ (fun a w hs => b86_01 ((one_rfl rfl) a w hs) ((one_rd (i := 6) rfl rd_slp) a w hs)))) ?_
 refine r3' rfl rfl (t_stw (i := 5) rfl rfl rfl rfl rfl (by decide) rfl Try.sizeOf86 rfl rfl ⟨(one_rfl rfl), (one_rd (i := 6) rfl rd_slp), trivial⟩ rfl hw trivial) (fun _ _ => ?_)
 refine r_end ?_
 refine x_then (e_ret ?_)
 exact x_end (.inl rfl) hsc (_, _) _ (fun a w hs => res1 hs Try.results70 (rv_cell (i := 5) rfl rfl Try.isAgg86 Try.sizeOf86 rfl)) rfl (sg_mul hs ht) rfl (give_samee 6 rfl rfl rfl (by rw [Int.natAbs_mul]) give_nil)
theorem num_sign (s : Bool) (v : Value) (x : Int) (hs : sg s x) (hx : bl x.natAbs ≤ 4294967296) : Cal Try.prog 58 #[.agg #[.bool s, v]] [dgp v x.natAbs] true (G := Unit) (fun _ => True) (fun _ => .int .i64 x.sign) (fun _ => []) := by
 refine cal_in Try.func58 rfl Try.ntmps58 rfl ⟨rfl, trivial⟩ ?_
 intro w0 sc hw hsc
 simp only [enumEnv, enumPre]
 have hX := lenU_bl x.natAbs
 refine e_seq (e_reg (tt (t_box (i := 2) rfl rfl rfl rfl rfl rfl hw) rfl (fun b _ => ?_)))
 refine as_ rfl rfl (l_nil (x_then (e_seq (e_block (e_seq (e_reg (dt (d_fa rfl rfl Try.underlying86 rfl Try.sizeOf83 rfl rfl) rfl ?_)))))))
 refine dt (d_lb (i := 2) rfl rfl rfl Try.isAgg83 rfl) rfl ?_
 refine dt (d_len rfl rfl (i := 1) rfl rd_slp Try.underlying83) rfl ?_
 refine dt (d_eql rfl rfl rfl) rfl ?_
 refine as_ rfl rfl (l_nil (x_then (e_cond rfl (fun h245 => ?_) (fun h245 => ?_))))
 ·refine e_seq (e_reg (as_ rfl rfl (l_nil (x_then (e_ret (x_br ?_))))))
  refine x_ret ?_
  exact x_end (.inl rfl) hsc () _ (fun a w hs => res1 hs Try.results58 rfl) (sign_zero h245) trivial rfl give_nil
 ·refine e_seq (e_reg (dt (d_fa rfl rfl Try.underlying86 rfl Try.sizeOf4 rfl rfl) rfl ?_))
  refine dt (d_lb (i := 2) rfl rfl rfl Try.isAgg4 rfl) rfl ?_
  refine as_ rfl rfl (l_nil (x_then (e_condb rfl (fun h247 => ?_) (fun h247 => ?_))))
  ·refine e_seq (e_reg (as_ rfl rfl (l_nil (x_then (e_ret (x_br ?_))))))
   refine x_ret ?_
   exact x_end (.inl rfl) hsc () _ (fun a w hs => res1 hs Try.results58 rfl) (sign_neg hs h247 h245) trivial rfl give_nil
  ·refine e_skip ?_
   refine x_bn ?_
   refine x_then (e_seq (e_reg (as_ rfl rfl (l_nil (x_then (e_ret ?_))))))
   exact x_end (.inl rfl) hsc () _ (fun a w hs => res1 hs Try.results58 rfl) (sign_pos hs h247 h245) trivial rfl give_nil
theorem num_add (s t : Bool) (v w : Value) (x y : Int) (hs : sg s x) (ht : sg t y) (hx : bl x.natAbs ≤ 4294967296) (hy : bl y.natAbs ≤ 4294967296) : Cal Try.prog 69 #[.agg #[.bool s, v], .agg #[.bool t, w]] [dgp v x.natAbs, dgp w y.natAbs] true (G := Bool × Value) (fun r => sg r.1 (x + y)) (fun r => .agg #[.bool r.1, r.2]) (fun r => [dgp r.2 (x + y).natAbs]) := by
 refine cal_in Try.func69 rfl Try.ntmps69 rfl ⟨rfl, rfl, trivial⟩ ?_
 intro w0 sc hw hsc
 simp only [enumEnv, enumPre]
 refine e_seq (e_reg (tt (t_box (i := 3) rfl rfl rfl rfl rfl rfl hw) rfl (fun b _ => ?_)))
 refine tt (t_box (i := 4) rfl rfl rfl rfl rfl rfl hw) rfl (fun b_2 _ => ?_)
 refine tt (t_alloc (i := 5) rfl rfl rfl Try.zeroValue86 rfl rfl hw) rfl (fun b_3 _ => ?_)
 refine l_nil (x_then (e_seq (e_block (e_seq (e_reg (dt (d_fa rfl rfl Try.underlying86 rfl Try.sizeOf4 rfl rfl) rfl ?_))))))
 refine dt (d_lb (i := 3) rfl rfl rfl Try.isAgg4 rfl) rfl ?_
 refine dt (d_fa rfl rfl Try.underlying86 rfl Try.sizeOf4 rfl rfl) rfl ?_
 refine dt (d_lb (i := 4) rfl rfl rfl Try.isAgg4 rfl) rfl ?_
 refine dt (d_eqb rfl rfl rfl Try.underlying4) rfl ?_
 refine as_ rfl rfl (l_nil (x_then (e_condb rfl (fun h231 => ?_) (fun h231 => ?_))))
 ·have hst : s = t := by simpa using h231
  refine e_seq (e_dreg (fun _ => False) [(0, 0), (1, 0), (2, 0), (3, 0), (4, 0), (5, 0), (6, 1), (7, 0), (8, 3)] (by kernel_rfl) ?_ ?_)
  ·kernel_rfl
  refine r0' rfl rfl rfl rfl (st0 (d_fa rfl rfl Try.underlying86 rfl Try.sizeOf4 rfl rfl)) ?_
  refine r0' rfl rfl rfl rfl (st0 (d_lb (i := 3) rfl rfl rfl Try.isAgg4 rfl)) ?_
  refine r0' rfl rfl rfl rfl (st0 (d_fa rfl rfl Try.underlying86 rfl Try.sizeOf83 rfl rfl)) ?_
  refine r0' rfl rfl rfl rfl (st0 (d_lb (i := 3) rfl rfl rfl Try.isAgg83 rfl)) ?_
  refine r0' rfl rfl rfl rfl (st0 (d_fa rfl rfl Try.underlying86 rfl Try.sizeOf83 rfl rfl)) ?_
  refine r0' rfl rfl rfl rfl (st0 (d_lb (i := 4) rfl rfl rfl Try.isAgg83 rfl)) ?_
  refine r1' rfl rfl (t_call (n := 6) (nat_add _ _ _ _ hx hy) rfl rfl rfl ⟨rfl, rfl, trivial⟩ Try.call77 (pre_same 1 rfl rfl rfl (pre_same 2 rfl rfl rfl pre_nil)) rfl hw) (fun v _ => ?_)
  refine r0' rfl rfl rfl rfl (st0 (d_bld (ivs := [(0, _), (1, _)]) rfl ⟨rfl, rfl, rfl, rfl, trivial⟩ (fun a w hs => b86_01 ((one_rfl rfl) a w hs) ((one_rd (i := 6) rfl rd_slp) a w hs)))) ?_
  refine r3' rfl rfl (t_stw (i := 5) rfl rfl rfl rfl rfl (by decide) rfl Try.sizeOf86 rfl rfl ⟨(one_rfl rfl), (one_rd (i := 6) rfl rd_slp), trivial⟩ rfl hw trivial) (fun _ _ => ?_)
  refine r_end ?_
  refine x_then (e_ret (x_br ?_))
  refine x_ret ?_
  exact x_end (.inl rfl) hsc (_, _) _ (fun a w hs => res1 hs Try.results69 (rv_cell (i := 5) rfl rfl Try.isAgg86 Try.sizeOf86 rfl)) rfl (sg_add1 hs (hst ▸ ht)) rfl (give_samee 6 rfl rfl rfl (by rw [abs_add1 hs (hst ▸ ht)]) give_nil)
 ·have hst : s ≠ t := by simpa using h231
  refine e_seq (e_reg (dt (d_fa rfl rfl Try.underlying86 rfl Try.sizeOf83 rfl rfl) rfl ?_))
  refine dt (d_lb (i := 3) rfl rfl rfl Try.isAgg83 rfl) rfl ?_
  refine dt (d_fa rfl rfl Try.underlying86 rfl Try.sizeOf83 rfl rfl) rfl ?_
  refine dt (d_lb (i := 4) rfl rfl rfl Try.isAgg83 rfl) rfl ?_
  refine tt (t_call (n := 6) (nat_compare _ _ _ _ hx hy) rfl rfl rfl ⟨rfl, rfl, trivial⟩ Try.call80 (pre_same 1 rfl rfl rfl (pre_same 2 rfl rfl rfl pre_nil)) rfl hw) rfl (fun r hr => ?_)
  refine dt (d_geq rfl rfl rfl) rfl ?_
  refine as_ rfl rfl (l_nil (x_then (e_cond rfl (fun h233 => ?_) (fun h233 => ?_))))
  ·have hge : y.natAbs ≤ x.natAbs := by have := hr.1; omega
   refine e_seq (e_dreg (fun _ => False) [(0, 0), (1, 0), (2, 0), (3, 0), (4, 0), (5, 0), (6, 1), (7, 0), (8, 3)] (by kernel_rfl) ?_ ?_)
   ·kernel_rfl
   refine r0' rfl rfl rfl rfl (st0 (d_fa rfl rfl Try.underlying86 rfl Try.sizeOf4 rfl rfl)) ?_
   refine r0' rfl rfl rfl rfl (st0 (d_lb (i := 3) rfl rfl rfl Try.isAgg4 rfl)) ?_
   refine r0' rfl rfl rfl rfl (st0 (d_fa rfl rfl Try.underlying86 rfl Try.sizeOf83 rfl rfl)) ?_
   refine r0' rfl rfl rfl rfl (st0 (d_lb (i := 3) rfl rfl rfl Try.isAgg83 rfl)) ?_
   refine r0' rfl rfl rfl rfl (st0 (d_fa rfl rfl Try.underlying86 rfl Try.sizeOf83 rfl rfl)) ?_
   refine r0' rfl rfl rfl rfl (st0 (d_lb (i := 4) rfl rfl rfl Try.isAgg83 rfl)) ?_
   refine r1' rfl rfl (t_call (n := 7) (nat_sub _ _ _ _ hx (by omega)) rfl rfl rfl ⟨rfl, rfl, trivial⟩ Try.call78 (pre_same 1 rfl rfl rfl (pre_same 2 rfl rfl rfl pre_nil)) rfl hw) (fun v_2 _ => ?_)
   refine r0' rfl rfl rfl rfl (st0 (d_bld (ivs := [(0, _), (1, _)]) rfl ⟨rfl, rfl, rfl, rfl, trivial⟩ (fun a w hs => b86_01 ((one_rfl rfl) a w hs) ((one_rd (i := 7) rfl rd_slp) a w hs)))) ?_
   refine r3' rfl rfl (t_stw (i := 5) rfl rfl rfl rfl rfl (by decide) rfl Try.sizeOf86 rfl rfl ⟨(one_rfl rfl), (one_rd (i := 7) rfl rd_slp), trivial⟩ rfl hw trivial) (fun _ _ => ?_)
   refine r_end ?_
   refine x_then (e_ret (x_br ?_))
   refine x_ret ?_
   exact x_end (.inl rfl) hsc (_, _) _ (fun a w hs => res1 hs Try.results69 (rv_cell (i := 5) rfl rfl Try.isAgg86 Try.sizeOf86 rfl)) rfl (sg_add2 hs ht hst hge) rfl (give_samee 7 rfl rfl rfl (by rw [abs_add2 hs ht hst hge]) give_nil)
  ·have hge : x.natAbs ≤ y.natAbs := by have := hr.1; omega
   refine e_skip ?_
   refine x_bn ?_
   refine x_then (e_seq (e_dreg (fun _ => False) [(0, 0), (1, 0), (2, 0), (3, 0), (4, 0), (5, 0), (6, 1), (7, 0), (8, 3)] (by kernel_rfl) ?_ ?_))
   ·kernel_rfl
   refine r0' rfl rfl rfl rfl (st0 (d_fa rfl rfl Try.underlying86 rfl Try.sizeOf4 rfl rfl)) ?_
   refine r0' rfl rfl rfl rfl (st0 (d_lb (i := 4) rfl rfl rfl Try.isAgg4 rfl)) ?_
   refine r0' rfl rfl rfl rfl (st0 (d_fa rfl rfl Try.underlying86 rfl Try.sizeOf83 rfl rfl)) ?_
   refine r0' rfl rfl rfl rfl (st0 (d_lb (i := 4) rfl rfl rfl Try.isAgg83 rfl)) ?_
   refine r0' rfl rfl rfl rfl (st0 (d_fa rfl rfl Try.underlying86 rfl Try.sizeOf83 rfl rfl)) ?_
   refine r0' rfl rfl rfl rfl (st0 (d_lb (i := 3) rfl rfl rfl Try.isAgg83 rfl)) ?_
   refine r1' rfl rfl (t_call (n := 8) (nat_sub _ _ _ _ hy (by omega)) rfl rfl rfl ⟨rfl, rfl, trivial⟩ Try.call78 (pre_same 2 rfl rfl rfl (pre_same 1 rfl rfl rfl pre_nil)) rfl hw) (fun v_3 _ => ?_)
   refine r0' rfl rfl rfl rfl (st0 (d_bld (ivs := [(0, _), (1, _)]) rfl ⟨rfl, rfl, rfl, rfl, trivial⟩ (fun a w hs => b86_01 ((one_rfl rfl) a w hs) ((one_rd (i := 8) rfl rd_slp) a w hs)))) ?_
   refine r3' rfl rfl (t_stw (i := 5) rfl rfl rfl rfl rfl (by decide) rfl Try.sizeOf86 rfl rfl ⟨(one_rfl rfl), (one_rd (i := 8) rfl rd_slp), trivial⟩ rfl hw trivial) (fun _ _ => ?_)
   refine r_end ?_
   refine x_then (e_ret ?_)
   exact x_end (.inl rfl) hsc (_, _) _ (fun a w hs => res1 hs Try.results69 (rv_cell (i := 5) rfl rfl Try.isAgg86 Try.sizeOf86 rfl)) rfl (by rw [Int.add_comm]; exact sg_add2 ht hs (Ne.symm hst) hge) rfl (give_samee 8 rfl rfl rfl (by rw [Int.add_comm, abs_add2 ht hs (Ne.symm hst) hge]) give_nil)
theorem wide_of (s : Bool) (x : Int) (hs : sg s x) (hx : bl x.natAbs ≤ 4294967296) : Cal Try.prog 57 #[.agg #[.bool s, .string (bstr x.natAbs)]] [] true (G := Bool × Value) (fun r => sg r.1 x) (fun r => .agg #[.bool r.1, r.2]) (fun r => [dgp r.2 x.natAbs]) := by
 refine cal_in Try.func57 rfl Try.ntmps57 rfl trivial ?_
 intro w0 sc hw hsc
 simp only [enumEnv, enumPre]
 refine e_seq (e_reg (tt (t_box (i := 1) rfl rfl rfl rfl rfl rfl hw) rfl (fun b _ => ?_)))
 refine tt (t_alloc (i := 2) rfl rfl rfl Try.zeroValue86 rfl rfl hw) rfl (fun b_2 _ => ?_)
 refine l_nil (x_then (e_seq (e_dreg (fun _ => False) [(0, 0), (1, 0), (2, 0), (3, 0), (4, 1), (5, 0), (6, 3)] (by kernel_rfl) ?_ ?_)))
 ·kernel_rfl
 refine r0' rfl rfl rfl rfl (st0 (d_fa rfl rfl Try.underlying26 rfl Try.sizeOf4 rfl rfl)) ?_
 refine r0' rfl rfl rfl rfl (st0 (d_lb (i := 1) rfl rfl rfl Try.isAgg4 rfl)) ?_
 refine r0' rfl rfl rfl rfl (st0 (d_fa rfl rfl Try.underlying26 rfl Try.sizeOf9 rfl rfl)) ?_
 refine r0' rfl rfl rfl rfl (st0 (d_lb (i := 1) rfl rfl rfl Try.isAgg9 rfl)) ?_
 refine r1' rfl rfl (t_call (n := 3) (wide_load _ hx) rfl rfl rfl ⟨rfl, trivial⟩ Try.call65 pre_nil rfl hw) (fun v _ => ?_)
 refine r0' rfl rfl rfl rfl (st0 (d_bld (ivs := [(0, _), (1, _)]) rfl ⟨rfl, rfl, rfl, rfl, trivial⟩ (fun a w hs => b86_01 ((one_rfl rfl) a w hs) ((one_rd (i := 3) rfl rd_slp) a w hs)))) ?_
 refine r3' rfl rfl (t_stw (i := 2) rfl rfl rfl rfl rfl (by decide) rfl Try.sizeOf86 rfl rfl ⟨(one_rfl rfl), (one_rd (i := 3) rfl rd_slp), trivial⟩ rfl hw trivial) (fun _ _ => ?_)
 refine r_end ?_
 refine x_then (e_ret ?_)
 exact x_end (.inl rfl) hsc (_, _) _ (fun a w hs => res1 hs Try.results57 (rv_cell (i := 2) rfl rfl Try.isAgg86 Try.sizeOf86 rfl)) rfl hs rfl (give_samee 3 rfl rfl rfl rfl give_nil)
theorem num_wide (s : Bool) (v : Value) (x : Int) (hs : sg s x) (hx : bl x.natAbs ≤ 4294967296) : Cal Try.prog 56 #[.agg #[.bool s, v]] [dgp v x.natAbs] false (G := Unit) (fun _ => True) (fun _ => wideV x) (fun _ => []) := by
 refine cal_in Try.func56 rfl Try.ntmps56 rfl ⟨rfl, trivial⟩ ?_
 intro w0 sc hw hsc
 simp only [enumEnv, enumPre]
 refine e_seq (e_reg (tt (t_box (i := 2) rfl rfl rfl rfl rfl rfl hw) rfl (fun b _ => ?_)))
 refine tt (t_alloc (i := 3) rfl rfl rfl Try.zeroValue26 rfl rfl hw) rfl (fun b_2 _ => ?_)
 refine as_ rfl rfl (l_nil (x_then (e_seq (e_seq (e_reg (dt (d_fa rfl rfl Try.underlying86 rfl Try.sizeOf83 rfl rfl) rfl ?_))))))
 refine dt (d_lb (i := 2) rfl rfl rfl Try.isAgg83 rfl) rfl ?_
 refine tt (t_call (n := 3) (nat_size _ _ (by omega)) rfl rfl rfl ⟨rfl, trivial⟩ Try.call68 (pre_same 1 rfl rfl rfl pre_nil) rfl hw) rfl (fun _ _ => ?_)
 refine dt (d_gtr rfl rfl rfl) rfl ?_
 refine l_nil (x_then (e_cond rfl (fun h219 => ?_) (fun h219 => ?_)))
 ·refine e_seq (e_reg (dt (d_bld (ivs := []) rfl trivial (fun a w hs => b26_)) rfl ?_))
  refine tt (t_stw (i := 3) rfl rfl rfl rfl rfl (by decide) rfl Try.sizeOf26 rfl rfl ⟨(one_rfl rfl), (one_rfl rfl), trivial⟩ rfl hw trivial) rfl (fun _ _ => ?_)
  refine as_ rfl rfl (l_nil (x_then (e_ret (x_ret ?_))))
  exact x_end (.inl rfl) hsc () _ (fun a w hs => res2 hs Try.results56 (rv_cell (i := 3) rfl rfl Try.isAgg26 Try.sizeOf26 rfl) rfl) (wide_full h219) trivial rfl give_nil
 ·refine e_skip ?_
  refine x_then (e_seq ?_)
  cases s
  ·refine e_dreg (fun _ => False) [(0, 0), (1, 0), (2, 0), (3, 2), (4, 2), (5, 2), (6, 2), (7, 0), (8, 0), (9, 0), (10, 1), (11, 0), (12, 3), (13, 3)] (by kernel_rfl) ?_ ?_
   ·kernel_rfl
   refine r0' rfl rfl rfl rfl (st0 (d_fa rfl rfl Try.underlying86 rfl Try.sizeOf4 rfl rfl)) ?_
   refine r0' rfl rfl rfl rfl (st0 (d_lb (i := 2) rfl rfl rfl Try.isAgg4 rfl)) ?_
   refine r0' rfl rfl rfl rfl (st0 (d_mv rfl rfl)) ?_
   refine r2 rfl rfl rfl rfl rfl rfl rfl rfl ?_
   refine r2 rfl rfl rfl rfl rfl rfl rfl rfl ?_
   refine r2 rfl rfl rfl rfl rfl rfl rfl rfl ?_
   refine r2 rfl rfl rfl rfl rfl rfl rfl rfl ?_
   refine r0' rfl rfl rfl rfl (st0 (d_pickf rfl rfl rfl)) ?_
   refine r0' rfl rfl rfl rfl (st0 (d_fa rfl rfl Try.underlying86 rfl Try.sizeOf83 rfl rfl)) ?_
   refine r0' rfl rfl rfl rfl (st0 (d_lb (i := 2) rfl rfl rfl Try.isAgg83 rfl)) ?_
   refine r1' rfl rfl (t_call (n := 3) (nat_store _ _ (by omega)) rfl rfl rfl ⟨rfl, trivial⟩ Try.call71 (pre_same 1 rfl rfl rfl pre_nil) rfl hw) (fun _ _ => ?_)
   refine r0' rfl rfl rfl rfl (st0 (d_bld (ivs := [(0, _), (1, _)]) rfl ⟨rfl, rfl, rfl, rfl, trivial⟩ (fun a w hs => b26_01 ((one_rfl rfl) a w hs) ((one_rfl rfl) a w hs)))) ?_
   refine r3' rfl rfl (t_stw (i := 3) rfl rfl rfl rfl rfl (by decide) rfl Try.sizeOf26 rfl rfl ⟨(one_rfl rfl), (one_rfl rfl), trivial⟩ rfl hw trivial) (fun _ _ => ?_)
   refine r3' rfl rfl (t_det (d_as rfl rfl) rfl rfl) (fun _ _ => ?_)
   refine r_end ?_
   refine x_then (e_ret ?_)
   exact x_end (.inl rfl) hsc () _ (fun a w hs => res2 hs Try.results56 (rv_cell (i := 3) rfl rfl Try.isAgg26 Try.sizeOf26 rfl) rfl) (by first | exact wide_okf hs h219 | exact wide_okt hs h219) trivial rfl give_nil
  ·refine e_dreg (fun _ => False) [(0, 0), (1, 0), (2, 0), (3, 0), (4, 0), (5, 0), (6, 0), (7, 0), (8, 0), (9, 0), (10, 1), (11, 0), (12, 3), (13, 3)] (by kernel_rfl) ?_ ?_
   ·kernel_rfl
   refine r0' rfl rfl rfl rfl (st0 (d_fa rfl rfl Try.underlying86 rfl Try.sizeOf4 rfl rfl)) ?_
   refine r0' rfl rfl rfl rfl (st0 (d_lb (i := 2) rfl rfl rfl Try.isAgg4 rfl)) ?_
   refine r0' rfl rfl rfl rfl (st0 (d_mv rfl rfl)) ?_
   refine r0g (st0 (d_fa rfl rfl Try.underlying86 rfl Try.sizeOf83 rfl rfl)) rfl rfl rfl rfl rfl rfl rfl ?_
   refine r0g (st0 (d_lb (i := 2) rfl rfl rfl Try.isAgg83 rfl)) rfl rfl rfl rfl rfl rfl rfl ?_
   refine r0g (st0 (d_len rfl rfl (i := 1) rfl rd_slp Try.underlying83)) rfl rfl rfl rfl rfl rfl rfl ?_
   refine r0g (st0 (d_gtr rfl rfl rfl)) rfl rfl rfl rfl rfl rfl rfl ?_
   refine r0' rfl rfl rfl rfl (st0 (d_pickt rfl rfl rfl)) ?_
   refine r0' rfl rfl rfl rfl (st0 (d_fa rfl rfl Try.underlying86 rfl Try.sizeOf83 rfl rfl)) ?_
   refine r0' rfl rfl rfl rfl (st0 (d_lb (i := 2) rfl rfl rfl Try.isAgg83 rfl)) ?_
   refine r1' rfl rfl (t_call (n := 3) (nat_store _ _ (by omega)) rfl rfl rfl ⟨rfl, trivial⟩ Try.call71 (pre_same 1 rfl rfl rfl pre_nil) rfl hw) (fun _ _ => ?_)
   refine r0' rfl rfl rfl rfl (st0 (d_bld (ivs := [(0, _), (1, _)]) rfl ⟨rfl, rfl, rfl, rfl, trivial⟩ (fun a w hs => b26_01 ((one_rfl rfl) a w hs) ((one_rfl rfl) a w hs)))) ?_
   refine r3' rfl rfl (t_stw (i := 3) rfl rfl rfl rfl rfl (by decide) rfl Try.sizeOf26 rfl rfl ⟨(one_rfl rfl), (one_rfl rfl), trivial⟩ rfl hw trivial) (fun _ _ => ?_)
   refine r3' rfl rfl (t_det (d_as rfl rfl) rfl rfl) (fun _ _ => ?_)
   refine r_end ?_
   refine x_then (e_ret ?_)
   exact x_end (.inl rfl) hsc () _ (fun a w hs => res2 hs Try.results56 (rv_cell (i := 3) rfl rfl Try.isAgg26 Try.sizeOf26 rfl) rfl) (by first | exact wide_okf hs h219 | exact wide_okt hs h219) trivial rfl give_nil
theorem num_div (s t : Bool) (v w : Value) (x y : Int) (hs : sg s x) (ht : sg t y) (hx : bl x.natAbs ≤ 3000000000) (hy : bl y.natAbs ≤ 3000000000) (hy0 : y ≠ 0) : Cal Try.prog 67 #[.agg #[.bool s, v], .agg #[.bool t, w]] [dgp v x.natAbs, dgp w y.natAbs] true (G := Bool × Value × Value) (fun r => sg r.1 (x / y)) (fun r => .tuple #[.agg #[.bool r.1, r.2.1], .agg #[.bool false, r.2.2]]) (fun r => [dgp r.2.1 (x / y).natAbs, dgp r.2.2 (x % y).natAbs]) := by
 refine cal_in Try.func67 rfl Try.ntmps67 rfl ⟨rfl, rfl, trivial⟩ ?_
 intro w0 sc hw hsc
 simp only [enumEnv, enumPre]
 have hX := lenU_bl x.natAbs
 have hY := lenU_bl y.natAbs
 have hyp : 0 < y.natAbs := by omega
 have hrl : x.natAbs % y.natAbs < y.natAbs := Nat.mod_lt _ hyp
 have hrb := bl_mono (Nat.le_of_lt hrl)
 have hqb := bl_mono (Nat.div_le_self x.natAbs y.natAbs)
 refine e_seq (e_reg (tt (t_box (i := 3) rfl rfl rfl rfl rfl rfl hw) rfl (fun b _ => ?_)))
 refine tt (t_box (i := 4) rfl rfl rfl rfl rfl rfl hw) rfl (fun b_2 _ => ?_)
 refine tt (t_alloc (i := 5) rfl rfl rfl Try.zeroValue86 rfl rfl hw) rfl (fun b_3 _ => ?_)
 refine tt (t_alloc (i := 6) rfl rfl rfl Try.zeroValue86 rfl rfl hw) rfl (fun b_4 _ => ?_)
 refine l_nil (x_then (e_seq (e_reg (dt (d_fa rfl rfl Try.underlying86 rfl Try.sizeOf83 rfl rfl) rfl ?_))))
 refine dt (d_lb (i := 3) rfl rfl rfl Try.isAgg83 rfl) rfl ?_
 refine dt (d_fa rfl rfl Try.underlying86 rfl Try.sizeOf83 rfl rfl) rfl ?_
 refine dt (d_lb (i := 4) rfl rfl rfl Try.isAgg83 rfl) rfl ?_
 refine tt (t_call (n := 7) (nat_div _ _ _ _ (by omega) (by omega) hyp) rfl rfl rfl ⟨rfl, rfl, trivial⟩ Try.call76 (pre_same 1 rfl rfl rfl (pre_same 2 rfl rfl rfl pre_nil)) rfl hw) rfl (fun g _ => ?_)
 refine mv rfl rfl (dt (d_ex rfl rfl rfl) rfl ?_)
 refine dt (d_ex rfl rfl rfl) rfl ?_
 refine as_ rfl rfl (as_ rfl rfl (l_nil (x_then (e_seq (e_seq (e_reg (dt (d_fa rfl rfl Try.underlying86 rfl Try.sizeOf4 rfl rfl) rfl ?_)))))))
 refine dt (d_lb (i := 3) rfl rfl rfl Try.isAgg4 rfl) rfl ?_
 refine mv rfl rfl (l_splitb (d := 18) rfl (fun s256 => ?_) (fun s256 => ?_))
 ·refine gdt (d_mv rfl rfl) rfl rfl rfl rfl ?_
  refine gdt (d_len rfl rfl (i := 8) rfl rd_slp Try.underlying83) rfl rfl rfl rfl ?_
  refine gdt (d_gtr rfl rfl rfl) rfl rfl rfl rfl ?_
  refine dt (d_pickt rfl rfl rfl) rfl ?_
  refine l_nil (x_then (e_cond rfl (fun h256 => ?_) (fun h256 => ?_)))
  ·subst s256
   have hR0 : 0 < x.natAbs % y.natAbs := by rcases Nat.eq_zero_or_pos (x.natAbs % y.natAbs) with h | h; (rw [h] at h256; simp [dg_zero] at h256); exact h
   have hD := divA hs ht hy0 hR0
   refine e_dreg (fun _ => False) [(0, 0), (3, 0), (4, 0), (5, 0), (1, 1), (2, 1), (6, 1), (7, 0), (8, 3)] (by kernel_rfl) ?_ ?_
   ·kernel_rfl
   refine r0' rfl rfl rfl rfl (st0 (d_mv rfl rfl)) ?_
   refine r0' rfl rfl rfl rfl (st0 (d_fa rfl rfl Try.underlying86 rfl Try.sizeOf83 rfl rfl)) ?_
   refine r0' rfl rfl rfl rfl (st0 (d_lb (i := 4) rfl rfl rfl Try.isAgg83 rfl)) ?_
   refine r0' rfl rfl rfl rfl (st0 (d_mv rfl rfl)) ?_
   refine r1' rfl rfl (t_bsg (i := 9) (ivs := [(0, _)]) (enc := encU) (dg U 1) rfl rfl rfl ⟨rfl, rfl, trivial⟩ Try.underlying83 Try.ti81 rfl rfl rfl rfl rfl rfl pU.cells rfl rfl hw) (fun v _ => ?_)
   refine r1' rfl rfl (t_call (n := 10) (nat_add _ _ _ _ (by omega) (show bl 1 ≤ 4294967296 by decide)) rfl rfl rfl ⟨rfl, rfl, trivial⟩ Try.call77 (pre_same 7 rfl rfl rfl (pre_lend 9 rfl rfl pU pre_nil)) rfl hw) (fun v_2 _ => ?_)
   refine r1' rfl rfl (t_call (n := 11) (nat_sub _ _ _ _ (by omega) (by omega)) rfl rfl rfl ⟨rfl, rfl, trivial⟩ Try.call78 (pre_same 2 rfl rfl rfl (pre_same 8 rfl rfl rfl pre_nil)) rfl hw) (fun v_3 _ => ?_)
   refine r0' rfl rfl rfl rfl (st0 (d_as rfl rfl)) ?_
   refine r3' rfl rfl (t_det (d_as rfl rfl) rfl rfl) (fun _ _ => ?_)
   refine r_end ?_
   refine x_then (e_seq (e_reg (dt (d_fa rfl rfl Try.underlying86 rfl Try.sizeOf4 rfl rfl) rfl ?_)))
   refine dt (d_lb (i := 3) rfl rfl rfl Try.isAgg4 rfl) rfl ?_
   refine dt (d_fa rfl rfl Try.underlying86 rfl Try.sizeOf4 rfl rfl) rfl ?_
   refine dt (d_lb (i := 4) rfl rfl rfl Try.isAgg4 rfl) rfl ?_
   refine dt (d_neb rfl rfl rfl Try.underlying4) rfl ?_
   refine mv rfl rfl (dt (d_bld (ivs := [(0, _), (1, _)]) rfl ⟨rfl, rfl, rfl, rfl, trivial⟩ (fun a w hs => b86_01 ((one_rfl rfl) a w hs) ((one_rd (i := 10) rfl rd_slp) a w hs))) rfl ?_)
   refine mv rfl rfl (dt (d_bld (ivs := [(0, _), (1, _)]) rfl ⟨rfl, rfl, rfl, rfl, trivial⟩ (fun a w hs => b86_01 ((one_rfl rfl) a w hs) ((one_rd (i := 11) rfl rd_slp) a w hs))) rfl ?_)
   refine tt (t_stw (i := 5) rfl rfl rfl rfl rfl (by decide) rfl Try.sizeOf86 rfl rfl ⟨(one_rfl rfl), (one_rd (i := 10) rfl rd_slp), trivial⟩ rfl hw trivial) rfl (fun _ _ => ?_)
   refine tt (t_stw (i := 6) rfl rfl rfl rfl rfl (by decide) rfl Try.sizeOf86 rfl rfl ⟨(one_rfl rfl), (one_rd (i := 11) rfl rd_slp), trivial⟩ rfl hw trivial) rfl (fun _ _ => ?_)
   refine l_nil (x_then (e_ret ?_))
   exact x_end (.inl rfl) hsc (_, _, _) _ (fun a w hs => res2 hs Try.results67 (rv_cell (i := 5) rfl rfl Try.isAgg86 Try.sizeOf86 rfl) (rv_cell (i := 6) rfl rfl Try.isAgg86 Try.sizeOf86 rfl)) rfl hD.1 rfl (give_samee 10 rfl rfl rfl (by rw [hD.2.1] <;> rfl) (give_samee 11 rfl rfl rfl (by rw [hD.2.2] <;> rfl) give_nil))
  ·have hD := divB hs ht hy0 (.inr ((dg_nil_iff two_U _).1 (by omega)))
   refine e_skip ?_
   refine x_then (e_seq (e_reg (dt (d_fa rfl rfl Try.underlying86 rfl Try.sizeOf4 rfl rfl) rfl ?_)))
   refine dt (d_lb (i := 3) rfl rfl rfl Try.isAgg4 rfl) rfl ?_
   refine dt (d_fa rfl rfl Try.underlying86 rfl Try.sizeOf4 rfl rfl) rfl ?_
   refine dt (d_lb (i := 4) rfl rfl rfl Try.isAgg4 rfl) rfl ?_
   refine dt (d_neb rfl rfl rfl Try.underlying4) rfl ?_
   refine mv rfl rfl (dt (d_bld (ivs := [(0, _), (1, _)]) rfl ⟨rfl, rfl, rfl, rfl, trivial⟩ (fun a w hs => b86_01 ((one_rfl rfl) a w hs) ((one_rd (i := 7) rfl rd_slp) a w hs))) rfl ?_)
   refine mv rfl rfl (dt (d_bld (ivs := [(0, _), (1, _)]) rfl ⟨rfl, rfl, rfl, rfl, trivial⟩ (fun a w hs => b86_01 ((one_rfl rfl) a w hs) ((one_rd (i := 8) rfl rd_slp) a w hs))) rfl ?_)
   refine tt (t_stw (i := 5) rfl rfl rfl rfl rfl (by decide) rfl Try.sizeOf86 rfl rfl ⟨(one_rfl rfl), (one_rd (i := 7) rfl rd_slp), trivial⟩ rfl hw trivial) rfl (fun _ _ => ?_)
   refine tt (t_stw (i := 6) rfl rfl rfl rfl rfl (by decide) rfl Try.sizeOf86 rfl rfl ⟨(one_rfl rfl), (one_rd (i := 8) rfl rd_slp), trivial⟩ rfl hw trivial) rfl (fun _ _ => ?_)
   refine l_nil (x_then (e_ret ?_))
   exact x_end (.inl rfl) hsc (_, _, _) _ (fun a w hs => res2 hs Try.results67 (rv_cell (i := 5) rfl rfl Try.isAgg86 Try.sizeOf86 rfl) (rv_cell (i := 6) rfl rfl Try.isAgg86 Try.sizeOf86 rfl)) rfl hD.1 rfl (give_samee 7 rfl rfl rfl (by rw [hD.2.1] <;> rfl) (give_samee 8 rfl rfl rfl (by rw [hD.2.2] <;> rfl) give_nil))
 ·have hD := divB hs ht hy0 (.inl s256)
  refine gsk rfl rfl rfl rfl rfl (gsk rfl rfl rfl rfl rfl (gsk rfl rfl rfl rfl rfl (dt (d_pickf rfl rfl rfl) rfl ?_)))
  refine l_nil (x_then (e_condf rfl ?_))
  refine e_skip ?_
  refine x_then (e_seq (e_reg (dt (d_fa rfl rfl Try.underlying86 rfl Try.sizeOf4 rfl rfl) rfl ?_)))
  refine dt (d_lb (i := 3) rfl rfl rfl Try.isAgg4 rfl) rfl ?_
  refine dt (d_fa rfl rfl Try.underlying86 rfl Try.sizeOf4 rfl rfl) rfl ?_
  refine dt (d_lb (i := 4) rfl rfl rfl Try.isAgg4 rfl) rfl ?_
  refine dt (d_neb rfl rfl rfl Try.underlying4) rfl ?_
  refine mv rfl rfl (dt (d_bld (ivs := [(0, _), (1, _)]) rfl ⟨rfl, rfl, rfl, rfl, trivial⟩ (fun a w hs => b86_01 ((one_rfl rfl) a w hs) ((one_rd (i := 7) rfl rd_slp) a w hs))) rfl ?_)
  refine mv rfl rfl (dt (d_bld (ivs := [(0, _), (1, _)]) rfl ⟨rfl, rfl, rfl, rfl, trivial⟩ (fun a w hs => b86_01 ((one_rfl rfl) a w hs) ((one_rd (i := 8) rfl rd_slp) a w hs))) rfl ?_)
  refine tt (t_stw (i := 5) rfl rfl rfl rfl rfl (by decide) rfl Try.sizeOf86 rfl rfl ⟨(one_rfl rfl), (one_rd (i := 7) rfl rd_slp), trivial⟩ rfl hw trivial) rfl (fun _ _ => ?_)
  refine tt (t_stw (i := 6) rfl rfl rfl rfl rfl (by decide) rfl Try.sizeOf86 rfl rfl ⟨(one_rfl rfl), (one_rd (i := 8) rfl rd_slp), trivial⟩ rfl hw trivial) rfl (fun _ _ => ?_)
  refine l_nil (x_then (e_ret ?_))
  exact x_end (.inl rfl) hsc (_, _, _) _ (fun a w hs => res2 hs Try.results67 (rv_cell (i := 5) rfl rfl Try.isAgg86 Try.sizeOf86 rfl) (rv_cell (i := 6) rfl rfl Try.isAgg86 Try.sizeOf86 rfl)) rfl hD.1 rfl (give_samee 7 rfl rfl rfl (by rw [hD.2.1] <;> rfl) (give_samee 8 rfl rfl rfl (by rw [hD.2.2] <;> rfl) give_nil))
end Go.Sky
namespace Go.Sky
open Go.Proofs
set_option maxRecDepth 20000
set_option maxHeartbeats 4000000
set_option linter.unusedVariables false
set_option linter.unusedSimpArgs false
theorem wide_valid (b : Bool) (s : ByteArray) : Cal Try.prog 34 #[.agg #[.bool b, .string s]] [] false (G := Unit) (fun _ => True) (fun _ => .bool (okW b s)) (fun _ => []) := by
 refine cal_in Try.func34 rfl Try.ntmps34 rfl trivial ?_
 intro w0 sc hw hsc
 simp only [enumEnv, enumPre]
 refine e_seq (e_reg (tt (t_box (i := 1) rfl rfl rfl rfl rfl rfl hw) rfl (fun b _ => ?_)))
 refine as_ rfl rfl (l_nil (x_then (e_seq (e_seq (e_reg (dt (d_fa rfl rfl Try.underlying26 rfl Try.sizeOf9 rfl rfl) rfl ?_))))))
 refine dt (d_lb (i := 1) rfl rfl rfl Try.isAgg9 rfl) rfl ?_
 refine dt (d_eqs0 rfl rfl rfl rfl) rfl ?_
 refine l_nil (x_then (e_cond rfl (fun h264 => ?_) (fun h264 => ?_)))
 ·refine e_seq (e_reg (dt (d_fa rfl rfl Try.underlying26 rfl Try.sizeOf4 rfl rfl) rfl ?_))
  refine dt (d_lb (i := 1) rfl rfl rfl Try.isAgg4 rfl) rfl ?_
  refine dt (d_notb rfl rfl) rfl ?_
  refine as_ rfl rfl (l_nil (x_then (e_ret (x_ret ?_))))
  exact x_end (.inl rfl) hsc () _ (fun a w hs => res1 hs Try.results34 rfl) (by unfold okW; rw [if_pos h264]) trivial rfl give_nil
 ·refine e_skip ?_
  refine x_then (e_seq (e_reg (dt (d_fa rfl rfl Try.underlying26 rfl Try.sizeOf9 rfl rfl) rfl ?_)))
  refine dt (d_lb (i := 1) rfl rfl rfl Try.isAgg9 rfl) rfl ?_
  refine dt (d_ixs (i := 0) rfl rfl rfl Try.underlying9 rfl (by omega)) rfl ?_
  refine dt (d_neq rfl rfl rfl) rfl ?_
  refine mv rfl rfl (l_split (d := 13) rfl (fun s267 => ?_) (fun s267 => ?_))
  ·refine gdt (d_fa rfl rfl Try.underlying26 rfl Try.sizeOf9 rfl rfl) rfl rfl rfl rfl ?_
   refine gdt (d_lb (i := 1) rfl rfl rfl Try.isAgg9 rfl) rfl rfl rfl rfl ?_
   refine gdt (d_lens rfl rfl Try.underlying9) rfl rfl rfl rfl ?_
   refine gdt (d_leq rfl rfl rfl) rfl rfl rfl rfl ?_
   refine dt (d_pickt rfl rfl rfl) rfl ?_
   refine as_ rfl rfl (l_nil (x_then (e_ret ?_)))
   exact x_end (.inl rfl) hsc () _ (fun a w hs => res1 hs Try.results34 rfl) (by unfold okW; rw [if_neg h264]; simp_all <;> omega) trivial rfl give_nil
  ·refine gsk rfl rfl rfl rfl rfl (gsk rfl rfl rfl rfl rfl (gsk rfl rfl rfl rfl rfl (gsk rfl rfl rfl rfl rfl (dt (d_pickf rfl rfl rfl) rfl ?_))))
   refine as_ rfl rfl (l_nil (x_then (e_ret ?_)))
   exact x_end (.inl rfl) hsc () _ (fun a w hs => res1 hs Try.results34 rfl) (by unfold okW; rw [if_neg h264]; simp_all <;> omega) trivial rfl give_nil
theorem wide_valid_ok (x : Int) (hx : bl x.natAbs ≤ 65536) : Cal Try.prog 34 #[wv x] [] false (G := Unit) (fun _ => True) (fun _ => .bool true) (fun _ => []) := okW_wv hx ▸ wide_valid _ _
theorem wide_both (b : Bool) (s : ByteArray) (c : Bool) (t : ByteArray) : Cal Try.prog 54 #[.agg #[.bool b, .string s], .agg #[.bool c, .string t]] [] false (G := Unit) (fun _ => True) (fun _ => .bool (okW b s && okW c t)) (fun _ => []) := by
 refine cal_in Try.func54 rfl Try.ntmps54 rfl trivial ?_
 intro w0 sc hw hsc
 simp only [enumEnv, enumPre]
 refine e_seq (e_reg (tt (t_box (i := 1) rfl rfl rfl rfl rfl rfl hw) rfl (fun b _ => ?_)))
 refine tt (t_box (i := 2) rfl rfl rfl rfl rfl rfl hw) rfl (fun b_2 _ => ?_)
 refine as_ rfl rfl (l_nil (x_then (e_seq (e_reg (dt (d_lb2 (i := 1) rfl rfl rfl Try.isAgg26 Try.sizeOf26 rfl rfl) rfl ?_)))))
 refine tt (t_call (n := 2) (wide_valid _ _) rfl rfl rfl ⟨rfl, trivial⟩ Try.call34 pre_nil rfl hw) rfl (fun _ _ => ?_)
 refine mv rfl rfl (l_splitb (d := 7) rfl (fun s271 => ?_) (fun s271 => ?_))
 ·refine gdt (d_lb2 (i := 2) rfl rfl rfl Try.isAgg26 Try.sizeOf26 rfl rfl) rfl rfl rfl rfl ?_
  refine gtt (t_call (n := 2) (wide_valid _ _) rfl rfl rfl ⟨rfl, trivial⟩ Try.call34 pre_nil rfl hw) rfl rfl rfl rfl (fun _ _ => ?_)
  refine dt (d_pickt rfl rfl rfl) rfl ?_
  refine as_ rfl rfl (l_nil (x_then (e_ret ?_)))
  exact x_end (.inl rfl) hsc () _ (fun a w hs => res1 hs Try.results54 rfl) (by simp_all) trivial rfl give_nil
 ·refine gsk rfl rfl rfl rfl rfl (gsk rfl rfl rfl rfl rfl (dt (d_pickf rfl rfl rfl) rfl ?_))
  refine as_ rfl rfl (l_nil (x_then (e_ret ?_)))
  exact x_end (.inl rfl) hsc () _ (fun a w hs => res1 hs Try.results54 rfl) (by simp_all) trivial rfl give_nil
theorem wide_both_ok (x y : Int) (hx : bl x.natAbs ≤ 65536) (hy : bl y.natAbs ≤ 65536) : Cal Try.prog 54 #[wv x, wv y] [] false (G := Unit) (fun _ => True) (fun _ => .bool true) (fun _ => []) := by
 have h := wide_both (decide (x < 0)) (bstr x.natAbs) (decide (y < 0)) (bstr y.natAbs)
 rw [okW_wv hx, okW_wv hy] at h; exact h
theorem wide_sign (x : Int) (hx : bl x.natAbs ≤ 65536) : Cal Try.prog 35 #[wv x] [] false (G := Unit) (fun _ => True) (fun _ => .int .i64 x.sign) (fun _ => []) := by
 refine cal_in Try.func35 rfl Try.ntmps35 rfl trivial ?_
 intro w0 sc hw hsc
 simp only [enumEnv, enumPre]
 refine e_seq (e_reg (tt (t_box (i := 1) rfl rfl rfl rfl rfl rfl hw) rfl (fun b _ => ?_)))
 refine as_ rfl rfl (l_nil (x_then (e_seq (e_seq (e_reg (dt (d_lb2 (i := 1) rfl rfl rfl Try.isAgg26 Try.sizeOf26 rfl rfl) rfl ?_))))))
 refine tt (t_call (n := 1) (wide_valid_ok _ (by assumption)) rfl rfl rfl ⟨rfl, trivial⟩ Try.call34 pre_nil rfl hw) rfl (fun _ _ => ?_)
 refine dt (d_notb rfl rfl) rfl ?_
 refine l_nil (x_then (e_condf rfl ?_))
 refine e_skip ?_
 refine x_then (e_seq (e_reg (dt (d_lb2 (i := 1) rfl rfl rfl Try.isAgg26 Try.sizeOf26 rfl rfl) rfl ?_)))
 refine tt (t_call (n := 2) (wide_of _ _ (sg_dec _) (by omega)) rfl rfl rfl ⟨rfl, trivial⟩ Try.call57 pre_nil rfl hw) rfl (fun g hg => ?_)
 refine tt (t_call (n := 2) (num_sign _ _ _ (by assumption) (by omega)) rfl rfl rfl ⟨rfl, trivial⟩ Try.call58 (pre_same 2 rfl rfl rfl pre_nil) rfl hw) rfl (fun _ _ => ?_)
 refine as_ rfl rfl (l_nil (x_then (e_ret ?_)))
 exact x_end (.inl rfl) hsc () _ (fun a w hs => res1 hs Try.results35 rfl) rfl trivial rfl give_nil
theorem wide_len (x : Int) (hx : bl x.natAbs ≤ 65536) : Cal Try.prog 51 #[wv x] [] false (G := Unit) (fun _ => True) (fun _ => .int .i64 (bl x.natAbs : Int)) (fun _ => []) := by
 refine cal_in Try.func51 rfl Try.ntmps51 rfl trivial ?_
 intro w0 sc hw hsc
 simp only [enumEnv, enumPre]
 refine e_seq (e_reg (tt (t_box (i := 1) rfl rfl rfl rfl rfl rfl hw) rfl (fun b _ => ?_)))
 refine as_ rfl rfl (l_nil (x_then (e_seq (e_seq (e_reg (dt (d_lb2 (i := 1) rfl rfl rfl Try.isAgg26 Try.sizeOf26 rfl rfl) rfl ?_))))))
 refine tt (t_call (n := 1) (wide_valid_ok _ (by assumption)) rfl rfl rfl ⟨rfl, trivial⟩ Try.call34 pre_nil rfl hw) rfl (fun _ _ => ?_)
 refine dt (d_notb rfl rfl) rfl ?_
 refine l_nil (x_then (e_condf rfl ?_))
 refine e_skip ?_
 refine x_then (e_seq (e_reg (dt (d_fa rfl rfl Try.underlying26 rfl Try.sizeOf9 rfl rfl) rfl ?_)))
 refine dt (d_lb (i := 1) rfl rfl rfl Try.isAgg9 rfl) rfl ?_
 refine tt (t_call (n := 2) (wide_load _ (by omega)) rfl rfl rfl ⟨rfl, trivial⟩ Try.call65 pre_nil rfl hw) rfl (fun v _ => ?_)
 refine tt (t_call (n := 2) (nat_size _ _ (by omega)) rfl rfl rfl ⟨rfl, trivial⟩ Try.call68 (pre_same 2 rfl rfl rfl pre_nil) rfl hw) rfl (fun _ _ => ?_)
 refine as_ rfl rfl (l_nil (x_then (e_ret ?_)))
 exact x_end (.inl rfl) hsc () _ (fun a w hs => res1 hs Try.results51 rfl) rfl trivial rfl give_nil
theorem wide_add (x y : Int) (hx : bl x.natAbs ≤ 65536) (hy : bl y.natAbs ≤ 65536) : Cal Try.prog 52 #[wv x, wv y] [] false (G := Unit) (fun _ => True) (fun _ => wideV (x + y)) (fun _ => []) := by
 refine cal_in Try.func52 rfl Try.ntmps52 rfl trivial ?_
 intro w0 sc hw hsc
 simp only [enumEnv, enumPre]
 have hb := bl_iadd x y
 refine e_seq (e_reg (tt (t_box (i := 1) rfl rfl rfl rfl rfl rfl hw) rfl (fun b _ => ?_)))
 refine tt (t_box (i := 2) rfl rfl rfl rfl rfl rfl hw) rfl (fun b_2 _ => ?_)
 refine tt (t_alloc (i := 3) rfl rfl rfl Try.zeroValue26 rfl rfl hw) rfl (fun b_3 _ => ?_)
 refine as_ rfl rfl (l_nil (x_then (e_seq (e_seq (e_reg (dt (d_lb2 (i := 1) rfl rfl rfl Try.isAgg26 Try.sizeOf26 rfl rfl) rfl ?_))))))
 refine dt (d_lb2 (i := 2) rfl rfl rfl Try.isAgg26 Try.sizeOf26 rfl rfl) rfl ?_
 refine tt (t_call (n := 3) (wide_both_ok _ _ (by assumption) (by assumption)) rfl rfl rfl ⟨rfl, rfl, trivial⟩ Try.call54 pre_nil rfl hw) rfl (fun _ _ => ?_)
 refine dt (d_notb rfl rfl) rfl ?_
 refine l_nil (x_then (e_condf rfl ?_))
 refine e_skip ?_
 refine x_then (e_seq (e_dreg (fun _ => False) [(0, 0), (2, 0), (1, 1), (3, 1), (4, 1), (5, 1), (6, 0), (7, 0), (8, 3), (9, 3)] (by kernel_rfl) ?_ ?_))
 ·kernel_rfl
 refine r0' rfl rfl rfl rfl (st0 (d_lb2 (i := 1) rfl rfl rfl Try.isAgg26 Try.sizeOf26 rfl rfl)) ?_
 refine r0' rfl rfl rfl rfl (st0 (d_lb2 (i := 2) rfl rfl rfl Try.isAgg26 Try.sizeOf26 rfl rfl)) ?_
 refine r1' rfl rfl (t_call (n := 4) (wide_of _ _ (sg_dec _) (by omega)) rfl rfl rfl ⟨rfl, trivial⟩ Try.call57 pre_nil rfl hw) (fun g hg => ?_)
 refine r1' rfl rfl (t_call (n := 5) (wide_of _ _ (sg_dec _) (by omega)) rfl rfl rfl ⟨rfl, trivial⟩ Try.call57 pre_nil rfl hw) (fun g_2 hg_2 => ?_)
 refine r1' rfl rfl (t_call (n := 6) (num_add _ _ _ _ _ _ (by assumption) (by assumption) (by omega) (by omega)) rfl rfl rfl ⟨rfl, rfl, trivial⟩ Try.call69 (pre_same 4 rfl rfl rfl (pre_same 5 rfl rfl rfl pre_nil)) rfl hw) (fun g_3 hg_3 => ?_)
 refine r1' rfl rfl (t_call (n := 6) (num_wide _ _ _ (by assumption) (by omega)) rfl rfl rfl ⟨rfl, trivial⟩ Try.call56 (pre_same 6 rfl rfl rfl pre_nil) rfl hw) (fun _ _ => ?_)
 refine r0' rfl rfl rfl rfl (st0 (d_ex rfl rfl rfl)) ?_
 refine r0' rfl rfl rfl rfl (st0 (d_ex rfl rfl rfl)) ?_
 refine r3' rfl rfl (t_stw (i := 3) rfl rfl rfl rfl rfl (by decide) rfl Try.sizeOf26 rfl rfl ⟨(one_rfl rfl), (one_rfl rfl), trivial⟩ rfl hw trivial) (fun _ _ => ?_)
 refine r3' rfl rfl (t_det (d_as rfl rfl) rfl rfl) (fun _ _ => ?_)
 refine r_end ?_
 refine x_then (e_ret ?_)
 exact x_end (.inl rfl) hsc () _ (fun a w hs => res2 hs Try.results52 (rv_cell (i := 3) rfl rfl Try.isAgg26 Try.sizeOf26 rfl) rfl) rfl trivial rfl give_nil
theorem wide_sub (x y : Int) (hx : bl x.natAbs ≤ 65536) (hy : bl y.natAbs ≤ 65536) : Cal Try.prog 59 #[wv x, wv y] [] false (G := Unit) (fun _ => True) (fun _ => wideV (x - y)) (fun _ => []) := by
 refine cal_in Try.func59 rfl Try.ntmps59 rfl trivial ?_
 intro w0 sc hw hsc
 simp only [enumEnv, enumPre]
 have hb := bl_isub x y
 have hny := bl_neg y
 refine e_seq (e_reg (tt (t_box (i := 1) rfl rfl rfl rfl rfl rfl hw) rfl (fun b _ => ?_)))
 refine tt (t_box (i := 2) rfl rfl rfl rfl rfl rfl hw) rfl (fun b_2 _ => ?_)
 refine tt (t_alloc (i := 3) rfl rfl rfl Try.zeroValue26 rfl rfl hw) rfl (fun b_3 _ => ?_)
 refine as_ rfl rfl (l_nil (x_then (e_seq (e_seq (e_reg (dt (d_lb2 (i := 1) rfl rfl rfl Try.isAgg26 Try.sizeOf26 rfl rfl) rfl ?_))))))
 refine dt (d_lb2 (i := 2) rfl rfl rfl Try.isAgg26 Try.sizeOf26 rfl rfl) rfl ?_
 refine tt (t_call (n := 3) (wide_both_ok _ _ (by assumption) (by assumption)) rfl rfl rfl ⟨rfl, rfl, trivial⟩ Try.call54 pre_nil rfl hw) rfl (fun _ _ => ?_)
 refine dt (d_notb rfl rfl) rfl ?_
 refine l_nil (x_then (e_condf rfl ?_))
 refine e_skip ?_
 refine x_then (e_seq (e_dreg (fun _ => False) [(0, 0), (2, 0), (1, 1), (3, 1), (4, 1), (5, 1), (6, 1), (7, 0), (8, 0), (9, 3), (10, 3)] (by kernel_rfl) ?_ ?_))
 ·kernel_rfl
 refine r0' rfl rfl rfl rfl (st0 (d_lb2 (i := 1) rfl rfl rfl Try.isAgg26 Try.sizeOf26 rfl rfl)) ?_
 refine r0' rfl rfl rfl rfl (st0 (d_lb2 (i := 2) rfl rfl rfl Try.isAgg26 Try.sizeOf26 rfl rfl)) ?_
 refine r1' rfl rfl (t_call (n := 4) (wide_of _ _ (sg_dec _) (by omega)) rfl rfl rfl ⟨rfl, trivial⟩ Try.call57 pre_nil rfl hw) (fun g hg => ?_)
 refine r1' rfl rfl (t_call (n := 5) (wide_of _ _ (sg_dec _) (by omega)) rfl rfl rfl ⟨rfl, trivial⟩ Try.call57 pre_nil rfl hw) (fun g_2 hg_2 => ?_)
 refine r1' rfl rfl (t_call (n := 6) (num_neg _ _ _ (by assumption)) rfl rfl rfl ⟨rfl, trivial⟩ Try.call72 (pre_same 5 rfl rfl rfl pre_nil) rfl hw) (fun g_3 hg_3 => ?_)
 refine r1' rfl rfl (t_call (n := 7) (num_add _ _ _ _ _ _ (by assumption) (by assumption) (by omega) (by omega)) rfl rfl rfl ⟨rfl, rfl, trivial⟩ Try.call69 (pre_same 4 rfl rfl rfl (pre_same 6 rfl rfl rfl pre_nil)) rfl hw) (fun g_4 hg_4 => ?_)
 refine r1' rfl rfl (t_call (n := 7) (num_wide _ _ _ (by assumption) (by rw [← Int.sub_eq_add_neg]; omega)) rfl rfl rfl ⟨rfl, trivial⟩ Try.call56 (pre_same 7 rfl rfl rfl pre_nil) rfl hw) (fun _ _ => ?_)
 refine r0' rfl rfl rfl rfl (st0 (d_ex rfl rfl rfl)) ?_
 refine r0' rfl rfl rfl rfl (st0 (d_ex rfl rfl rfl)) ?_
 refine r3' rfl rfl (t_stw (i := 3) rfl rfl rfl rfl rfl (by decide) rfl Try.sizeOf26 rfl rfl ⟨(one_rfl rfl), (one_rfl rfl), trivial⟩ rfl hw trivial) (fun _ _ => ?_)
 refine r3' rfl rfl (t_det (d_as rfl rfl) rfl rfl) (fun _ _ => ?_)
 refine r_end ?_
 refine x_then (e_ret ?_)
 exact x_end (.inl rfl) hsc () _ (fun a w hs => res2 hs Try.results59 (rv_cell (i := 3) rfl rfl Try.isAgg26 Try.sizeOf26 rfl) rfl) (by rw [Int.sub_eq_add_neg] <;> rfl) trivial rfl give_nil
theorem wide_mul (x y : Int) (hx : bl x.natAbs ≤ 65536) (hy : bl y.natAbs ≤ 65536) : Cal Try.prog 53 #[wv x, wv y] [] false (G := Unit) (fun _ => True) (fun _ => wideV (x * y)) (fun _ => []) := by
 refine cal_in Try.func53 rfl Try.ntmps53 rfl trivial ?_
 intro w0 sc hw hsc
 simp only [enumEnv, enumPre]
 have hb := bl_imul x y
 refine e_seq (e_reg (tt (t_box (i := 1) rfl rfl rfl rfl rfl rfl hw) rfl (fun b _ => ?_)))
 refine tt (t_box (i := 2) rfl rfl rfl rfl rfl rfl hw) rfl (fun b_2 _ => ?_)
 refine tt (t_alloc (i := 3) rfl rfl rfl Try.zeroValue26 rfl rfl hw) rfl (fun b_3 _ => ?_)
 refine as_ rfl rfl (l_nil (x_then (e_seq (e_seq (e_reg (dt (d_lb2 (i := 1) rfl rfl rfl Try.isAgg26 Try.sizeOf26 rfl rfl) rfl ?_))))))
 refine dt (d_lb2 (i := 2) rfl rfl rfl Try.isAgg26 Try.sizeOf26 rfl rfl) rfl ?_
 refine tt (t_call (n := 3) (wide_both_ok _ _ (by assumption) (by assumption)) rfl rfl rfl ⟨rfl, rfl, trivial⟩ Try.call54 pre_nil rfl hw) rfl (fun _ _ => ?_)
 refine dt (d_notb rfl rfl) rfl ?_
 refine l_nil (x_then (e_condf rfl ?_))
 refine e_skip ?_
 refine x_then (e_seq (e_dreg (fun _ => False) [(0, 0), (2, 0), (1, 1), (3, 1), (4, 1), (5, 1), (6, 0), (7, 0), (8, 3), (9, 3)] (by kernel_rfl) ?_ ?_))
 ·kernel_rfl
 refine r0' rfl rfl rfl rfl (st0 (d_lb2 (i := 1) rfl rfl rfl Try.isAgg26 Try.sizeOf26 rfl rfl)) ?_
 refine r0' rfl rfl rfl rfl (st0 (d_lb2 (i := 2) rfl rfl rfl Try.isAgg26 Try.sizeOf26 rfl rfl)) ?_
 refine r1' rfl rfl (t_call (n := 4) (wide_of _ _ (sg_dec _) (by omega)) rfl rfl rfl ⟨rfl, trivial⟩ Try.call57 pre_nil rfl hw) (fun g hg => ?_)
 refine r1' rfl rfl (t_call (n := 5) (wide_of _ _ (sg_dec _) (by omega)) rfl rfl rfl ⟨rfl, trivial⟩ Try.call57 pre_nil rfl hw) (fun g_2 hg_2 => ?_)
 refine r1' rfl rfl (t_call (n := 6) (num_mul _ _ _ _ _ _ (by assumption) (by assumption) (by omega) (by omega)) rfl rfl rfl ⟨rfl, rfl, trivial⟩ Try.call70 (pre_same 4 rfl rfl rfl (pre_same 5 rfl rfl rfl pre_nil)) rfl hw) (fun g_3 hg_3 => ?_)
 refine r1' rfl rfl (t_call (n := 6) (num_wide _ _ _ (by assumption) (by omega)) rfl rfl rfl ⟨rfl, trivial⟩ Try.call56 (pre_same 6 rfl rfl rfl pre_nil) rfl hw) (fun _ _ => ?_)
 refine r0' rfl rfl rfl rfl (st0 (d_ex rfl rfl rfl)) ?_
 refine r0' rfl rfl rfl rfl (st0 (d_ex rfl rfl rfl)) ?_
 refine r3' rfl rfl (t_stw (i := 3) rfl rfl rfl rfl rfl (by decide) rfl Try.sizeOf26 rfl rfl ⟨(one_rfl rfl), (one_rfl rfl), trivial⟩ rfl hw trivial) (fun _ _ => ?_)
 refine r3' rfl rfl (t_det (d_as rfl rfl) rfl rfl) (fun _ _ => ?_)
 refine r_end ?_
 refine x_then (e_ret ?_)
 exact x_end (.inl rfl) hsc () _ (fun a w hs => res2 hs Try.results53 (rv_cell (i := 3) rfl rfl Try.isAgg26 Try.sizeOf26 rfl) rfl) rfl trivial rfl give_nil
theorem wide_gcd (x y : Int) (hx : bl x.natAbs ≤ 65536) (hy : bl y.natAbs ≤ 65536) : Cal Try.prog 48 #[wv x, wv y] [] false (G := Unit) (fun _ => True) (fun _ => wideV (Int.gcd x y : Int)) (fun _ => []) := by
 refine cal_in Try.func48 rfl Try.ntmps48 rfl trivial ?_
 intro w0 sc hw hsc
 simp only [enumEnv, enumPre]
 have hb := bl_gcd x.natAbs y.natAbs
 refine e_seq (e_reg (tt (t_box (i := 1) rfl rfl rfl rfl rfl rfl hw) rfl (fun b _ => ?_)))
 refine tt (t_box (i := 2) rfl rfl rfl rfl rfl rfl hw) rfl (fun b_2 _ => ?_)
 refine tt (t_alloc (i := 3) rfl rfl rfl Try.zeroValue26 rfl rfl hw) rfl (fun b_3 _ => ?_)
 refine as_ rfl rfl (l_nil (x_then (e_seq (e_seq (e_reg (dt (d_lb2 (i := 1) rfl rfl rfl Try.isAgg26 Try.sizeOf26 rfl rfl) rfl ?_))))))
 refine dt (d_lb2 (i := 2) rfl rfl rfl Try.isAgg26 Try.sizeOf26 rfl rfl) rfl ?_
 refine tt (t_call (n := 3) (wide_both_ok _ _ (by assumption) (by assumption)) rfl rfl rfl ⟨rfl, rfl, trivial⟩ Try.call54 pre_nil rfl hw) rfl (fun _ _ => ?_)
 refine dt (d_notb rfl rfl) rfl ?_
 refine l_nil (x_then (e_condf rfl ?_))
 refine e_skip ?_
 refine x_then (e_seq (e_dreg (fun _ => False) [(0, 0), (1, 0), (3, 0), (4, 0), (2, 1), (5, 1), (6, 1), (7, 0), (8, 1), (9, 0), (10, 0), (11, 3), (12, 3)] (by kernel_rfl) ?_ ?_))
 ·kernel_rfl
 refine r0' rfl rfl rfl rfl (st0 (d_fa rfl rfl Try.underlying26 rfl Try.sizeOf9 rfl rfl)) ?_
 refine r0' rfl rfl rfl rfl (st0 (d_lb (i := 1) rfl rfl rfl Try.isAgg9 rfl)) ?_
 refine r0' rfl rfl rfl rfl (st0 (d_fa rfl rfl Try.underlying26 rfl Try.sizeOf9 rfl rfl)) ?_
 refine r0' rfl rfl rfl rfl (st0 (d_lb (i := 2) rfl rfl rfl Try.isAgg9 rfl)) ?_
 refine r1' rfl rfl (t_call (n := 4) (wide_load _ (by omega)) rfl rfl rfl ⟨rfl, trivial⟩ Try.call65 pre_nil rfl hw) (fun v _ => ?_)
 refine r1' rfl rfl (t_call (n := 5) (wide_load _ (by omega)) rfl rfl rfl ⟨rfl, trivial⟩ Try.call65 pre_nil rfl hw) (fun v_2 _ => ?_)
 refine r1' rfl rfl (t_call (n := 6) (nat_gcd _ _ _ _ (by omega) (by omega)) rfl rfl rfl ⟨rfl, rfl, trivial⟩ Try.call66 (pre_same 4 rfl rfl rfl (pre_same 5 rfl rfl rfl pre_nil)) rfl hw) (fun v_3 _ => ?_)
 refine r0' rfl rfl rfl rfl (st0 (d_bld (ivs := [(0, _), (1, _)]) rfl ⟨rfl, rfl, rfl, rfl, trivial⟩ (fun a w hs => b86_01 ((one_rfl rfl) a w hs) ((one_rd (i := 6) rfl rd_slp) a w hs)))) ?_
 refine r1' rfl rfl (t_call (n := 6) (num_wide false _ (Int.gcd x y : Int) (by simp [sg]) (by show bl (Nat.gcd x.natAbs y.natAbs) ≤ _; omega)) rfl rfl rfl ⟨rfl, trivial⟩ Try.call56 (pre_same 6 rfl rfl rfl pre_nil) rfl hw) (fun _ _ => ?_)
 refine r0' rfl rfl rfl rfl (st0 (d_ex rfl rfl rfl)) ?_
 refine r0' rfl rfl rfl rfl (st0 (d_ex rfl rfl rfl)) ?_
 refine r3' rfl rfl (t_stw (i := 3) rfl rfl rfl rfl rfl (by decide) rfl Try.sizeOf26 rfl rfl ⟨(one_rfl rfl), (one_rfl rfl), trivial⟩ rfl hw trivial) (fun _ _ => ?_)
 refine r3' rfl rfl (t_det (d_as rfl rfl) rfl rfl) (fun _ _ => ?_)
 refine r_end ?_
 refine x_then (e_ret ?_)
 exact x_end (.inl rfl) hsc () _ (fun a w hs => res2 hs Try.results48 (rv_cell (i := 3) rfl rfl Try.isAgg26 Try.sizeOf26 rfl) rfl) rfl trivial rfl give_nil
theorem wide_quo (x y : Int) (hx : bl x.natAbs ≤ 65536) (hy : bl y.natAbs ≤ 65536) (hy0 : y ≠ 0) : Cal Try.prog 50 #[wv x, wv y] [] false (G := Unit) (fun _ => True) (fun _ => .tuple #[wv (clip (x / y)), wv (clip (x % y)), .int .i64 0]) (fun _ => []) := by
 refine cal_in Try.func50 rfl Try.ntmps50 rfl trivial ?_
 intro w0 sc hw hsc
 simp only [enumEnv, enumPre]
 have hb := bl_idiv x y
 have hb2 := bl_imod x y hy0
 refine e_seq (e_reg (tt (t_box (i := 1) rfl rfl rfl rfl rfl rfl hw) rfl (fun b _ => ?_)))
 refine tt (t_box (i := 2) rfl rfl rfl rfl rfl rfl hw) rfl (fun b_2 _ => ?_)
 refine tt (t_alloc (i := 3) rfl rfl rfl Try.zeroValue26 rfl rfl hw) rfl (fun b_3 _ => ?_)
 refine tt (t_alloc (i := 4) rfl rfl rfl Try.zeroValue26 rfl rfl hw) rfl (fun b_4 _ => ?_)
 refine as_ rfl rfl (l_nil (x_then (e_seq (e_seq (e_reg (dt (d_lb2 (i := 1) rfl rfl rfl Try.isAgg26 Try.sizeOf26 rfl rfl) rfl ?_))))))
 refine dt (d_lb2 (i := 2) rfl rfl rfl Try.isAgg26 Try.sizeOf26 rfl rfl) rfl ?_
 refine tt (t_call (n := 4) (wide_both_ok _ _ (by assumption) (by assumption)) rfl rfl rfl ⟨rfl, rfl, trivial⟩ Try.call54 pre_nil rfl hw) rfl (fun _ _ => ?_)
 refine dt (d_notb rfl rfl) rfl ?_
 refine l_nil (x_then (e_condf rfl ?_))
 refine e_skip ?_
 refine x_then (e_seq (e_seq (e_reg (dt (d_fa rfl rfl Try.underlying26 rfl Try.sizeOf9 rfl rfl) rfl ?_))))
 refine dt (d_lb (i := 2) rfl rfl rfl Try.isAgg9 rfl) rfl ?_
 refine dt (d_eqs0 rfl rfl rfl rfl) rfl ?_
 refine l_nil (x_then (e_cond rfl (fun h337 => ?_) (fun h337 => ?_)))
 ·rw [bstr_size] at h337
  exfalso; exact hy0 (by have := (dg_nil_iff (by omega : 2 ≤ 256) y.natAbs).1 h337; omega)
 ·refine e_skip ?_
  refine x_then (e_jn [(4, _), (5, _)] [(0, _), (1, _), (2, _), (3, _), (4, _)] (fun (q : Bool × Value × Value × Nat × Nat) => [(7, .pointer (some ⟨q.2.2.2.1, 0, none⟩)), (8, .pointer (some ⟨q.2.2.2.2, 0, none⟩))]) (fun (q : Bool × Value × Value × Nat × Nat) => [(84, dgp q.2.1 (x / y).natAbs), (85, dgp q.2.2.1 (x % y).natAbs), (86, box q.2.2.2.1 86 #[.bool q.1, q.2.1]), (87, box q.2.2.2.2 86 #[.bool false, q.2.2.1])]) (fun (q : Bool × Value × Value × Nat × Nat) => (sg q.1 (x / y))) ⟨rfl, rfl, trivial⟩ ⟨rfl, rfl, rfl, rfl, rfl, trivial⟩ ?_ ?_)
  ·refine e_dregf [1, 2] [11] (by kernel_rfl) ?_
   refine a_lin' (n := 10) [(0, 0), (2, 0)] (by kernel_rfl) ?_
   refine r0' rfl rfl rfl rfl (stf (d_lb2 (i := 1) rfl rfl rfl Try.isAgg26 Try.sizeOf26 rfl rfl) ⟨rfl, rfl, trivial⟩) ?_
   refine r0' rfl rfl rfl rfl (stf (d_lb2 (i := 2) rfl rfl rfl Try.isAgg26 Try.sizeOf26 rfl rfl) ⟨rfl, rfl, trivial⟩) ?_
   refine r_fin ?_
   refine a_br3 (n := 9) 1 8 9 (by kernel_rfl) ?_ ?_ ?_
   ·refine aact' rfl rfl (t_call (n := 81) (wide_of _ _ (sg_dec _) (by omega)) rfl rfl rfl ⟨rfl, trivial⟩ Try.call57 pre_nil rfl hw) (fun g hg => ?_)
    refine a_br3 (n := 8) 3 8 9 (by kernel_rfl) ?_ ?_ ?_
    ·refine aact' rfl rfl (t_call (n := 82) (wide_of _ _ (sg_dec _) (by omega)) rfl rfl rfl ⟨rfl, trivial⟩ Try.call57 pre_nil rfl hw) (fun g_2 hg_2 => ?_)
     refine a_br3 (n := 7) 4 8 9 (by kernel_rfl) ?_ ?_ ?_
     ·refine aact' rfl rfl (t_call (n := 84) (num_div _ _ _ _ _ _ (by assumption) (by assumption) (by omega) (by omega) hy0) rfl rfl rfl ⟨rfl, rfl, trivial⟩ Try.call67 (pre_same 81 rfl rfl rfl (pre_same 82 rfl rfl rfl pre_nil)) rfl hw) (fun g_3 hg_3 => ?_)
      refine a_lin' (n := 4) [(5, 0), (6, 0), (7, 0)] (by kernel_rfl) ?_
      refine r0' rfl rfl rfl rfl (stf (d_mv rfl rfl) ⟨rfl, rfl, trivial⟩) ?_
      refine r0' rfl rfl rfl rfl (stf (d_ex rfl rfl rfl) ⟨rfl, rfl, trivial⟩) ?_
      refine r0' rfl rfl rfl rfl (stf (d_ex rfl rfl rfl) ⟨rfl, rfl, trivial⟩) ?_
      refine r_fin ?_
      refine a_br2 (n := 3) 8 9 (by kernel_rfl) ?_ ?_
      ·refine aact' rfl rfl (t_allocf (i := 86) rfl rfl rfl Try.zeroValue86 rfl rfl hw ⟨rfl, rfl, trivial⟩) (fun b_5 hoff => ?_)
       refine a_lin' (n := 0) [(9, 1), (10, 1), (11, 3)] (by kernel_rfl) ?_
       refine r1' rfl rfl (t_allocf (i := 87) rfl rfl rfl Try.zeroValue86 rfl rfl hw ⟨rfl, rfl, trivial⟩) (fun b_6 hoff_2 => ?_)
       refine r1' rfl rfl (t_stw (i := 86) rfl rfl rfl rfl rfl (by decide) rfl Try.sizeOf86 rfl rfl ⟨(one_rfl rfl), (one_rd (i := 84) rfl rd_slp), trivial⟩ rfl hw hoff) (fun _ _ => ?_)
       refine r3' rfl rfl (t_stw (i := 87) rfl rfl rfl rfl rfl (by decide) rfl Try.sizeOf86 rfl rfl ⟨(one_rfl rfl), (one_rd (i := 85) rfl rd_slp), trivial⟩ rfl hw trivial) (fun _ _ => ?_)
       refine r_fin ?_
       refine a_done (by kernel_rfl) ?_
       exact x_jn (_, _, _, _, _) (by assumption) ⟨rfl, rfl, rfl, rfl, trivial⟩ ⟨rfl, rfl, rfl, rfl, rfl, rfl, rfl, rfl, rfl, trivial⟩
      ·refine aact' rfl rfl (t_allocf (i := 87) rfl rfl rfl Try.zeroValue86 rfl rfl hw ⟨rfl, rfl, trivial⟩) (fun b_7 hoff_3 => ?_)
       refine a_lin' (n := 0) [(8, 1), (10, 1), (11, 3)] (by kernel_rfl) ?_
       refine r1' rfl rfl (t_allocf (i := 86) rfl rfl rfl Try.zeroValue86 rfl rfl hw ⟨rfl, rfl, trivial⟩) (fun b_8 hoff_4 => ?_)
       refine r1' rfl rfl (t_stw (i := 86) rfl rfl rfl rfl rfl (by decide) rfl Try.sizeOf86 rfl rfl ⟨(one_rfl rfl), (one_rd (i := 84) rfl rd_slp), trivial⟩ rfl hw hoff_4) (fun _ _ => ?_)
       refine r3' rfl rfl (t_stw (i := 87) rfl rfl rfl rfl rfl (by decide) rfl Try.sizeOf86 rfl rfl ⟨(one_rfl rfl), (one_rd (i := 85) rfl rd_slp), trivial⟩ rfl hw trivial) (fun _ _ => ?_)
       refine r_fin ?_
       refine a_done (by kernel_rfl) ?_
       exact x_jn (_, _, _, _, _) (by assumption) ⟨rfl, rfl, rfl, rfl, trivial⟩ ⟨rfl, rfl, rfl, rfl, rfl, rfl, rfl, rfl, rfl, trivial⟩
     ·refine aact' rfl rfl (t_allocf (i := 86) rfl rfl rfl Try.zeroValue86 rfl rfl hw ⟨rfl, rfl, trivial⟩) (fun b_9 hoff_5 => ?_)
      refine a_br2 (n := 6) 4 9 (by kernel_rfl) ?_ ?_
      ·refine aact' rfl rfl (t_call (n := 84) (num_div _ _ _ _ _ _ (by assumption) (by assumption) (by omega) (by omega) hy0) rfl rfl rfl ⟨rfl, rfl, trivial⟩ Try.call67 (pre_same 81 rfl rfl rfl (pre_same 82 rfl rfl rfl pre_nil)) rfl hw) (fun g_4 hg_4 => ?_)
       refine a_lin' (n := 0) [(5, 0), (6, 0), (7, 0), (9, 1), (10, 1), (11, 3)] (by kernel_rfl) ?_
       refine r0' rfl rfl rfl rfl (stf (d_mv rfl rfl) ⟨rfl, rfl, trivial⟩) ?_
       refine r0' rfl rfl rfl rfl (stf (d_ex rfl rfl rfl) ⟨rfl, rfl, trivial⟩) ?_
       refine r0' rfl rfl rfl rfl (stf (d_ex rfl rfl rfl) ⟨rfl, rfl, trivial⟩) ?_
       refine r1' rfl rfl (t_allocf (i := 87) rfl rfl rfl Try.zeroValue86 rfl rfl hw ⟨rfl, rfl, trivial⟩) (fun b_10 hoff_6 => ?_)
       refine r1' rfl rfl (t_stw (i := 86) rfl rfl rfl rfl rfl (by decide) rfl Try.sizeOf86 rfl rfl ⟨(one_rfl rfl), (one_rd (i := 84) rfl rd_slp), trivial⟩ rfl hw hoff_5) (fun _ _ => ?_)
       refine r3' rfl rfl (t_stw (i := 87) rfl rfl rfl rfl rfl (by decide) rfl Try.sizeOf86 rfl rfl ⟨(one_rfl rfl), (one_rd (i := 85) rfl rd_slp), trivial⟩ rfl hw trivial) (fun _ _ => ?_)
       refine r_fin ?_
       refine a_done (by kernel_rfl) ?_
       exact x_jn (_, _, _, _, _) (by assumption) ⟨rfl, rfl, rfl, rfl, trivial⟩ ⟨rfl, rfl, rfl, rfl, rfl, rfl, rfl, rfl, rfl, trivial⟩
      ·refine aact' rfl rfl (t_allocf (i := 87) rfl rfl rfl Try.zeroValue86 rfl rfl hw ⟨rfl, rfl, trivial⟩) (fun b_11 hoff_7 => ?_)
       refine a_lin' (n := 0) [(4, 1), (5, 0), (6, 0), (7, 0), (10, 1), (11, 3)] (by kernel_rfl) ?_
       refine r1' rfl rfl (t_call (n := 84) (num_div _ _ _ _ _ _ (by assumption) (by assumption) (by omega) (by omega) hy0) rfl rfl rfl ⟨rfl, rfl, trivial⟩ Try.call67 (pre_same 81 rfl rfl rfl (pre_same 82 rfl rfl rfl pre_nil)) rfl hw) (fun g_5 hg_5 => ?_)
       refine r0' rfl rfl rfl rfl (stf (d_mv rfl rfl) ⟨rfl, rfl, trivial⟩) ?_
       refine r0' rfl rfl rfl rfl (stf (d_ex rfl rfl rfl) ⟨rfl, rfl, trivial⟩) ?_
       refine r0' rfl rfl rfl rfl (stf (d_ex rfl rfl rfl) ⟨rfl, rfl, trivial⟩) ?_
       refine r1' rfl rfl (t_stw (i := 86) rfl rfl rfl rfl rfl (by decide) rfl Try.sizeOf86 rfl rfl ⟨(one_rfl rfl), (one_rd (i := 84) rfl rd_slp), trivial⟩ rfl hw hoff_5) (fun _ _ => ?_)
       refine r3' rfl rfl (t_stw (i := 87) rfl rfl rfl rfl rfl (by decide) rfl Try.sizeOf86 rfl rfl ⟨(one_rfl rfl), (one_rd (i := 85) rfl rd_slp), trivial⟩ rfl hw trivial) (fun _ _ => ?_)
       refine r_fin ?_
       refine a_done (by kernel_rfl) ?_
       exact x_jn (_, _, _, _, _) (by assumption) ⟨rfl, rfl, rfl, rfl, trivial⟩ ⟨rfl, rfl, rfl, rfl, rfl, rfl, rfl, rfl, rfl, trivial⟩
     ·refine aact' rfl rfl (t_allocf (i := 87) rfl rfl rfl Try.zeroValue86 rfl rfl hw ⟨rfl, rfl, trivial⟩) (fun b_12 hoff_8 => ?_)
      refine a_br2 (n := 6) 4 8 (by kernel_rfl) ?_ ?_
      ·refine aact' rfl rfl (t_call (n := 84) (num_div _ _ _ _ _ _ (by assumption) (by assumption) (by omega) (by omega) hy0) rfl rfl rfl ⟨rfl, rfl, trivial⟩ Try.call67 (pre_same 81 rfl rfl rfl (pre_same 82 rfl rfl rfl pre_nil)) rfl hw) (fun g_6 hg_6 => ?_)
       refine a_lin' (n := 0) [(5, 0), (6, 0), (7, 0), (8, 1), (10, 1), (11, 3)] (by kernel_rfl) ?_
       refine r0' rfl rfl rfl rfl (stf (d_mv rfl rfl) ⟨rfl, rfl, trivial⟩) ?_
       refine r0' rfl rfl rfl rfl (stf (d_ex rfl rfl rfl) ⟨rfl, rfl, trivial⟩) ?_
       refine r0' rfl rfl rfl rfl (stf (d_ex rfl rfl rfl) ⟨rfl, rfl, trivial⟩) ?_
       refine r1' rfl rfl (t_allocf (i := 86) rfl rfl rfl Try.zeroValue86 rfl rfl hw ⟨rfl, rfl, trivial⟩) (fun b_13 hoff_9 => ?_)
       refine r1' rfl rfl (t_stw (i := 86) rfl rfl rfl rfl rfl (by decide) rfl Try.sizeOf86 rfl rfl ⟨(one_rfl rfl), (one_rd (i := 84) rfl rd_slp), trivial⟩ rfl hw hoff_9) (fun _ _ => ?_)
       refine r3' rfl rfl (t_stw (i := 87) rfl rfl rfl rfl rfl (by decide) rfl Try.sizeOf86 rfl rfl ⟨(one_rfl rfl), (one_rd (i := 85) rfl rd_slp), trivial⟩ rfl hw trivial) (fun _ _ => ?_)
       refine r_fin ?_
       refine a_done (by kernel_rfl) ?_
       exact x_jn (_, _, _, _, _) (by assumption) ⟨rfl, rfl, rfl, rfl, trivial⟩ ⟨rfl, rfl, rfl, rfl, rfl, rfl, rfl, rfl, rfl, trivial⟩
      ·refine aact' rfl rfl (t_allocf (i := 86) rfl rfl rfl Try.zeroValue86 rfl rfl hw ⟨rfl, rfl, trivial⟩) (fun b_14 hoff_10 => ?_)
       refine a_lin' (n := 0) [(4, 1), (5, 0), (6, 0), (7, 0), (10, 1), (11, 3)] (by kernel_rfl) ?_
       refine r1' rfl rfl (t_call (n := 84) (num_div _ _ _ _ _ _ (by assumption) (by assumption) (by omega) (by omega) hy0) rfl rfl rfl ⟨rfl, rfl, trivial⟩ Try.call67 (pre_same 81 rfl rfl rfl (pre_same 82 rfl rfl rfl pre_nil)) rfl hw) (fun g_7 hg_7 => ?_)
       refine r0' rfl rfl rfl rfl (stf (d_mv rfl rfl) ⟨rfl, rfl, trivial⟩) ?_
       refine r0' rfl rfl rfl rfl (stf (d_ex rfl rfl rfl) ⟨rfl, rfl, trivial⟩) ?_
       refine r0' rfl rfl rfl rfl (stf (d_ex rfl rfl rfl) ⟨rfl, rfl, trivial⟩) ?_
       refine r1' rfl rfl (t_stw (i := 86) rfl rfl rfl rfl rfl (by decide) rfl Try.sizeOf86 rfl rfl ⟨(one_rfl rfl), (one_rd (i := 84) rfl rd_slp), trivial⟩ rfl hw hoff_10) (fun _ _ => ?_)
       refine r3' rfl rfl (t_stw (i := 87) rfl rfl rfl rfl rfl (by decide) rfl Try.sizeOf86 rfl rfl ⟨(one_rfl rfl), (one_rd (i := 85) rfl rd_slp), trivial⟩ rfl hw trivial) (fun _ _ => ?_)
       refine r_fin ?_
       refine a_done (by kernel_rfl) ?_
       exact x_jn (_, _, _, _, _) (by assumption) ⟨rfl, rfl, rfl, rfl, trivial⟩ ⟨rfl, rfl, rfl, rfl, rfl, rfl, rfl, rfl, rfl, trivial⟩
    ·refine aact' rfl rfl (t_allocf (i := 86) rfl rfl rfl Try.zeroValue86 rfl rfl hw ⟨rfl, rfl, trivial⟩) (fun b_15 hoff_11 => ?_)
     refine a_br2 (n := 7) 3 9 (by kernel_rfl) ?_ ?_
     ·refine aact' rfl rfl (t_call (n := 82) (wide_of _ _ (sg_dec _) (by omega)) rfl rfl rfl ⟨rfl, trivial⟩ Try.call57 pre_nil rfl hw) (fun g_8 hg_8 => ?_)
      refine a_br2 (n := 6) 4 9 (by kernel_rfl) ?_ ?_
      ·refine aact' rfl rfl (t_call (n := 84) (num_div _ _ _ _ _ _ (by assumption) (by assumption) (by omega) (by omega) hy0) rfl rfl rfl ⟨rfl, rfl, trivial⟩ Try.call67 (pre_same 81 rfl rfl rfl (pre_same 82 rfl rfl rfl pre_nil)) rfl hw) (fun g_9 hg_9 => ?_)
       refine a_lin' (n := 0) [(5, 0), (6, 0), (7, 0), (9, 1), (10, 1), (11, 3)] (by kernel_rfl) ?_
       refine r0' rfl rfl rfl rfl (stf (d_mv rfl rfl) ⟨rfl, rfl, trivial⟩) ?_
       refine r0' rfl rfl rfl rfl (stf (d_ex rfl rfl rfl) ⟨rfl, rfl, trivial⟩) ?_
       refine r0' rfl rfl rfl rfl (stf (d_ex rfl rfl rfl) ⟨rfl, rfl, trivial⟩) ?_
       refine r1' rfl rfl (t_allocf (i := 87) rfl rfl rfl Try.zeroValue86 rfl rfl hw ⟨rfl, rfl, trivial⟩) (fun b_16 hoff_12 => ?_)
       refine r1' rfl rfl (t_stw (i := 86) rfl rfl rfl rfl rfl (by decide) rfl Try.sizeOf86 rfl rfl ⟨(one_rfl rfl), (one_rd (i := 84) rfl rd_slp), trivial⟩ rfl hw hoff_11) (fun _ _ => ?_)
       refine r3' rfl rfl (t_stw (i := 87) rfl rfl rfl rfl rfl (by decide) rfl Try.sizeOf86 rfl rfl ⟨(one_rfl rfl), (one_rd (i := 85) rfl rd_slp), trivial⟩ rfl hw trivial) (fun _ _ => ?_)
       refine r_fin ?_
       refine a_done (by kernel_rfl) ?_
       exact x_jn (_, _, _, _, _) (by assumption) ⟨rfl, rfl, rfl, rfl, trivial⟩ ⟨rfl, rfl, rfl, rfl, rfl, rfl, rfl, rfl, rfl, trivial⟩
      ·refine aact' rfl rfl (t_allocf (i := 87) rfl rfl rfl Try.zeroValue86 rfl rfl hw ⟨rfl, rfl, trivial⟩) (fun b_17 hoff_13 => ?_)
       refine a_lin' (n := 0) [(4, 1), (5, 0), (6, 0), (7, 0), (10, 1), (11, 3)] (by kernel_rfl) ?_
       refine r1' rfl rfl (t_call (n := 84) (num_div _ _ _ _ _ _ (by assumption) (by assumption) (by omega) (by omega) hy0) rfl rfl rfl ⟨rfl, rfl, trivial⟩ Try.call67 (pre_same 81 rfl rfl rfl (pre_same 82 rfl rfl rfl pre_nil)) rfl hw) (fun g_10 hg_10 => ?_)
       refine r0' rfl rfl rfl rfl (stf (d_mv rfl rfl) ⟨rfl, rfl, trivial⟩) ?_
       refine r0' rfl rfl rfl rfl (stf (d_ex rfl rfl rfl) ⟨rfl, rfl, trivial⟩) ?_
       refine r0' rfl rfl rfl rfl (stf (d_ex rfl rfl rfl) ⟨rfl, rfl, trivial⟩) ?_
       refine r1' rfl rfl (t_stw (i := 86) rfl rfl rfl rfl rfl (by decide) rfl Try.sizeOf86 rfl rfl ⟨(one_rfl rfl), (one_rd (i := 84) rfl rd_slp), trivial⟩ rfl hw hoff_11) (fun _ _ => ?_)
       refine r3' rfl rfl (t_stw (i := 87) rfl rfl rfl rfl rfl (by decide) rfl Try.sizeOf86 rfl rfl ⟨(one_rfl rfl), (one_rd (i := 85) rfl rd_slp), trivial⟩ rfl hw trivial) (fun _ _ => ?_)
       refine r_fin ?_
       refine a_done (by kernel_rfl) ?_
       exact x_jn (_, _, _, _, _) (by assumption) ⟨rfl, rfl, rfl, rfl, trivial⟩ ⟨rfl, rfl, rfl, rfl, rfl, rfl, rfl, rfl, rfl, trivial⟩
     ·refine aact' rfl rfl (t_allocf (i := 87) rfl rfl rfl Try.zeroValue86 rfl rfl hw ⟨rfl, rfl, trivial⟩) (fun b_18 hoff_14 => ?_)
      refine a_lin' (n := 0) [(3, 1), (4, 1), (5, 0), (6, 0), (7, 0), (10, 1), (11, 3)] (by kernel_rfl) ?_
      refine r1' rfl rfl (t_call (n := 82) (wide_of _ _ (sg_dec _) (by omega)) rfl rfl rfl ⟨rfl, trivial⟩ Try.call57 pre_nil rfl hw) (fun g_11 hg_11 => ?_)
      refine r1' rfl rfl (t_call (n := 84) (num_div _ _ _ _ _ _ (by assumption) (by assumption) (by omega) (by omega) hy0) rfl rfl rfl ⟨rfl, rfl, trivial⟩ Try.call67 (pre_same 81 rfl rfl rfl (pre_same 82 rfl rfl rfl pre_nil)) rfl hw) (fun g_12 hg_12 => ?_)
      refine r0' rfl rfl rfl rfl (stf (d_mv rfl rfl) ⟨rfl, rfl, trivial⟩) ?_
      refine r0' rfl rfl rfl rfl (stf (d_ex rfl rfl rfl) ⟨rfl, rfl, trivial⟩) ?_
      refine r0' rfl rfl rfl rfl (stf (d_ex rfl rfl rfl) ⟨rfl, rfl, trivial⟩) ?_
      refine r1' rfl rfl (t_stw (i := 86) rfl rfl rfl rfl rfl (by decide) rfl Try.sizeOf86 rfl rfl ⟨(one_rfl rfl), (one_rd (i := 84) rfl rd_slp), trivial⟩ rfl hw hoff_11) (fun _ _ => ?_)
      refine r3' rfl rfl (t_stw (i := 87) rfl rfl rfl rfl rfl (by decide) rfl Try.sizeOf86 rfl rfl ⟨(one_rfl rfl), (one_rd (i := 85) rfl rd_slp), trivial⟩ rfl hw trivial) (fun _ _ => ?_)
      refine r_fin ?_
      refine a_done (by kernel_rfl) ?_
      exact x_jn (_, _, _, _, _) (by assumption) ⟨rfl, rfl, rfl, rfl, trivial⟩ ⟨rfl, rfl, rfl, rfl, rfl, rfl, rfl, rfl, rfl, trivial⟩
    ·refine aact' rfl rfl (t_allocf (i := 87) rfl rfl rfl Try.zeroValue86 rfl rfl hw ⟨rfl, rfl, trivial⟩) (fun b_19 hoff_15 => ?_)
     refine a_br2 (n := 7) 3 8 (by kernel_rfl) ?_ ?_
     ·refine aact' rfl rfl (t_call (n := 82) (wide_of _ _ (sg_dec _) (by omega)) rfl rfl rfl ⟨rfl, trivial⟩ Try.call57 pre_nil rfl hw) (fun g_13 hg_13 => ?_)
      refine a_br2 (n := 6) 4 8 (by kernel_rfl) ?_ ?_
      ·refine aact' rfl rfl (t_call (n := 84) (num_div _ _ _ _ _ _ (by assumption) (by assumption) (by omega) (by omega) hy0) rfl rfl rfl ⟨rfl, rfl, trivial⟩ Try.call67 (pre_same 81 rfl rfl rfl (pre_same 82 rfl rfl rfl pre_nil)) rfl hw) (fun g_14 hg_14 => ?_)
       refine a_lin' (n := 0) [(5, 0), (6, 0), (7, 0), (8, 1), (10, 1), (11, 3)] (by kernel_rfl) ?_
       refine r0' rfl rfl rfl rfl (stf (d_mv rfl rfl) ⟨rfl, rfl, trivial⟩) ?_
       refine r0' rfl rfl rfl rfl (stf (d_ex rfl rfl rfl) ⟨rfl, rfl, trivial⟩) ?_
       refine r0' rfl rfl rfl rfl (stf (d_ex rfl rfl rfl) ⟨rfl, rfl, trivial⟩) ?_
       refine r1' rfl rfl (t_allocf (i := 86) rfl rfl rfl Try.zeroValue86 rfl rfl hw ⟨rfl, rfl, trivial⟩) (fun b_20 hoff_16 => ?_)
       refine r1' rfl rfl (t_stw (i := 86) rfl rfl rfl rfl rfl (by decide) rfl Try.sizeOf86 rfl rfl ⟨(one_rfl rfl), (one_rd (i := 84) rfl rd_slp), trivial⟩ rfl hw hoff_16) (fun _ _ => ?_)
       refine r3' rfl rfl (t_stw (i := 87) rfl rfl rfl rfl rfl (by decide) rfl Try.sizeOf86 rfl rfl ⟨(one_rfl rfl), (one_rd (i := 85) rfl rd_slp), trivial⟩ rfl hw trivial) (fun _ _ => ?_)
       refine r_fin ?_
       refine a_done (by kernel_rfl) ?_
       exact x_jn (_, _, _, _, _) (by assumption) ⟨rfl, rfl, rfl, rfl, trivial⟩ ⟨rfl, rfl, rfl, rfl, rfl, rfl, rfl, rfl, rfl, trivial⟩
      ·refine aact' rfl rfl (t_allocf (i := 86) rfl rfl rfl Try.zeroValue86 rfl rfl hw ⟨rfl, rfl, trivial⟩) (fun b_21 hoff_17 => ?_)
       refine a_lin' (n := 0) [(4, 1), (5, 0), (6, 0), (7, 0), (10, 1), (11, 3)] (by kernel_rfl) ?_
       refine r1' rfl rfl (t_call (n := 84) (num_div _ _ _ _ _ _ (by assumption) (by assumption) (by omega) (by omega) hy0) rfl rfl rfl ⟨rfl, rfl, trivial⟩ Try.call67 (pre_same 81 rfl rfl rfl (pre_same 82 rfl rfl rfl pre_nil)) rfl hw) (fun g_15 hg_15 => ?_)
       refine r0' rfl rfl rfl rfl (stf (d_mv rfl rfl) ⟨rfl, rfl, trivial⟩) ?_
       refine r0' rfl rfl rfl rfl (stf (d_ex rfl rfl rfl) ⟨rfl, rfl, trivial⟩) ?_
       refine r0' rfl rfl rfl rfl (stf (d_ex rfl rfl rfl) ⟨rfl, rfl, trivial⟩) ?_
       refine r1' rfl rfl (t_stw (i := 86) rfl rfl rfl rfl rfl (by decide) rfl Try.sizeOf86 rfl rfl ⟨(one_rfl rfl), (one_rd (i := 84) rfl rd_slp), trivial⟩ rfl hw hoff_17) (fun _ _ => ?_)
       refine r3' rfl rfl (t_stw (i := 87) rfl rfl rfl rfl rfl (by decide) rfl Try.sizeOf86 rfl rfl ⟨(one_rfl rfl), (one_rd (i := 85) rfl rd_slp), trivial⟩ rfl hw trivial) (fun _ _ => ?_)
       refine r_fin ?_
       refine a_done (by kernel_rfl) ?_
       exact x_jn (_, _, _, _, _) (by assumption) ⟨rfl, rfl, rfl, rfl, trivial⟩ ⟨rfl, rfl, rfl, rfl, rfl, rfl, rfl, rfl, rfl, trivial⟩
     ·refine aact' rfl rfl (t_allocf (i := 86) rfl rfl rfl Try.zeroValue86 rfl rfl hw ⟨rfl, rfl, trivial⟩) (fun b_22 hoff_18 => ?_)
      refine a_lin' (n := 0) [(3, 1), (4, 1), (5, 0), (6, 0), (7, 0), (10, 1), (11, 3)] (by kernel_rfl) ?_
      refine r1' rfl rfl (t_call (n := 82) (wide_of _ _ (sg_dec _) (by omega)) rfl rfl rfl ⟨rfl, trivial⟩ Try.call57 pre_nil rfl hw) (fun g_16 hg_16 => ?_)
      refine r1' rfl rfl (t_call (n := 84) (num_div _ _ _ _ _ _ (by assumption) (by assumption) (by omega) (by omega) hy0) rfl rfl rfl ⟨rfl, rfl, trivial⟩ Try.call67 (pre_same 81 rfl rfl rfl (pre_same 82 rfl rfl rfl pre_nil)) rfl hw) (fun g_17 hg_17 => ?_)
      refine r0' rfl rfl rfl rfl (stf (d_mv rfl rfl) ⟨rfl, rfl, trivial⟩) ?_
      refine r0' rfl rfl rfl rfl (stf (d_ex rfl rfl rfl) ⟨rfl, rfl, trivial⟩) ?_
      refine r0' rfl rfl rfl rfl (stf (d_ex rfl rfl rfl) ⟨rfl, rfl, trivial⟩) ?_
      refine r1' rfl rfl (t_stw (i := 86) rfl rfl rfl rfl rfl (by decide) rfl Try.sizeOf86 rfl rfl ⟨(one_rfl rfl), (one_rd (i := 84) rfl rd_slp), trivial⟩ rfl hw hoff_18) (fun _ _ => ?_)
      refine r3' rfl rfl (t_stw (i := 87) rfl rfl rfl rfl rfl (by decide) rfl Try.sizeOf86 rfl rfl ⟨(one_rfl rfl), (one_rd (i := 85) rfl rd_slp), trivial⟩ rfl hw trivial) (fun _ _ => ?_)
      refine r_fin ?_
      refine a_done (by kernel_rfl) ?_
      exact x_jn (_, _, _, _, _) (by assumption) ⟨rfl, rfl, rfl, rfl, trivial⟩ ⟨rfl, rfl, rfl, rfl, rfl, rfl, rfl, rfl, rfl, trivial⟩
   ·refine aact' rfl rfl (t_allocf (i := 86) rfl rfl rfl Try.zeroValue86 rfl rfl hw ⟨rfl, rfl, trivial⟩) (fun b_23 hoff_19 => ?_)
    refine a_br2 (n := 8) 1 9 (by kernel_rfl) ?_ ?_
    ·refine aact' rfl rfl (t_call (n := 81) (wide_of _ _ (sg_dec _) (by omega)) rfl rfl rfl ⟨rfl, trivial⟩ Try.call57 pre_nil rfl hw) (fun g_18 hg_18 => ?_)
     refine a_br2 (n := 7) 3 9 (by kernel_rfl) ?_ ?_
     ·refine aact' rfl rfl (t_call (n := 82) (wide_of _ _ (sg_dec _) (by omega)) rfl rfl rfl ⟨rfl, trivial⟩ Try.call57 pre_nil rfl hw) (fun g_19 hg_19 => ?_)
      refine a_br2 (n := 6) 4 9 (by kernel_rfl) ?_ ?_
      ·refine aact' rfl rfl (t_call (n := 84) (num_div _ _ _ _ _ _ (by assumption) (by assumption) (by omega) (by omega) hy0) rfl rfl rfl ⟨rfl, rfl, trivial⟩ Try.call67 (pre_same 81 rfl rfl rfl (pre_same 82 rfl rfl rfl pre_nil)) rfl hw) (fun g_20 hg_20 => ?_)
       refine a_lin' (n := 0) [(5, 0), (6, 0), (7, 0), (9, 1), (10, 1), (11, 3)] (by kernel_rfl) ?_
       refine r0' rfl rfl rfl rfl (stf (d_mv rfl rfl) ⟨rfl, rfl, trivial⟩) ?_
       refine r0' rfl rfl rfl rfl (stf (d_ex rfl rfl rfl) ⟨rfl, rfl, trivial⟩) ?_
       refine r0' rfl rfl rfl rfl (stf (d_ex rfl rfl rfl) ⟨rfl, rfl, trivial⟩) ?_
       refine r1' rfl rfl (t_allocf (i := 87) rfl rfl rfl Try.zeroValue86 rfl rfl hw ⟨rfl, rfl, trivial⟩) (fun b_24 hoff_20 => ?_)
       refine r1' rfl rfl (t_stw (i := 86) rfl rfl rfl rfl rfl (by decide) rfl Try.sizeOf86 rfl rfl ⟨(one_rfl rfl), (one_rd (i := 84) rfl rd_slp), trivial⟩ rfl hw hoff_19) (fun _ _ => ?_)
       refine r3' rfl rfl (t_stw (i := 87) rfl rfl rfl rfl rfl (by decide) rfl Try.sizeOf86 rfl rfl ⟨(one_rfl rfl), (one_rd (i := 85) rfl rd_slp), trivial⟩ rfl hw trivial) (fun _ _ => ?_)
       refine r_fin ?_
       refine a_done (by kernel_rfl) ?_
       exact x_jn (_, _, _, _, _) (by assumption) ⟨rfl, rfl, rfl, rfl, trivial⟩ ⟨rfl, rfl, rfl, rfl, rfl, rfl, rfl, rfl, rfl, trivial⟩
      ·refine aact' rfl rfl (t_allocf (i := 87) rfl rfl rfl Try.zeroValue86 rfl rfl hw ⟨rfl, rfl, trivial⟩) (fun b_25 hoff_21 => ?_)
       refine a_lin' (n := 0) [(4, 1), (5, 0), (6, 0), (7, 0), (10, 1), (11, 3)] (by kernel_rfl) ?_
       refine r1' rfl rfl (t_call (n := 84) (num_div _ _ _ _ _ _ (by assumption) (by assumption) (by omega) (by omega) hy0) rfl rfl rfl ⟨rfl, rfl, trivial⟩ Try.call67 (pre_same 81 rfl rfl rfl (pre_same 82 rfl rfl rfl pre_nil)) rfl hw) (fun g_21 hg_21 => ?_)
       refine r0' rfl rfl rfl rfl (stf (d_mv rfl rfl) ⟨rfl, rfl, trivial⟩) ?_
       refine r0' rfl rfl rfl rfl (stf (d_ex rfl rfl rfl) ⟨rfl, rfl, trivial⟩) ?_
       refine r0' rfl rfl rfl rfl (stf (d_ex rfl rfl rfl) ⟨rfl, rfl, trivial⟩) ?_
       refine r1' rfl rfl (t_stw (i := 86) rfl rfl rfl rfl rfl (by decide) rfl Try.sizeOf86 rfl rfl ⟨(one_rfl rfl), (one_rd (i := 84) rfl rd_slp), trivial⟩ rfl hw hoff_19) (fun _ _ => ?_)
       refine r3' rfl rfl (t_stw (i := 87) rfl rfl rfl rfl rfl (by decide) rfl Try.sizeOf86 rfl rfl ⟨(one_rfl rfl), (one_rd (i := 85) rfl rd_slp), trivial⟩ rfl hw trivial) (fun _ _ => ?_)
       refine r_fin ?_
       refine a_done (by kernel_rfl) ?_
       exact x_jn (_, _, _, _, _) (by assumption) ⟨rfl, rfl, rfl, rfl, trivial⟩ ⟨rfl, rfl, rfl, rfl, rfl, rfl, rfl, rfl, rfl, trivial⟩
     ·refine aact' rfl rfl (t_allocf (i := 87) rfl rfl rfl Try.zeroValue86 rfl rfl hw ⟨rfl, rfl, trivial⟩) (fun b_26 hoff_22 => ?_)
      refine a_lin' (n := 0) [(3, 1), (4, 1), (5, 0), (6, 0), (7, 0), (10, 1), (11, 3)] (by kernel_rfl) ?_
      refine r1' rfl rfl (t_call (n := 82) (wide_of _ _ (sg_dec _) (by omega)) rfl rfl rfl ⟨rfl, trivial⟩ Try.call57 pre_nil rfl hw) (fun g_22 hg_22 => ?_)
      refine r1' rfl rfl (t_call (n := 84) (num_div _ _ _ _ _ _ (by assumption) (by assumption) (by omega) (by omega) hy0) rfl rfl rfl ⟨rfl, rfl, trivial⟩ Try.call67 (pre_same 81 rfl rfl rfl (pre_same 82 rfl rfl rfl pre_nil)) rfl hw) (fun g_23 hg_23 => ?_)
      refine r0' rfl rfl rfl rfl (stf (d_mv rfl rfl) ⟨rfl, rfl, trivial⟩) ?_
      refine r0' rfl rfl rfl rfl (stf (d_ex rfl rfl rfl) ⟨rfl, rfl, trivial⟩) ?_
      refine r0' rfl rfl rfl rfl (stf (d_ex rfl rfl rfl) ⟨rfl, rfl, trivial⟩) ?_
      refine r1' rfl rfl (t_stw (i := 86) rfl rfl rfl rfl rfl (by decide) rfl Try.sizeOf86 rfl rfl ⟨(one_rfl rfl), (one_rd (i := 84) rfl rd_slp), trivial⟩ rfl hw hoff_19) (fun _ _ => ?_)
      refine r3' rfl rfl (t_stw (i := 87) rfl rfl rfl rfl rfl (by decide) rfl Try.sizeOf86 rfl rfl ⟨(one_rfl rfl), (one_rd (i := 85) rfl rd_slp), trivial⟩ rfl hw trivial) (fun _ _ => ?_)
      refine r_fin ?_
      refine a_done (by kernel_rfl) ?_
      exact x_jn (_, _, _, _, _) (by assumption) ⟨rfl, rfl, rfl, rfl, trivial⟩ ⟨rfl, rfl, rfl, rfl, rfl, rfl, rfl, rfl, rfl, trivial⟩
    ·refine aact' rfl rfl (t_allocf (i := 87) rfl rfl rfl Try.zeroValue86 rfl rfl hw ⟨rfl, rfl, trivial⟩) (fun b_27 hoff_23 => ?_)
     refine a_lin' (n := 0) [(1, 1), (3, 1), (4, 1), (5, 0), (6, 0), (7, 0), (10, 1), (11, 3)] (by kernel_rfl) ?_
     refine r1' rfl rfl (t_call (n := 81) (wide_of _ _ (sg_dec _) (by omega)) rfl rfl rfl ⟨rfl, trivial⟩ Try.call57 pre_nil rfl hw) (fun g_24 hg_24 => ?_)
     refine r1' rfl rfl (t_call (n := 82) (wide_of _ _ (sg_dec _) (by omega)) rfl rfl rfl ⟨rfl, trivial⟩ Try.call57 pre_nil rfl hw) (fun g_25 hg_25 => ?_)
     refine r1' rfl rfl (t_call (n := 84) (num_div _ _ _ _ _ _ (by assumption) (by assumption) (by omega) (by omega) hy0) rfl rfl rfl ⟨rfl, rfl, trivial⟩ Try.call67 (pre_same 81 rfl rfl rfl (pre_same 82 rfl rfl rfl pre_nil)) rfl hw) (fun g_26 hg_26 => ?_)
     refine r0' rfl rfl rfl rfl (stf (d_mv rfl rfl) ⟨rfl, rfl, trivial⟩) ?_
     refine r0' rfl rfl rfl rfl (stf (d_ex rfl rfl rfl) ⟨rfl, rfl, trivial⟩) ?_
     refine r0' rfl rfl rfl rfl (stf (d_ex rfl rfl rfl) ⟨rfl, rfl, trivial⟩) ?_
     refine r1' rfl rfl (t_stw (i := 86) rfl rfl rfl rfl rfl (by decide) rfl Try.sizeOf86 rfl rfl ⟨(one_rfl rfl), (one_rd (i := 84) rfl rd_slp), trivial⟩ rfl hw hoff_19) (fun _ _ => ?_)
     refine r3' rfl rfl (t_stw (i := 87) rfl rfl rfl rfl rfl (by decide) rfl Try.sizeOf86 rfl rfl ⟨(one_rfl rfl), (one_rd (i := 85) rfl rd_slp), trivial⟩ rfl hw trivial) (fun _ _ => ?_)
     refine r_fin ?_
     refine a_done (by kernel_rfl) ?_
     exact x_jn (_, _, _, _, _) (by assumption) ⟨rfl, rfl, rfl, rfl, trivial⟩ ⟨rfl, rfl, rfl, rfl, rfl, rfl, rfl, rfl, rfl, trivial⟩
   ·refine aact' rfl rfl (t_allocf (i := 87) rfl rfl rfl Try.zeroValue86 rfl rfl hw ⟨rfl, rfl, trivial⟩) (fun b_28 hoff_24 => ?_)
    refine a_br2 (n := 8) 1 8 (by kernel_rfl) ?_ ?_
    ·refine aact' rfl rfl (t_call (n := 81) (wide_of _ _ (sg_dec _) (by omega)) rfl rfl rfl ⟨rfl, trivial⟩ Try.call57 pre_nil rfl hw) (fun g_27 hg_27 => ?_)
     refine a_br2 (n := 7) 3 8 (by kernel_rfl) ?_ ?_
     ·refine aact' rfl rfl (t_call (n := 82) (wide_of _ _ (sg_dec _) (by omega)) rfl rfl rfl ⟨rfl, trivial⟩ Try.call57 pre_nil rfl hw) (fun g_28 hg_28 => ?_)
      refine a_br2 (n := 6) 4 8 (by kernel_rfl) ?_ ?_
      ·refine aact' rfl rfl (t_call (n := 84) (num_div _ _ _ _ _ _ (by assumption) (by assumption) (by omega) (by omega) hy0) rfl rfl rfl ⟨rfl, rfl, trivial⟩ Try.call67 (pre_same 81 rfl rfl rfl (pre_same 82 rfl rfl rfl pre_nil)) rfl hw) (fun g_29 hg_29 => ?_)
       refine a_lin' (n := 0) [(5, 0), (6, 0), (7, 0), (8, 1), (10, 1), (11, 3)] (by kernel_rfl) ?_
       refine r0' rfl rfl rfl rfl (stf (d_mv rfl rfl) ⟨rfl, rfl, trivial⟩) ?_
       refine r0' rfl rfl rfl rfl (stf (d_ex rfl rfl rfl) ⟨rfl, rfl, trivial⟩) ?_
       refine r0' rfl rfl rfl rfl (stf (d_ex rfl rfl rfl) ⟨rfl, rfl, trivial⟩) ?_
       refine r1' rfl rfl (t_allocf (i := 86) rfl rfl rfl Try.zeroValue86 rfl rfl hw ⟨rfl, rfl, trivial⟩) (fun b_29 hoff_25 => ?_)
       refine r1' rfl rfl (t_stw (i := 86) rfl rfl rfl rfl rfl (by decide) rfl Try.sizeOf86 rfl rfl ⟨(one_rfl rfl), (one_rd (i := 84) rfl rd_slp), trivial⟩ rfl hw hoff_25) (fun _ _ => ?_)
       refine r3' rfl rfl (t_stw (i := 87) rfl rfl rfl rfl rfl (by decide) rfl Try.sizeOf86 rfl rfl ⟨(one_rfl rfl), (one_rd (i := 85) rfl rd_slp), trivial⟩ rfl hw trivial) (fun _ _ => ?_)
       refine r_fin ?_
       refine a_done (by kernel_rfl) ?_
       exact x_jn (_, _, _, _, _) (by assumption) ⟨rfl, rfl, rfl, rfl, trivial⟩ ⟨rfl, rfl, rfl, rfl, rfl, rfl, rfl, rfl, rfl, trivial⟩
      ·refine aact' rfl rfl (t_allocf (i := 86) rfl rfl rfl Try.zeroValue86 rfl rfl hw ⟨rfl, rfl, trivial⟩) (fun b_30 hoff_26 => ?_)
       refine a_lin' (n := 0) [(4, 1), (5, 0), (6, 0), (7, 0), (10, 1), (11, 3)] (by kernel_rfl) ?_
       refine r1' rfl rfl (t_call (n := 84) (num_div _ _ _ _ _ _ (by assumption) (by assumption) (by omega) (by omega) hy0) rfl rfl rfl ⟨rfl, rfl, trivial⟩ Try.call67 (pre_same 81 rfl rfl rfl (pre_same 82 rfl rfl rfl pre_nil)) rfl hw) (fun g_30 hg_30 => ?_)
       refine r0' rfl rfl rfl rfl (stf (d_mv rfl rfl) ⟨rfl, rfl, trivial⟩) ?_
       refine r0' rfl rfl rfl rfl (stf (d_ex rfl rfl rfl) ⟨rfl, rfl, trivial⟩) ?_
       refine r0' rfl rfl rfl rfl (stf (d_ex rfl rfl rfl) ⟨rfl, rfl, trivial⟩) ?_
       refine r1' rfl rfl (t_stw (i := 86) rfl rfl rfl rfl rfl (by decide) rfl Try.sizeOf86 rfl rfl ⟨(one_rfl rfl), (one_rd (i := 84) rfl rd_slp), trivial⟩ rfl hw hoff_26) (fun _ _ => ?_)
       refine r3' rfl rfl (t_stw (i := 87) rfl rfl rfl rfl rfl (by decide) rfl Try.sizeOf86 rfl rfl ⟨(one_rfl rfl), (one_rd (i := 85) rfl rd_slp), trivial⟩ rfl hw trivial) (fun _ _ => ?_)
       refine r_fin ?_
       refine a_done (by kernel_rfl) ?_
       exact x_jn (_, _, _, _, _) (by assumption) ⟨rfl, rfl, rfl, rfl, trivial⟩ ⟨rfl, rfl, rfl, rfl, rfl, rfl, rfl, rfl, rfl, trivial⟩
     ·refine aact' rfl rfl (t_allocf (i := 86) rfl rfl rfl Try.zeroValue86 rfl rfl hw ⟨rfl, rfl, trivial⟩) (fun b_31 hoff_27 => ?_)
      refine a_lin' (n := 0) [(3, 1), (4, 1), (5, 0), (6, 0), (7, 0), (10, 1), (11, 3)] (by kernel_rfl) ?_
      refine r1' rfl rfl (t_call (n := 82) (wide_of _ _ (sg_dec _) (by omega)) rfl rfl rfl ⟨rfl, trivial⟩ Try.call57 pre_nil rfl hw) (fun g_31 hg_31 => ?_)
      refine r1' rfl rfl (t_call (n := 84) (num_div _ _ _ _ _ _ (by assumption) (by assumption) (by omega) (by omega) hy0) rfl rfl rfl ⟨rfl, rfl, trivial⟩ Try.call67 (pre_same 81 rfl rfl rfl (pre_same 82 rfl rfl rfl pre_nil)) rfl hw) (fun g_32 hg_32 => ?_)
      refine r0' rfl rfl rfl rfl (stf (d_mv rfl rfl) ⟨rfl, rfl, trivial⟩) ?_
      refine r0' rfl rfl rfl rfl (stf (d_ex rfl rfl rfl) ⟨rfl, rfl, trivial⟩) ?_
      refine r0' rfl rfl rfl rfl (stf (d_ex rfl rfl rfl) ⟨rfl, rfl, trivial⟩) ?_
      refine r1' rfl rfl (t_stw (i := 86) rfl rfl rfl rfl rfl (by decide) rfl Try.sizeOf86 rfl rfl ⟨(one_rfl rfl), (one_rd (i := 84) rfl rd_slp), trivial⟩ rfl hw hoff_27) (fun _ _ => ?_)
      refine r3' rfl rfl (t_stw (i := 87) rfl rfl rfl rfl rfl (by decide) rfl Try.sizeOf86 rfl rfl ⟨(one_rfl rfl), (one_rd (i := 85) rfl rd_slp), trivial⟩ rfl hw trivial) (fun _ _ => ?_)
      refine r_fin ?_
      refine a_done (by kernel_rfl) ?_
      exact x_jn (_, _, _, _, _) (by assumption) ⟨rfl, rfl, rfl, rfl, trivial⟩ ⟨rfl, rfl, rfl, rfl, rfl, rfl, rfl, rfl, rfl, trivial⟩
    ·refine aact' rfl rfl (t_allocf (i := 86) rfl rfl rfl Try.zeroValue86 rfl rfl hw ⟨rfl, rfl, trivial⟩) (fun b_32 hoff_28 => ?_)
     refine a_lin' (n := 0) [(1, 1), (3, 1), (4, 1), (5, 0), (6, 0), (7, 0), (10, 1), (11, 3)] (by kernel_rfl) ?_
     refine r1' rfl rfl (t_call (n := 81) (wide_of _ _ (sg_dec _) (by omega)) rfl rfl rfl ⟨rfl, trivial⟩ Try.call57 pre_nil rfl hw) (fun g_33 hg_33 => ?_)
     refine r1' rfl rfl (t_call (n := 82) (wide_of _ _ (sg_dec _) (by omega)) rfl rfl rfl ⟨rfl, trivial⟩ Try.call57 pre_nil rfl hw) (fun g_34 hg_34 => ?_)
     refine r1' rfl rfl (t_call (n := 84) (num_div _ _ _ _ _ _ (by assumption) (by assumption) (by omega) (by omega) hy0) rfl rfl rfl ⟨rfl, rfl, trivial⟩ Try.call67 (pre_same 81 rfl rfl rfl (pre_same 82 rfl rfl rfl pre_nil)) rfl hw) (fun g_35 hg_35 => ?_)
     refine r0' rfl rfl rfl rfl (stf (d_mv rfl rfl) ⟨rfl, rfl, trivial⟩) ?_
     refine r0' rfl rfl rfl rfl (stf (d_ex rfl rfl rfl) ⟨rfl, rfl, trivial⟩) ?_
     refine r0' rfl rfl rfl rfl (stf (d_ex rfl rfl rfl) ⟨rfl, rfl, trivial⟩) ?_
     refine r1' rfl rfl (t_stw (i := 86) rfl rfl rfl rfl rfl (by decide) rfl Try.sizeOf86 rfl rfl ⟨(one_rfl rfl), (one_rd (i := 84) rfl rd_slp), trivial⟩ rfl hw hoff_28) (fun _ _ => ?_)
     refine r3' rfl rfl (t_stw (i := 87) rfl rfl rfl rfl rfl (by decide) rfl Try.sizeOf86 rfl rfl ⟨(one_rfl rfl), (one_rd (i := 85) rfl rd_slp), trivial⟩ rfl hw trivial) (fun _ _ => ?_)
     refine r_fin ?_
     refine a_done (by kernel_rfl) ?_
     exact x_jn (_, _, _, _, _) (by assumption) ⟨rfl, rfl, rfl, rfl, trivial⟩ ⟨rfl, rfl, rfl, rfl, rfl, rfl, rfl, rfl, rfl, trivial⟩
  ·rintro ⟨qb, qv, rv, b7, b8⟩ hq
   dsimp only at hq
   simp only [List.cons_append, List.nil_append]
   refine e_seq (e_reg (dt (d_lb2 (i := 86) rfl rfl rfl Try.isAgg86 Try.sizeOf86 rfl rfl) rfl ?_))
   refine tt (t_call (n := 4) (num_wide _ _ _ (by assumption) (by omega)) rfl rfl rfl ⟨rfl, trivial⟩ Try.call56 (pre_same 84 rfl rfl rfl pre_nil) rfl hw) rfl (fun _ _ => ?_)
   refine mv rfl rfl (dt (d_ex rfl rfl rfl) rfl ?_)
   refine dt (d_ex rfl rfl rfl) rfl ?_
   refine tt (t_stw (i := 3) rfl rfl rfl rfl rfl (by decide) rfl Try.sizeOf26 rfl rfl ⟨(one_rfl rfl), (one_rfl rfl), trivial⟩ rfl hw trivial) rfl (fun _ _ => ?_)
   refine l_nil (x_then (e_seq (e_reg (dt (d_lb2 (i := 87) rfl rfl rfl Try.isAgg86 Try.sizeOf86 rfl rfl) rfl ?_))))
   refine tt (t_call (n := 4) (num_wide _ _ _ (sg_emod x hy0) (by omega)) rfl rfl rfl ⟨rfl, trivial⟩ Try.call56 (pre_same 85 rfl rfl rfl pre_nil) rfl hw) rfl (fun _ _ => ?_)
   refine mv rfl rfl (dt (d_ex rfl rfl rfl) rfl ?_)
   refine dt (d_ex rfl rfl rfl) rfl ?_
   refine tt (t_stw (i := 4) rfl rfl rfl rfl rfl (by decide) rfl Try.sizeOf26 rfl rfl ⟨(one_rfl rfl), (one_rfl rfl), trivial⟩ rfl hw trivial) rfl (fun _ _ => ?_)
   refine l_nil (x_then (e_seq (e_dregf [4] [3, 4] (by kernel_rfl) ?_)))
   refine a_lin' (n := 0) [(1, 0), (0, 1), (2, 1), (3, 3), (4, 3)] (by kernel_rfl) ?_
   refine r0' rfl rfl rfl rfl (stf (d_lb2 (i := 4) rfl rfl rfl Try.isAgg26 Try.sizeOf26 rfl rfl) ⟨rfl, trivial⟩) ?_
   refine r1' rfl rfl (t_det (d_lb2 (i := 3) rfl rfl rfl Try.isAgg26 Try.sizeOf26 rfl rfl) rfl rfl) (fun _ _ => ?_)
   refine r1' rfl rfl (t_off 3 rfl rfl ⟨rfl, trivial⟩ (fun hoffb => (t_stw (i := 3) rfl rfl rfl rfl rfl (by decide) rfl Try.sizeOf26 rfl rfl ⟨(one_rfl rfl), (one_rfl rfl), trivial⟩ rfl hw hoffb))) (fun _ _ => ?_)
   refine r3' rfl rfl (t_stw (i := 4) rfl rfl rfl rfl rfl (by decide) rfl Try.sizeOf26 rfl rfl ⟨(one_rfl rfl), (one_rfl rfl), trivial⟩ rfl hw trivial) (fun _ _ => ?_)
   refine r3' rfl rfl (t_det (d_as rfl rfl) rfl rfl) (fun _ _ => ?_)
   refine r_fin ?_
   refine a_done (by kernel_rfl) ?_
   refine x_then (e_ret ?_)
   exact x_end (.inl rfl) hsc () _ (fun a w hs => res3 hs Try.results50 (rv_cell (i := 3) rfl rfl Try.isAgg26 Try.sizeOf26 rfl) (rv_cell (i := 4) rfl rfl Try.isAgg26 Try.sizeOf26 rfl) rfl) rfl trivial rfl give_nil
theorem wide_lowest (s t : Bool) (v w : Value) (x y : Int) (hs : sg s x) (ht : sg t y) (hx : bl x.natAbs ≤ 1000000000) (hy : bl y.natAbs ≤ 1000000000) (hy0 : y ≠ 0) : Cal Try.prog 61 #[.agg #[.bool s, v], .agg #[.bool t, w]] [dgp v x.natAbs, dgp w y.natAbs] false (G := Unit) (fun _ => True) (fun _ => ratioV x y) (fun _ => []) := by
 refine cal_in Try.func61 rfl Try.ntmps61 rfl ⟨rfl, rfl, trivial⟩ ?_
 intro w0 sc hw hsc
 simp only [enumEnv, enumPre]
 have hb := bl_gcd x.natAbs y.natAbs
 have hg0 : lgcd x y ≠ 0 := lgcd_ne hy0
 have hgs : sg t (lgcd x y) := sg_lgcd ht hy0
 have hga := lgcd_abs x y
 have hq1 := bl_idiv x (lgcd x y)
 have hq2 := bl_idiv y (lgcd x y)
 refine e_seq (e_reg (tt (t_box (i := 3) rfl rfl rfl rfl rfl rfl hw) rfl (fun b _ => ?_)))
 refine tt (t_box (i := 4) rfl rfl rfl rfl rfl rfl hw) rfl (fun b_2 _ => ?_)
 refine tt (t_alloc (i := 5) rfl rfl rfl Try.zeroValue32 rfl rfl hw) rfl (fun b_3 _ => ?_)
 refine as_ rfl rfl (l_nil (x_then (e_seq (e_drega (fun _ => False) [9] (by kernel_rfl) ?_))))
 refine a_lin' (n := 4) [(0, 0), (1, 0), (2, 0), (3, 0), (4, 0), (5, 0)] (by kernel_rfl) ?_
 refine r0' rfl rfl rfl rfl (st0 (d_fa rfl rfl Try.underlying86 rfl Try.sizeOf4 rfl rfl)) ?_
 refine r0' rfl rfl rfl rfl (st0 (d_lb (i := 4) rfl rfl rfl Try.isAgg4 rfl)) ?_
 refine r0' rfl rfl rfl rfl (st0 (d_fa rfl rfl Try.underlying86 rfl Try.sizeOf83 rfl rfl)) ?_
 refine r0' rfl rfl rfl rfl (st0 (d_lb (i := 3) rfl rfl rfl Try.isAgg83 rfl)) ?_
 refine r0' rfl rfl rfl rfl (st0 (d_fa rfl rfl Try.underlying86 rfl Try.sizeOf83 rfl rfl)) ?_
 refine r0' rfl rfl rfl rfl (st0 (d_lb (i := 4) rfl rfl rfl Try.isAgg83 rfl)) ?_
 refine r_fin ?_
 refine a_br2 (n := 3) 6 8 (by kernel_rfl) ?_ ?_
 ·refine aact' rfl rfl (t_call (n := 81) (nat_gcd _ _ _ _ (by omega) (by omega)) rfl rfl rfl ⟨rfl, rfl, trivial⟩ Try.call66 (pre_same 1 rfl rfl rfl (pre_same 2 rfl rfl rfl pre_nil)) rfl hw) (fun v _ => ?_)
  refine a_lin' (n := 0) [(7, 0), (8, 1), (9, 3)] (by kernel_rfl) ?_
  refine r0' rfl rfl rfl rfl (st0 (d_bld (ivs := [(0, _), (1, _)]) rfl ⟨rfl, rfl, rfl, rfl, trivial⟩ (fun a w hs => b86_01 ((one_rfl rfl) a w hs) ((one_rd (i := 81) rfl rd_slp) a w hs)))) ?_
  refine r1' rfl rfl (t_alloc (i := 82) rfl rfl rfl Try.zeroValue86 rfl rfl hw) (fun b_4 _ => ?_)
  refine r3' rfl rfl (t_stw (i := 82) rfl rfl rfl rfl rfl (by decide) rfl Try.sizeOf86 rfl rfl ⟨(one_rfl rfl), (one_rd (i := 81) rfl rd_slp), trivial⟩ rfl hw trivial) (fun _ _ => ?_)
  refine r_fin ?_
  refine a_done (by kernel_rfl) ?_
  refine x_then (e_seq (e_imp (s_eqp 81 (lgcd_pc _ x y) rfl rfl) ?_))
  refine e_reg (dt (d_lb2 (i := 3) rfl rfl rfl Try.isAgg86 Try.sizeOf86 rfl rfl) rfl ?_)
  refine dt (d_lb2 (i := 82) rfl rfl rfl Try.isAgg86 Try.sizeOf86 rfl rfl) rfl ?_
  refine tt (t_call (n := 6) (num_div _ _ _ _ x (lgcd x y) hs hgs (by omega) (by rw [hga]; omega) hg0) rfl rfl rfl ⟨rfl, rfl, trivial⟩ Try.call67 (pre_same 1 rfl rfl rfl (pre_same 81 rfl rfl rfl pre_nil)) rfl hw) rfl (fun g hg => ?_)
  refine mv rfl rfl (dt (d_ex rfl rfl rfl) rfl ?_)
  refine dt (d_ex rfl rfl rfl) rfl ?_
  refine tt (t_stw (i := 3) rfl rfl rfl rfl rfl (by decide) rfl Try.sizeOf86 rfl rfl ⟨(one_rfl rfl), (one_rd (i := 6) rfl rd_slp), trivial⟩ rfl hw trivial) rfl (fun _ _ => ?_)
  refine l_nil (x_then (e_seq (e_reg (dt (d_lb2 (i := 4) rfl rfl rfl Try.isAgg86 Try.sizeOf86 rfl rfl) rfl ?_))))
  refine dt (d_lb2 (i := 82) rfl rfl rfl Try.isAgg86 Try.sizeOf86 rfl rfl) rfl ?_
  refine tt (t_call (n := 8) (num_div _ _ _ _ y (lgcd x y) ht hgs (by omega) (by rw [hga]; omega) hg0) rfl rfl rfl ⟨rfl, rfl, trivial⟩ Try.call67 (pre_same 2 rfl rfl rfl (pre_same 81 rfl rfl rfl pre_nil)) rfl hw) rfl (fun g_2 hg_2 => ?_)
  refine mv rfl rfl (dt (d_ex rfl rfl rfl) rfl ?_)
  refine dt (d_ex rfl rfl rfl) rfl ?_
  refine tt (t_stw (i := 4) rfl rfl rfl rfl rfl (by decide) rfl Try.sizeOf86 rfl rfl ⟨(one_rfl rfl), (one_rd (i := 8) rfl rd_slp), trivial⟩ rfl hw trivial) rfl (fun _ _ => ?_)
  refine l_nil (x_then (e_seq (e_reg (dt (d_lb2 (i := 3) rfl rfl rfl Try.isAgg86 Try.sizeOf86 rfl rfl) rfl ?_))))
  refine tt (t_call (n := 9) (num_wide _ _ _ (by assumption) (by omega)) rfl rfl rfl ⟨rfl, trivial⟩ Try.call56 (pre_same 6 rfl rfl rfl pre_nil) rfl hw) rfl (fun _ _ => ?_)
  refine mv rfl rfl (dt (d_ex rfl rfl rfl) rfl ?_)
  refine dt (d_ex rfl rfl rfl) rfl ?_
  refine tt (t_alloc (i := 10) rfl rfl rfl Try.zeroValue26 rfl rfl hw) rfl (fun b_5 _ => ?_)
  refine tt (t_stw (i := 10) rfl rfl rfl rfl rfl (by decide) rfl Try.sizeOf26 rfl rfl ⟨(one_rfl rfl), (one_rfl rfl), trivial⟩ rfl hw trivial) rfl (fun _ _ => ?_)
  refine as_ rfl rfl (l_nil (x_then (e_seq (e_reg (dt (d_lb2 (i := 4) rfl rfl rfl Try.isAgg86 Try.sizeOf86 rfl rfl) rfl ?_)))))
  refine tt (t_call (n := 10) (num_wide _ _ _ (by assumption) (by omega)) rfl rfl rfl ⟨rfl, trivial⟩ Try.call56 (pre_same 8 rfl rfl rfl pre_nil) rfl hw) rfl (fun _ _ => ?_)
  refine mv rfl rfl (dt (d_ex rfl rfl rfl) rfl ?_)
  refine dt (d_ex rfl rfl rfl) rfl ?_
  refine tt (t_alloc (i := 11) rfl rfl rfl Try.zeroValue26 rfl rfl hw) rfl (fun b_6 _ => ?_)
  refine tt (t_stw (i := 11) rfl rfl rfl rfl rfl (by decide) rfl Try.sizeOf26 rfl rfl ⟨(one_rfl rfl), (one_rfl rfl), trivial⟩ rfl hw trivial) rfl (fun _ _ => ?_)
  refine as_ rfl rfl (l_nil (x_then (e_seq (e_seq (e_reg (mv rfl rfl (dt (d_neq rfl rfl rfl) rfl ?_)))))))
  refine mv rfl rfl (l_split (d := 43) rfl (fun s460 => ?_) (fun s460 => ?_))
  ·refine gsk rfl rfl rfl rfl rfl (gsk rfl rfl rfl rfl rfl (dt (d_pickt rfl rfl rfl) rfl ?_))
   refine l_nil (x_then (e_condt rfl ?_))
   refine e_seq (e_reg (dt (d_bld (ivs := []) rfl trivial (fun a w hs => b32_)) rfl ?_))
   refine tt (t_stw (i := 5) rfl rfl rfl rfl rfl (by decide) rfl Try.sizeOf32 rfl rfl ⟨(one_rfl rfl), (one_rfl rfl), (one_rfl rfl), (one_rfl rfl), trivial⟩ rfl hw trivial) rfl (fun _ _ => ?_)
   refine as_ rfl rfl (l_nil (x_then (e_ret (x_ret ?_))))
   exact x_end (.inl rfl) hsc () _ (fun a w hs => res2 hs Try.results61 (rv_cell (i := 5) rfl rfl Try.isAgg32 Try.sizeOf32 rfl) rfl) (ratio_full (by unfold rfull; first | exact .inl (full_ne (by assumption)) | exact .inr (full_ne (by assumption)))) trivial rfl give_nil
  ·refine gdt (d_mv rfl rfl) rfl rfl rfl rfl ?_
   refine gdt (d_neq rfl rfl rfl) rfl rfl rfl rfl ?_
   refine dt (d_pickf rfl rfl rfl) rfl ?_
   refine l_nil (x_then (e_cond rfl (fun h460 => ?_) (fun h460 => ?_)))
   ·refine e_seq (e_reg (dt (d_bld (ivs := []) rfl trivial (fun a w hs => b32_)) rfl ?_))
    refine tt (t_stw (i := 5) rfl rfl rfl rfl rfl (by decide) rfl Try.sizeOf32 rfl rfl ⟨(one_rfl rfl), (one_rfl rfl), (one_rfl rfl), (one_rfl rfl), trivial⟩ rfl hw trivial) rfl (fun _ _ => ?_)
    refine as_ rfl rfl (l_nil (x_then (e_ret (x_ret ?_))))
    exact x_end (.inl rfl) hsc () _ (fun a w hs => res2 hs Try.results61 (rv_cell (i := 5) rfl rfl Try.isAgg32 Try.sizeOf32 rfl) rfl) (ratio_full (by unfold rfull; first | exact .inl (full_ne (by assumption)) | exact .inr (full_ne (by assumption)))) trivial rfl give_nil
   ·refine e_skip ?_
    refine x_then (e_seq (e_reg (dt (d_lb2 (i := 10) rfl rfl rfl Try.isAgg26 Try.sizeOf26 rfl rfl) rfl ?_)))
    refine dt (d_lb2 (i := 11) rfl rfl rfl Try.isAgg26 Try.sizeOf26 rfl rfl) rfl ?_
    refine dt (d_bld (ivs := [(0, _), (1, _)]) rfl ⟨rfl, rfl, rfl, rfl, trivial⟩ (fun a w hs => b32_01)) rfl ?_
    refine tt (t_stw (i := 5) rfl rfl rfl rfl rfl (by decide) rfl Try.sizeOf32 rfl rfl ⟨(one_rfl rfl), (one_rfl rfl), (one_rfl rfl), (one_rfl rfl), trivial⟩ rfl hw trivial) rfl (fun _ _ => ?_)
    refine as_ rfl rfl (l_nil (x_then (e_ret ?_)))
    exact x_end (.inl rfl) hsc () _ (fun a w hs => res2 hs Try.results61 (rv_cell (i := 5) rfl rfl Try.isAgg32 Try.sizeOf32 rfl) rfl) (ratio_ok (Decidable.byContradiction (by assumption)) (Decidable.byContradiction (by assumption))) trivial rfl give_nil
 ·refine aact' rfl rfl (t_alloc (i := 82) rfl rfl rfl Try.zeroValue86 rfl rfl hw) (fun b_7 _ => ?_)
  refine a_lin' (n := 0) [(6, 1), (7, 0), (9, 3)] (by kernel_rfl) ?_
  refine r1' rfl rfl (t_call (n := 81) (nat_gcd _ _ _ _ (by omega) (by omega)) rfl rfl rfl ⟨rfl, rfl, trivial⟩ Try.call66 (pre_same 1 rfl rfl rfl (pre_same 2 rfl rfl rfl pre_nil)) rfl hw) (fun v_2 _ => ?_)
  refine r0' rfl rfl rfl rfl (st0 (d_bld (ivs := [(0, _), (1, _)]) rfl ⟨rfl, rfl, rfl, rfl, trivial⟩ (fun a w hs => b86_01 ((one_rfl rfl) a w hs) ((one_rd (i := 81) rfl rd_slp) a w hs)))) ?_
  refine r3' rfl rfl (t_stw (i := 82) rfl rfl rfl rfl rfl (by decide) rfl Try.sizeOf86 rfl rfl ⟨(one_rfl rfl), (one_rd (i := 81) rfl rd_slp), trivial⟩ rfl hw trivial) (fun _ _ => ?_)
  refine r_fin ?_
  refine a_done (by kernel_rfl) ?_
  refine x_then (e_seq (e_imp (s_eqp 81 (lgcd_pc _ x y) rfl rfl) ?_))
  refine e_reg (dt (d_lb2 (i := 3) rfl rfl rfl Try.isAgg86 Try.sizeOf86 rfl rfl) rfl ?_)
  refine dt (d_lb2 (i := 82) rfl rfl rfl Try.isAgg86 Try.sizeOf86 rfl rfl) rfl ?_
  refine tt (t_call (n := 12) (num_div _ _ _ _ x (lgcd x y) hs hgs (by omega) (by rw [hga]; omega) hg0) rfl rfl rfl ⟨rfl, rfl, trivial⟩ Try.call67 (pre_same 1 rfl rfl rfl (pre_same 81 rfl rfl rfl pre_nil)) rfl hw) rfl (fun g_3 hg_3 => ?_)
  refine mv rfl rfl (dt (d_ex rfl rfl rfl) rfl ?_)
  refine dt (d_ex rfl rfl rfl) rfl ?_
  refine tt (t_stw (i := 3) rfl rfl rfl rfl rfl (by decide) rfl Try.sizeOf86 rfl rfl ⟨(one_rfl rfl), (one_rd (i := 12) rfl rd_slp), trivial⟩ rfl hw trivial) rfl (fun _ _ => ?_)
  refine l_nil (x_then (e_seq (e_reg (dt (d_lb2 (i := 4) rfl rfl rfl Try.isAgg86 Try.sizeOf86 rfl rfl) rfl ?_))))
  refine dt (d_lb2 (i := 82) rfl rfl rfl Try.isAgg86 Try.sizeOf86 rfl rfl) rfl ?_
  refine tt (t_call (n := 14) (num_div _ _ _ _ y (lgcd x y) ht hgs (by omega) (by rw [hga]; omega) hg0) rfl rfl rfl ⟨rfl, rfl, trivial⟩ Try.call67 (pre_same 2 rfl rfl rfl (pre_same 81 rfl rfl rfl pre_nil)) rfl hw) rfl (fun g_4 hg_4 => ?_)
  refine mv rfl rfl (dt (d_ex rfl rfl rfl) rfl ?_)
  refine dt (d_ex rfl rfl rfl) rfl ?_
  refine tt (t_stw (i := 4) rfl rfl rfl rfl rfl (by decide) rfl Try.sizeOf86 rfl rfl ⟨(one_rfl rfl), (one_rd (i := 14) rfl rd_slp), trivial⟩ rfl hw trivial) rfl (fun _ _ => ?_)
  refine l_nil (x_then (e_seq (e_reg (dt (d_lb2 (i := 3) rfl rfl rfl Try.isAgg86 Try.sizeOf86 rfl rfl) rfl ?_))))
  refine tt (t_call (n := 15) (num_wide _ _ _ (by assumption) (by omega)) rfl rfl rfl ⟨rfl, trivial⟩ Try.call56 (pre_same 12 rfl rfl rfl pre_nil) rfl hw) rfl (fun _ _ => ?_)
  refine mv rfl rfl (dt (d_ex rfl rfl rfl) rfl ?_)
  refine dt (d_ex rfl rfl rfl) rfl ?_
  refine tt (t_alloc (i := 16) rfl rfl rfl Try.zeroValue26 rfl rfl hw) rfl (fun b_8 _ => ?_)
  refine tt (t_stw (i := 16) rfl rfl rfl rfl rfl (by decide) rfl Try.sizeOf26 rfl rfl ⟨(one_rfl rfl), (one_rfl rfl), trivial⟩ rfl hw trivial) rfl (fun _ _ => ?_)
  refine as_ rfl rfl (l_nil (x_then (e_seq (e_reg (dt (d_lb2 (i := 4) rfl rfl rfl Try.isAgg86 Try.sizeOf86 rfl rfl) rfl ?_)))))
  refine tt (t_call (n := 16) (num_wide _ _ _ (by assumption) (by omega)) rfl rfl rfl ⟨rfl, trivial⟩ Try.call56 (pre_same 14 rfl rfl rfl pre_nil) rfl hw) rfl (fun _ _ => ?_)
  refine mv rfl rfl (dt (d_ex rfl rfl rfl) rfl ?_)
  refine dt (d_ex rfl rfl rfl) rfl ?_
  refine tt (t_alloc (i := 17) rfl rfl rfl Try.zeroValue26 rfl rfl hw) rfl (fun b_9 _ => ?_)
  refine tt (t_stw (i := 17) rfl rfl rfl rfl rfl (by decide) rfl Try.sizeOf26 rfl rfl ⟨(one_rfl rfl), (one_rfl rfl), trivial⟩ rfl hw trivial) rfl (fun _ _ => ?_)
  refine as_ rfl rfl (l_nil (x_then (e_seq (e_seq (e_reg (mv rfl rfl (dt (d_neq rfl rfl rfl) rfl ?_)))))))
  refine mv rfl rfl (l_split (d := 43) rfl (fun s460_2 => ?_) (fun s460_2 => ?_))
  ·refine gsk rfl rfl rfl rfl rfl (gsk rfl rfl rfl rfl rfl (dt (d_pickt rfl rfl rfl) rfl ?_))
   refine l_nil (x_then (e_condt rfl ?_))
   refine e_seq (e_reg (dt (d_bld (ivs := []) rfl trivial (fun a w hs => b32_)) rfl ?_))
   refine tt (t_stw (i := 5) rfl rfl rfl rfl rfl (by decide) rfl Try.sizeOf32 rfl rfl ⟨(one_rfl rfl), (one_rfl rfl), (one_rfl rfl), (one_rfl rfl), trivial⟩ rfl hw trivial) rfl (fun _ _ => ?_)
   refine as_ rfl rfl (l_nil (x_then (e_ret (x_ret ?_))))
   exact x_end (.inl rfl) hsc () _ (fun a w hs => res2 hs Try.results61 (rv_cell (i := 5) rfl rfl Try.isAgg32 Try.sizeOf32 rfl) rfl) (ratio_full (by unfold rfull; first | exact .inl (full_ne (by assumption)) | exact .inr (full_ne (by assumption)))) trivial rfl give_nil
  ·refine gdt (d_mv rfl rfl) rfl rfl rfl rfl ?_
   refine gdt (d_neq rfl rfl rfl) rfl rfl rfl rfl ?_
   refine dt (d_pickf rfl rfl rfl) rfl ?_
   refine l_nil (x_then (e_cond rfl (fun h460_2 => ?_) (fun h460_2 => ?_)))
   ·refine e_seq (e_reg (dt (d_bld (ivs := []) rfl trivial (fun a w hs => b32_)) rfl ?_))
    refine tt (t_stw (i := 5) rfl rfl rfl rfl rfl (by decide) rfl Try.sizeOf32 rfl rfl ⟨(one_rfl rfl), (one_rfl rfl), (one_rfl rfl), (one_rfl rfl), trivial⟩ rfl hw trivial) rfl (fun _ _ => ?_)
    refine as_ rfl rfl (l_nil (x_then (e_ret (x_ret ?_))))
    exact x_end (.inl rfl) hsc () _ (fun a w hs => res2 hs Try.results61 (rv_cell (i := 5) rfl rfl Try.isAgg32 Try.sizeOf32 rfl) rfl) (ratio_full (by unfold rfull; first | exact .inl (full_ne (by assumption)) | exact .inr (full_ne (by assumption)))) trivial rfl give_nil
   ·refine e_skip ?_
    refine x_then (e_seq (e_reg (dt (d_lb2 (i := 16) rfl rfl rfl Try.isAgg26 Try.sizeOf26 rfl rfl) rfl ?_)))
    refine dt (d_lb2 (i := 17) rfl rfl rfl Try.isAgg26 Try.sizeOf26 rfl rfl) rfl ?_
    refine dt (d_bld (ivs := [(0, _), (1, _)]) rfl ⟨rfl, rfl, rfl, rfl, trivial⟩ (fun a w hs => b32_01)) rfl ?_
    refine tt (t_stw (i := 5) rfl rfl rfl rfl rfl (by decide) rfl Try.sizeOf32 rfl rfl ⟨(one_rfl rfl), (one_rfl rfl), (one_rfl rfl), (one_rfl rfl), trivial⟩ rfl hw trivial) rfl (fun _ _ => ?_)
    refine as_ rfl rfl (l_nil (x_then (e_ret ?_)))
    exact x_end (.inl rfl) hsc () _ (fun a w hs => res2 hs Try.results61 (rv_cell (i := 5) rfl rfl Try.isAgg32 Try.sizeOf32 rfl) rfl) (ratio_ok (Decidable.byContradiction (by assumption)) (Decidable.byContradiction (by assumption))) trivial rfl give_nil
theorem wide_ratio (x y : Int) (hx : bl x.natAbs ≤ 65536) (hy : bl y.natAbs ≤ 65536) (hy0 : y ≠ 0) : Cal Try.prog 44 #[wv x, wv y] [] false (G := Unit) (fun _ => True) (fun _ => ratioV x y) (fun _ => []) := by
 refine cal_in Try.func44 rfl Try.ntmps44 rfl trivial ?_
 intro w0 sc hw hsc
 simp only [enumEnv, enumPre]
 refine e_seq (e_reg (tt (t_box (i := 1) rfl rfl rfl rfl rfl rfl hw) rfl (fun b _ => ?_)))
 refine tt (t_box (i := 2) rfl rfl rfl rfl rfl rfl hw) rfl (fun b_2 _ => ?_)
 refine tt (t_alloc (i := 3) rfl rfl rfl Try.zeroValue32 rfl rfl hw) rfl (fun b_3 _ => ?_)
 refine as_ rfl rfl (l_nil (x_then (e_seq (e_seq (e_reg (dt (d_lb2 (i := 1) rfl rfl rfl Try.isAgg26 Try.sizeOf26 rfl rfl) rfl ?_))))))
 refine dt (d_lb2 (i := 2) rfl rfl rfl Try.isAgg26 Try.sizeOf26 rfl rfl) rfl ?_
 refine tt (t_call (n := 3) (wide_both_ok _ _ (by assumption) (by assumption)) rfl rfl rfl ⟨rfl, rfl, trivial⟩ Try.call54 pre_nil rfl hw) rfl (fun _ _ => ?_)
 refine dt (d_notb rfl rfl) rfl ?_
 refine l_nil (x_then (e_condf rfl ?_))
 refine e_skip ?_
 refine x_then (e_seq (e_seq (e_reg (dt (d_fa rfl rfl Try.underlying26 rfl Try.sizeOf9 rfl rfl) rfl ?_))))
 refine dt (d_lb (i := 2) rfl rfl rfl Try.isAgg9 rfl) rfl ?_
 refine dt (d_eqs0 rfl rfl rfl rfl) rfl ?_
 refine l_nil (x_then (e_cond rfl (fun h471 => ?_) (fun h471 => ?_)))
 ·rw [bstr_size] at h471
  exfalso; exact hy0 (by have := (dg_nil_iff (by omega : 2 ≤ 256) y.natAbs).1 h471; omega)
 ·refine e_skip ?_
  refine x_then (e_seq (e_dreg (fun _ => False) [(0, 0), (2, 0), (1, 1), (3, 1), (4, 1), (5, 0), (6, 0), (7, 3), (8, 3)] (by kernel_rfl) ?_ ?_))
  ·kernel_rfl
  refine r0' rfl rfl rfl rfl (st0 (d_lb2 (i := 1) rfl rfl rfl Try.isAgg26 Try.sizeOf26 rfl rfl)) ?_
  refine r0' rfl rfl rfl rfl (st0 (d_lb2 (i := 2) rfl rfl rfl Try.isAgg26 Try.sizeOf26 rfl rfl)) ?_
  refine r1' rfl rfl (t_call (n := 4) (wide_of _ _ (sg_dec _) (by omega)) rfl rfl rfl ⟨rfl, trivial⟩ Try.call57 pre_nil rfl hw) (fun g hg => ?_)
  refine r1' rfl rfl (t_call (n := 5) (wide_of _ _ (sg_dec _) (by omega)) rfl rfl rfl ⟨rfl, trivial⟩ Try.call57 pre_nil rfl hw) (fun g_2 hg_2 => ?_)
  refine r1' rfl rfl (t_call (n := 5) (wide_lowest _ _ _ _ _ _ (by assumption) (by assumption) (by omega) (by omega) hy0) rfl rfl rfl ⟨rfl, rfl, trivial⟩ Try.call61 (pre_same 4 rfl rfl rfl (pre_same 5 rfl rfl rfl pre_nil)) rfl hw) (fun _ _ => ?_)
  refine r0' rfl rfl rfl rfl (st0 (d_ex rfl rfl rfl)) ?_
  refine r0' rfl rfl rfl rfl (st0 (d_ex rfl rfl rfl)) ?_
  refine r3' rfl rfl (t_stw (i := 3) rfl rfl rfl rfl rfl (by decide) rfl Try.sizeOf32 rfl rfl ⟨(one_rfl rfl), (one_rfl rfl), (one_rfl rfl), (one_rfl rfl), trivial⟩ rfl hw trivial) (fun _ _ => ?_)
  refine r3' rfl rfl (t_det (d_as rfl rfl) rfl rfl) (fun _ _ => ?_)
  refine r_end ?_
  refine x_then (e_ret ?_)
  exact x_end (.inl rfl) hsc () _ (fun a w hs => res2 hs Try.results44 (rv_cell (i := 3) rfl rfl Try.isAgg32 Try.sizeOf32 rfl) rfl) rfl trivial rfl give_nil
theorem wide_validratio (b : Bool) (s : ByteArray) (c : Bool) (t : ByteArray) : Cal Try.prog 32 #[.agg #[.bool b, .string s, .bool c, .string t]] [] false (G := Unit) (fun _ => True) (fun _ => .bool (okR b s c t)) (fun _ => []) := by
 refine cal_in Try.func32 rfl Try.ntmps32 rfl trivial ?_
 intro w0 sc hw hsc
 simp only [enumEnv, enumPre]
 refine e_seq (e_reg (tt (t_box (i := 1) rfl rfl rfl rfl rfl rfl hw) rfl (fun b _ => ?_)))
 refine as_ rfl rfl (l_nil (x_then (e_seq (e_reg (dt (d_fa rfl rfl Try.underlying32 rfl Try.sizeOf26 rfl rfl) rfl ?_)))))
 refine dt (d_lb2 (i := 1) rfl rfl rfl Try.isAgg26 Try.sizeOf26 rfl rfl) rfl ?_
 refine dt (d_fa rfl rfl Try.underlying32 rfl Try.sizeOf26 rfl rfl) rfl ?_
 refine dt (d_lb2 (i := 1) rfl rfl rfl Try.isAgg26 Try.sizeOf26 rfl rfl) rfl ?_
 refine tt (t_call (n := 1) (wide_both _ _ _ _) rfl rfl rfl ⟨rfl, rfl, trivial⟩ Try.call54 pre_nil rfl hw) rfl (fun _ _ => ?_)
 refine mv rfl rfl (l_splitb (d := 8) rfl (fun s451 => ?_) (fun s451 => ?_))
 ·have hcc : okW c t = true := by simp_all
  have hok := okW_ex hcc
  obtain ⟨hk1, hk2, hk3⟩ := Classical.choose_spec hok
  generalize Classical.choose hok = z at hk1 hk2 hk3 ⊢
  subst hk2; subst hk3
  try clear hok
  refine gdt (d_fa rfl rfl Try.underlying32 rfl Try.sizeOf26 rfl rfl) rfl rfl rfl rfl ?_
  refine gdt (d_lb2 (i := 1) rfl rfl rfl Try.isAgg26 Try.sizeOf26 rfl rfl) rfl rfl rfl rfl ?_
  refine gtt (t_call (n := 1) (wide_sign z hk1) rfl rfl rfl ⟨rfl, trivial⟩ Try.call35 pre_nil rfl hw) rfl rfl rfl rfl (fun _ _ => ?_)
  refine gdt (d_gtr rfl rfl rfl) rfl rfl rfl rfl ?_
  refine dt (d_pickt rfl rfl rfl) rfl ?_
  refine as_ rfl rfl (l_nil (x_then (e_ret ?_)))
  exact x_end (.inl rfl) hsc () _ (fun a w hs => res1 hs Try.results32 rfl) (by first | rw [okR_sign (by simp_all) hk1] | (unfold okR; simp_all)) trivial rfl give_nil
 ·refine gsk rfl rfl rfl rfl rfl (gsk rfl rfl rfl rfl rfl (gsk rfl rfl rfl rfl rfl (gsk rfl rfl rfl rfl rfl (dt (d_pickf rfl rfl rfl) rfl ?_))))
  refine as_ rfl rfl (l_nil (x_then (e_ret ?_)))
  exact x_end (.inl rfl) hsc () _ (fun a w hs => res1 hs Try.results32 rfl) (by first | rw [okR_sign (by simp_all) hk1] | (unfold okR; simp_all)) trivial rfl give_nil
theorem wide_validratio_ok (x y : Int) (hx : bl x.natAbs ≤ 65536) (hy : bl y.natAbs ≤ 65536) (hy0 : 0 < y) : Cal Try.prog 32 #[.agg #[.bool (decide (x < 0)), .string (bstr x.natAbs), .bool (decide (y < 0)), .string (bstr y.natAbs)]] [] false (G := Unit) (fun _ => True) (fun _ => .bool true) (fun _ => []) := okR_wv hx hy hy0 ▸ wide_validratio _ _ _ _
theorem wide_of_int (x : Int) (hx : inI x) : Cal Try.prog 33 #[.int .i64 x] [] false (G := Unit) (fun _ => True) (fun _ => wv x) (fun _ => []) := by
 refine cal_in Try.func33 rfl Try.ntmps33 rfl trivial ?_
 intro w0 sc hw hsc
 simp only [enumEnv, enumPre]
 have hxa := hx.1
 have hxb := hx.2
 have hxU : x.natAbs < U := by simp only [U]; omega
 have hxl : bl x.natAbs ≤ 64 := (bl_le 64 _).2 (by rw [← U_eq]; exact hxU)
 refine e_seq (e_reg (tt (t_alloc (i := 1) rfl rfl rfl Try.zeroValue26 rfl rfl hw) rfl (fun b _ => ?_)))
 refine l_nil (x_then (e_seq (e_reg (mv rfl rfl (dt (cv_u64i (r := x % 18446744073709551616) rfl rfl Try.underlying3 Try.underlying81 rfl) rfl ?_)))))
 refine as_ rfl rfl (l_nil (x_then (e_jn [(0, _), (2, _)] [(0, _), (1, _)] (fun (_ : Unit) => [(3, .int .u64 ((x.natAbs : Nat) : Int))]) (fun (_ : Unit) => []) (fun (_ : Unit) => True) ⟨rfl, rfl, trivial⟩ ⟨rfl, rfl, trivial⟩ ?_ ?_)))
 ·refine e_seq (e_reg (mv rfl rfl (dt (d_lss rfl rfl rfl) rfl ?_)))
  refine l_nil (x_then (e_cond rfl (fun h276 => ?_) (fun h276 => ?_)))
  ·refine e_reg (mv rfl rfl (dt (u_negm (r := x.natAbs) rfl rfl (by omega)) rfl ?_))
   refine as_ rfl rfl (l_nil ?_)
   exact x_jn () trivial ⟨by first | rfl | (rw [show x % 18446744073709551616 = ((x.natAbs : Nat) : Int) by omega]; rfl), rfl, rfl, trivial⟩ ⟨rfl, rfl, trivial⟩
  ·refine e_skip ?_
   exact x_jn () trivial ⟨by first | rfl | (rw [show x % 18446744073709551616 = ((x.natAbs : Nat) : Int) by omega]; rfl), rfl, rfl, trivial⟩ ⟨rfl, rfl, trivial⟩
 ·rintro _ -
  simp only [List.cons_append, List.nil_append]
  refine e_seq (e_reg (mv rfl rfl (dt (d_lss rfl rfl rfl) rfl ?_)))
  refine mv rfl rfl (tt (t_bsg (i := 2) (ivs := [(0, _)]) (enc := encU) [x.natAbs] rfl rfl rfl ⟨rfl, rfl, trivial⟩ Try.underlying83 Try.ti81 rfl rfl rfl rfl rfl rfl pU.cells rfl rfl hw) rfl (fun v _ => ?_))
  refine tt (t_call (n := 2) (nat_trim_own _ _) rfl rfl rfl ⟨rfl, trivial⟩ Try.call55 (pre_lend 2 rfl rfl pU pre_nil) rfl hw) rfl (fun _ _ => ?_)
  refine l_imp (s_tz 2 rfl rfl pU) ?_
  refine l_imp (s_oeq 2 (tz_single hxU) rfl rfl) ?_
  refine dt (d_bld (ivs := [(0, _), (1, _)]) rfl ⟨rfl, rfl, rfl, rfl, trivial⟩ (fun a w hs => b86_01 ((one_rfl rfl) a w hs) ((one_rd (i := 2) rfl (rd_osl pU)) a w hs))) rfl ?_
  refine tt (t_call (n := 2) (num_wide _ _ x (sg_dec _) (by omega)) rfl rfl rfl ⟨rfl, trivial⟩ Try.call56 (pre_lend 2 rfl rfl pU pre_nil) rfl hw) rfl (fun _ _ => ?_)
  refine mv rfl rfl (dt (d_ex rfl rfl rfl) rfl ?_)
  refine dt (d_ex rfl rfl rfl) rfl ?_
  refine tt (t_alloc (i := 3) rfl rfl rfl Try.zeroValue26 rfl rfl hw) rfl (fun b_2 _ => ?_)
  refine tt (t_stw (i := 3) rfl rfl rfl rfl rfl (by decide) rfl Try.sizeOf26 rfl rfl ⟨(one_rfl rfl), (one_rfl rfl), trivial⟩ rfl hw trivial) rfl (fun _ _ => ?_)
  refine as_ rfl rfl (l_nil (x_then (e_seq (e_reg (dt (d_lb2 (i := 3) rfl rfl rfl Try.isAgg26 Try.sizeOf26 rfl rfl) rfl ?_)))))
  refine tt (t_stw (i := 1) rfl rfl rfl rfl rfl (by decide) rfl Try.sizeOf26 rfl rfl ⟨(one_rfl rfl), (one_rfl rfl), trivial⟩ rfl hw trivial) rfl (fun _ _ => ?_)
  refine l_nil (x_then (e_ret ?_))
  exact x_end (.inl rfl) hsc () _ (fun a w hs => res1 hs Try.results33 (rv_cell (i := 1) rfl rfl Try.isAgg26 Try.sizeOf26 rfl)) (by rw [clip_ok (by omega)] <;> rfl) trivial rfl give_nil
end Go.Sky

