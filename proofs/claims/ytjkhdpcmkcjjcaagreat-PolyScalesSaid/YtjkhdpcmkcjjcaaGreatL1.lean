/- the law
   Proved without conditions of its own: each theorem bears its own. -/
import Derived.Test.YtjkhdpcmkcjjcaaGreatD
import Derived.Test.YtjkhdpcmkcjjcaaGreatB
import Derived.Test.YtjkhdpcmkcjjcaaGreatC
import Derived.Test.YtjkhdpcmkcjjcaaGreatJ
import Derived.Test.YtjkhdpcmkcjjcaaGreatK
set_option linter.all false
namespace Go.Sky
open Go.Proofs
set_option maxRecDepth 20000
set_option maxHeartbeats 4000000
set_option linter.unusedVariables false
set_option linter.unusedSimpArgs false
set_option maxHeartbeats 4000000 in
theorem law_scales_ok (v : Value) (xs : List Int) (y : Int) (hv : Vp xs) (hy : bl y.natAbs ≤ 65536) : Cal Tryz.prog 3 #[v, wv y] [slp 2 wv v xs] false (G := Unit) (fun _ => True) (fun _ => .bool true) (fun _ => []) := by
 refine cal_in Tryz.func3 rfl Tryz.ntmps3 rfl ⟨rfl, trivial⟩ ?_
 intro w0 sc hw hsc
 simp only [enumEnv, enumPre]
 refine e_imp (s_nil 999 2 25 wv) ?_
 refine e_imp (s_pub 999 rfl rfl pV) ?_
 refine e_seq (e_ex (f_slice 1 rfl rd_slp) (fun sx hssx => ?_))
 subst hssx
 refine e_reg (tt (t_box (i := 2) rfl rfl rfl rfl rfl rfl hw) rfl (fun b _ => ?_))
 refine as_ rfl rfl (l_nil (x_then (e_seq (e_seq (e_reg (mv rfl rfl (tt (t_bsg (i := 3) (ivs := [(0, _)]) (enc := encS) [(sx, xs)] rfl rfl rfl ⟨rfl, rfl, trivial⟩ Tryz.underlying68 Tryz.ti23 rfl rfl rfl rfl rfl rfl pS.cells rfl rfl hw) rfl (fun v _ => ?_))))))))
 refine l_imp (s_many_nil qZ 900) ?_
 refine l_imp (s_many_snoc (q := qZ) (z := (sx, xs)) 900 1 901 rfl rfl rfl rfl rfl) ?_
 refine l_imp (s_pub 3 rfl rfl pS) ?_
 refine l_imp (s_mkdeep 3 901 965 rfl rfl rfl rfl) ?_
 refine tt (t_call (n := 3) (law_short_z _ _) rfl rfl rfl ⟨rfl, trivial⟩ Tryz.call10 (pre_same 965 rfl rfl rfl pre_nil) rfl hw) rfl (fun _ _ => ?_)
 refine dt (d_notb rfl rfl) rfl ?_
 refine mv rfl rfl (l_splitb (d := 18) rfl (fun s134 => ?_) (fun s134 => ?_))
 ·refine gsk rfl rfl rfl rfl rfl (gsk rfl rfl rfl rfl rfl (gsk rfl rfl rfl rfl rfl (gsk rfl rfl rfl rfl rfl (dt (d_pickt rfl rfl rfl) rfl ?_))))
  refine l_nil (x_then (e_condt rfl ?_))
  refine e_seq (e_reg (tt (t_call (n := 3) (law_known) rfl rfl rfl trivial Tryz.call11 pre_nil rfl hw) rfl (fun _ _ => ?_)))
  refine as_ rfl rfl (l_nil (x_then (e_ret (x_ret ?_))))
  exact x_end (.inl rfl) hsc () _ (fun a w hs => res1 hs Tryz.results3 rfl) rfl trivial rfl give_nil
 ·have hsh : shortb [xs.map wr] = true := by simpa using s134
  obtain ⟨hxl, hxs⟩ := short1_z (short_one hsh)
  have hx14 : xs.length ≤ 14 := by have := hv.len; omega
  refine gdt (d_fa rfl rfl Tryz.underlying25 rfl Tryz.sizeOf9 rfl rfl) rfl rfl rfl rfl ?_
  refine gdt (d_lb (i := 2) rfl rfl rfl Tryz.isAgg9 rfl) rfl rfl rfl rfl ?_
  refine gdt (d_lens rfl rfl Tryz.underlying9) rfl rfl rfl rfl ?_
  refine gdt (d_gtr rfl rfl rfl) rfl rfl rfl rfl ?_
  refine dt (d_pickf rfl rfl rfl) rfl ?_
  refine l_nil (x_then (e_cond rfl (fun h134 => ?_) (fun h134 => ?_)))
  ·refine e_seq (e_reg (tt (t_call (n := 3) (law_known) rfl rfl rfl trivial Tryz.call11 pre_nil rfl hw) rfl (fun _ _ => ?_)))
   refine as_ rfl rfl (l_nil (x_then (e_ret (x_ret ?_))))
   exact x_end (.inl rfl) hsc () _ (fun a w hs => res1 hs Tryz.results3 rfl) rfl trivial rfl give_nil
  ·have hyb : bl y.natAbs ≤ 240 := bstr_bl (n := 30) (by omega)
   refine e_skip ?_
   refine x_then (e_seq (e_reg (mv rfl rfl (dt (d_lb2 (i := 2) rfl rfl rfl Tryz.isAgg25 Tryz.sizeOf25 rfl rfl) rfl ?_))))
   refine tt (t_call (n := 4) (poly_scale _ _ _ hv hy (fun i => by have h1 := bl_imul (cf xs i) y; have h2 := hxs i; omega)) rfl rfl rfl ⟨rfl, rfl, trivial⟩ Tryz.call12 (pre_same 1 rfl rfl rfl pre_nil) rfl hw) rfl (fun _ _ => ?_)
   refine mv rfl rfl (dt (d_ex rfl rfl rfl) rfl ?_)
   refine dt (d_ex rfl rfl rfl) rfl ?_
   refine as_ rfl rfl (as_ rfl rfl (l_nil (x_then (e_seq (e_reg (mv rfl rfl (tt (t_call (n := 5) (poly_derive _ _ hv (fun i => Nat.le_trans (der_b hxs hv.len i) (by omega))) rfl rfl rfl ⟨rfl, trivial⟩ Tryz.call13 (pre_same 1 rfl rfl rfl pre_nil) rfl hw) rfl (fun _ _ => ?_))))))))
   refine mv rfl rfl (dt (d_ex rfl rfl rfl) rfl ?_)
   refine dt (d_ex rfl rfl rfl) rfl ?_
   refine as_ rfl rfl (as_ rfl rfl (l_nil (x_then (e_seq (e_reg (mv rfl rfl (tt (t_call (n := 5) (poly_content _ _ hv) rfl rfl rfl ⟨rfl, trivial⟩ Tryz.call14 (pre_same 1 rfl rfl rfl pre_nil) rfl hw) rfl (fun _ _ => ?_))))))))
   refine mv rfl rfl (dt (d_ex rfl rfl rfl) rfl ?_)
   refine dt (d_ex rfl rfl rfl) rfl ?_
   refine tt (t_alloc (i := 6) rfl rfl rfl Tryz.zeroValue25 rfl rfl hw) rfl (fun b_2 _ => ?_)
   refine tt (t_stw (i := 6) rfl rfl rfl rfl rfl (by decide) rfl Tryz.sizeOf25 rfl rfl ⟨(one_rfl rfl), (one_rfl rfl), trivial⟩ rfl hw trivial) rfl (fun _ _ => ?_)
   refine as_ rfl rfl (l_nil (x_then (e_seq (e_reg (mv rfl rfl (tt (t_call (n := 7) (poly_primitive _ _ hv) rfl rfl rfl ⟨rfl, trivial⟩ Tryz.call15 (pre_same 1 rfl rfl rfl pre_nil) rfl hw) rfl (fun _ _ => ?_)))))))
   refine mv rfl rfl (dt (d_ex rfl rfl rfl) rfl ?_)
   refine dt (d_ex rfl rfl rfl) rfl ?_
   refine as_ rfl rfl (as_ rfl rfl (l_nil (x_then (e_seq (e_seq (e_reg (mv rfl rfl (tt (t_bsg (i := 8) (ivs := [(0, _)]) (enc := encS) [(sx, xs)] rfl rfl rfl ⟨rfl, rfl, trivial⟩ Tryz.underlying68 Tryz.ti23 rfl rfl rfl rfl rfl rfl pS.cells rfl rfl hw) rfl (fun v_2 _ => ?_)))))))))
   refine l_imp (s_many_nil qZ 900) ?_
   refine l_imp (s_many_snoc (q := qZ) (z := (sx, xs)) 900 1 901 rfl rfl rfl rfl rfl) ?_
   refine l_imp (s_pub 8 rfl rfl pS) ?_
   refine l_imp (s_mkdeep 8 901 997 rfl rfl rfl rfl) ?_
   refine tt (t_call (n := 8) (law_valid_z _ _ (fun z hz => by cases hz with | head => exact hv | tail _ h => cases h)) rfl rfl rfl ⟨rfl, trivial⟩ Tryz.call16 (pre_same 997 rfl rfl rfl pre_nil) rfl hw) rfl (fun _ _ => ?_)
   refine dt (d_notb rfl rfl) rfl ?_
   refine l_nil (x_then (e_condf rfl ?_))
   refine e_skip ?_
   refine x_then (e_seq (e_reg (mv rfl rfl (tt (t_call (n := 9) (rp_from _ _ (hxs.mono (by omega)) (by omega)) rfl rfl rfl ⟨rfl, trivial⟩ Tryz.call17 (pre_same 1 rfl rfl rfl pre_nil) rfl hw) rfl (fun g hg => ?_)))))
   refine as_ rfl rfl (l_nil (x_then (e_seq (e_seq (e_reg (dt (d_lb2 (i := 2) rfl rfl rfl Tryz.isAgg25 Tryz.sizeOf25 rfl rfl) rfl ?_))))))
   refine tt (t_call (n := 9) (r_valid _ _) rfl rfl rfl ⟨rfl, trivial⟩ Tryz.call18 pre_nil rfl hw) rfl (fun _ _ => ?_)
   refine dt (det_is (r' := .bool false) (d_notb rfl rfl) (congrArg Value.bool (by rw [show okW (decide (y < 0)) (bstr y.natAbs) = true from okW_wv hy]; rfl))) rfl ?_
   refine l_nil (x_then (e_condf rfl ?_))
   refine e_seq (e_reg (mv rfl rfl (mv rfl rfl (mv rfl rfl (dt (d_lb2 (i := 2) rfl rfl rfl Tryz.isAgg25 Tryz.sizeOf25 rfl rfl) rfl ?_)))))
   refine tt (t_call (n := 10) (r_from _ (by omega)) rfl rfl rfl ⟨rfl, trivial⟩ Tryz.call21 pre_nil rfl hw) rfl (fun v_3 _ => ?_)
   refine tt (t_call (n := 11) (rp_scale _ _ _ _ (by rw [hg]; exact hxs.mono (by omega)) (by rw [← length_ints, hg]; omega) (by omega)) rfl rfl rfl ⟨rfl, rfl, trivial⟩ Tryz.call20 (pre_same 9 rfl rfl rfl (pre_same 10 rfl rfl rfl pre_nil)) rfl hw) rfl (fun g_2 hg_2 => ?_)
   refine tt (t_call (n := 11) (law_same _ _ _ _ _ rfl (by rw [hg_2, hg]) (by rw [hg_2, hg]; exact (sz_pscale hxs hyb).mono (by omega)) (by rw [← length_ints, hg_2, hg]; exact Nat.le_trans (pscale_len _ _) (by omega))) rfl rfl rfl ⟨rfl, rfl, rfl, trivial⟩ Tryz.call19 (pre_same 4 rfl rfl rfl (pre_same 11 rfl rfl rfl pre_nil)) rfl hw) rfl (fun _ _ => ?_)
   refine dt (d_notb rfl rfl) rfl ?_
   refine l_nil (x_then (e_condf rfl ?_))
   refine e_skip ?_
   refine x_then (e_seq (e_dreg (fun _ => False) [(0, 0), (1, 0), (2, 0), (3, 1), (4, 1), (5, 0), (6, 0), (7, 0), (8, 1), (9, 1), (10, 0), (11, 0), (12, 0), (13, 0), (14, 0), (15, 0), (16, 0), (17, 0), (18, 0), (19, 0), (20, 1), (21, 1), (22, 0), (23, 0), (24, 1), (25, 0), (26, 3)] (by kernel_rfl) ?_ ?_))
   ·kernel_rfl
   refine r0' rfl rfl rfl rfl (st0 (d_mv rfl rfl)) ?_
   refine r0' rfl rfl rfl rfl (st0 (d_mv rfl rfl)) ?_
   refine r0' rfl rfl rfl rfl (st0 (d_mv rfl rfl)) ?_
   refine r1' rfl rfl (t_call (n := 12) (rp_derive _ _ (by rw [hg]; exact hxs.mono (by omega)) (by rw [← length_ints, hg]; omega)) rfl rfl rfl ⟨rfl, trivial⟩ Tryz.call22 (pre_same 9 rfl rfl rfl pre_nil) rfl hw) (fun g_3 hg_3 => ?_)
   refine r1' rfl rfl (t_call (n := 12) (law_same _ _ _ _ _ rfl (by rw [hg_3, hg]) (by rw [hg_3, hg]; exact (sz_pder hxs hv.len).mono (by omega)) (by rw [← length_ints, hg_3, hg]; exact (by rw [len_pder]; omega))) rfl rfl rfl ⟨rfl, rfl, rfl, trivial⟩ Tryz.call19 (pre_same 5 rfl rfl rfl (pre_same 12 rfl rfl rfl pre_nil)) rfl hw) (fun _ _ => ?_)
   refine r0' rfl rfl rfl rfl (st0 (d_mv rfl rfl)) ?_
   refine r0g (st0 (d_lb2 (i := 6) rfl rfl rfl Tryz.isAgg25 Tryz.sizeOf25 rfl rfl)) rfl rfl rfl rfl rfl rfl rfl ?_
   refine r0g (st0 (d_mv rfl rfl)) rfl rfl rfl rfl rfl rfl rfl ?_
   refine r1g' rfl rfl rfl rfl rfl (t_call (n := 13) (rp_content _ _ (by rw [hg]; exact hxs.mono (by omega)) (by rw [← length_ints, hg]; omega)) rfl rfl rfl ⟨rfl, trivial⟩ Tryz.call24 (pre_same 9 rfl rfl rfl pre_nil) rfl hw) (fun v_4 _ => ?_)
   refine r1g' rfl rfl rfl rfl rfl (t_call (n := 13) (r_to _ _ (by rw [hg]; have := pcont_bl _ hxs; omega)) rfl rfl rfl ⟨rfl, trivial⟩ Tryz.call23 (pre_same 13 rfl rfl rfl pre_nil) rfl hw) (fun _ _ => ?_)
   refine r0g (st0 (det_is (r' := .bool true) (d_eqg rfl rfl rfl eg25 (fun w => eql25 w _ _ _ _)) (congrArg Value.bool (by simp [hg, eqW_refl])))) rfl rfl rfl rfl rfl rfl rfl ?_
   refine r0' rfl rfl rfl rfl (st0 (d_pickt rfl rfl rfl)) ?_
   refine r0' rfl rfl rfl rfl (st0 (d_mv rfl rfl)) ?_
   refine r0g (st0 (d_mv rfl rfl)) rfl rfl rfl rfl rfl rfl rfl ?_
   refine r0g (st0 (det_is (r' := .bool true) (d_eql rfl rfl rfl) (congrArg Value.bool (by decide)))) rfl rfl rfl rfl rfl rfl rfl ?_
   refine r0' rfl rfl rfl rfl (st0 (d_pickt rfl rfl rfl)) ?_
   refine r0' rfl rfl rfl rfl (st0 (d_mv rfl rfl)) ?_
   refine r0g (st0 (d_mv rfl rfl)) rfl rfl rfl rfl rfl rfl rfl ?_
   refine r0g (st0 (d_mv rfl rfl)) rfl rfl rfl rfl rfl rfl rfl ?_
   refine r0g (st0 (d_mv rfl rfl)) rfl rfl rfl rfl rfl rfl rfl ?_
   refine r1g' rfl rfl rfl rfl rfl (t_call (n := 14) (rp_primitive _ _ (by rw [hg]; exact hxs.mono (by omega)) (by rw [← length_ints, hg]; omega) (fun h => by rw [hg]; exact hv.ne (fun e => by have h7 := congrArg List.length hg; rw [e, length_ints] at h7; exact h h7))) rfl rfl rfl ⟨rfl, trivial⟩ Tryz.call25 (pre_same 9 rfl rfl rfl pre_nil) rfl hw) (fun g_4 hg_4 => ?_)
   refine r1g' rfl rfl rfl rfl rfl (t_call (n := 14) (law_same _ _ _ _ _ rfl (by rw [hg_4, hg]) (by rw [hg_4, hg]; exact (sz_pprim hxs).mono (by omega)) (by rw [← length_ints, hg_4, hg]; exact (by rw [length_pprim]; omega))) rfl rfl rfl ⟨rfl, rfl, rfl, trivial⟩ Tryz.call19 (pre_same 7 rfl rfl rfl (pre_same 14 rfl rfl rfl pre_nil)) rfl hw) (fun _ _ => ?_)
   refine r0' rfl rfl rfl rfl (st0 (d_pickt rfl rfl rfl)) ?_
   refine r0' rfl rfl rfl rfl (st0 (d_mv rfl rfl)) ?_
   refine r1g' rfl rfl rfl rfl rfl (t_call (n := 14) (law_known) rfl rfl rfl trivial Tryz.call11 pre_nil rfl hw) (fun _ _ => ?_)
   refine r0' rfl rfl rfl rfl (st0 (d_pickt rfl rfl rfl)) ?_
   refine r3' rfl rfl (t_det (d_as rfl rfl) rfl rfl) (fun _ _ => ?_)
   refine r_end ?_
   refine x_then (e_ret ?_)
   exact x_end (.inl rfl) hsc () _ (fun a w hs => res1 hs Tryz.results3 rfl) rfl trivial rfl give_nil
set_option maxHeartbeats 4000000 in
theorem law_scales_ob (v : Value) (xs : List Int) (b : Bool) (s : ByteArray) (hv : Vp xs) (hb : okW b s = false) : Cal Tryz.prog 3 #[v, .agg #[.bool b, .string s]] [slp 2 wv v xs] false (G := Unit) (fun _ => True) (fun _ => .bool true) (fun _ => []) := by
 refine cal_in Tryz.func3 rfl Tryz.ntmps3 rfl ⟨rfl, trivial⟩ ?_
 intro w0 sc hw hsc
 simp only [enumEnv, enumPre]
 refine e_imp (s_nil 999 2 25 wv) ?_
 refine e_imp (s_pub 999 rfl rfl pV) ?_
 refine e_seq (e_ex (f_slice 1 rfl rd_slp) (fun sx hssx => ?_))
 subst hssx
 refine e_reg (tt (t_box (i := 2) rfl rfl rfl rfl rfl rfl hw) rfl (fun b _ => ?_))
 refine as_ rfl rfl (l_nil (x_then (e_seq (e_seq (e_reg (mv rfl rfl (tt (t_bsg (i := 3) (ivs := [(0, _)]) (enc := encS) [(sx, xs)] rfl rfl rfl ⟨rfl, rfl, trivial⟩ Tryz.underlying68 Tryz.ti23 rfl rfl rfl rfl rfl rfl pS.cells rfl rfl hw) rfl (fun v _ => ?_))))))))
 refine l_imp (s_many_nil qZ 900) ?_
 refine l_imp (s_many_snoc (q := qZ) (z := (sx, xs)) 900 1 901 rfl rfl rfl rfl rfl) ?_
 refine l_imp (s_pub 3 rfl rfl pS) ?_
 refine l_imp (s_mkdeep 3 901 965 rfl rfl rfl rfl) ?_
 refine tt (t_call (n := 3) (law_short_z _ _) rfl rfl rfl ⟨rfl, trivial⟩ Tryz.call10 (pre_same 965 rfl rfl rfl pre_nil) rfl hw) rfl (fun _ _ => ?_)
 refine dt (d_notb rfl rfl) rfl ?_
 refine mv rfl rfl (l_splitb (d := 18) rfl (fun s134 => ?_) (fun s134 => ?_))
 ·refine gsk rfl rfl rfl rfl rfl (gsk rfl rfl rfl rfl rfl (gsk rfl rfl rfl rfl rfl (gsk rfl rfl rfl rfl rfl (dt (d_pickt rfl rfl rfl) rfl ?_))))
  refine l_nil (x_then (e_condt rfl ?_))
  refine e_seq (e_reg (tt (t_call (n := 3) (law_known) rfl rfl rfl trivial Tryz.call11 pre_nil rfl hw) rfl (fun _ _ => ?_)))
  refine as_ rfl rfl (l_nil (x_then (e_ret (x_ret ?_))))
  exact x_end (.inl rfl) hsc () _ (fun a w hs => res1 hs Tryz.results3 rfl) rfl trivial rfl give_nil
 ·have hsh : shortb [xs.map wr] = true := by simpa using s134
  obtain ⟨hxl, hxs⟩ := short1_z (short_one hsh)
  have hx14 : xs.length ≤ 14 := by have := hv.len; omega
  refine gdt (d_fa rfl rfl Tryz.underlying25 rfl Tryz.sizeOf9 rfl rfl) rfl rfl rfl rfl ?_
  refine gdt (d_lb (i := 2) rfl rfl rfl Tryz.isAgg9 rfl) rfl rfl rfl rfl ?_
  refine gdt (d_lens rfl rfl Tryz.underlying9) rfl rfl rfl rfl ?_
  refine gdt (d_gtr rfl rfl rfl) rfl rfl rfl rfl ?_
  refine dt (d_pickf rfl rfl rfl) rfl ?_
  refine l_nil (x_then (e_cond rfl (fun h134 => ?_) (fun h134 => ?_)))
  ·refine e_seq (e_reg (tt (t_call (n := 3) (law_known) rfl rfl rfl trivial Tryz.call11 pre_nil rfl hw) rfl (fun _ _ => ?_)))
   refine as_ rfl rfl (l_nil (x_then (e_ret (x_ret ?_))))
   exact x_end (.inl rfl) hsc () _ (fun a w hs => res1 hs Tryz.results3 rfl) rfl trivial rfl give_nil
  ·refine e_skip ?_
   refine x_then (e_seq (e_reg (mv rfl rfl (dt (d_lb2 (i := 2) rfl rfl rfl Tryz.isAgg25 Tryz.sizeOf25 rfl rfl) rfl ?_))))
   refine tt (t_call (n := 3) (poly_scale_zb _ _ _ _ (by assumption)) rfl rfl rfl ⟨rfl, rfl, trivial⟩ Tryz.call12 (pre_same 1 rfl rfl rfl pre_nil) rfl hw) rfl (fun _ _ => ?_)
   refine mv rfl rfl (dt (d_ex rfl rfl rfl) rfl ?_)
   refine dt (d_ex rfl rfl rfl) rfl ?_
   refine as_ rfl rfl (as_ rfl rfl (l_nil (x_then (e_seq (e_reg (mv rfl rfl (tt (t_call (n := 4) (poly_derive _ _ hv (fun i => Nat.le_trans (der_b hxs hv.len i) (by omega))) rfl rfl rfl ⟨rfl, trivial⟩ Tryz.call13 (pre_same 1 rfl rfl rfl pre_nil) rfl hw) rfl (fun _ _ => ?_))))))))
   refine mv rfl rfl (dt (d_ex rfl rfl rfl) rfl ?_)
   refine dt (d_ex rfl rfl rfl) rfl ?_
   refine as_ rfl rfl (as_ rfl rfl (l_nil (x_then (e_seq (e_reg (mv rfl rfl (tt (t_call (n := 4) (poly_content _ _ hv) rfl rfl rfl ⟨rfl, trivial⟩ Tryz.call14 (pre_same 1 rfl rfl rfl pre_nil) rfl hw) rfl (fun _ _ => ?_))))))))
   refine mv rfl rfl (dt (d_ex rfl rfl rfl) rfl ?_)
   refine dt (d_ex rfl rfl rfl) rfl ?_
   refine tt (t_alloc (i := 5) rfl rfl rfl Tryz.zeroValue25 rfl rfl hw) rfl (fun b_2 _ => ?_)
   refine tt (t_stw (i := 5) rfl rfl rfl rfl rfl (by decide) rfl Tryz.sizeOf25 rfl rfl ⟨(one_rfl rfl), (one_rfl rfl), trivial⟩ rfl hw trivial) rfl (fun _ _ => ?_)
   refine as_ rfl rfl (l_nil (x_then (e_seq (e_reg (mv rfl rfl (tt (t_call (n := 6) (poly_primitive _ _ hv) rfl rfl rfl ⟨rfl, trivial⟩ Tryz.call15 (pre_same 1 rfl rfl rfl pre_nil) rfl hw) rfl (fun _ _ => ?_)))))))
   refine mv rfl rfl (dt (d_ex rfl rfl rfl) rfl ?_)
   refine dt (d_ex rfl rfl rfl) rfl ?_
   refine as_ rfl rfl (as_ rfl rfl (l_nil (x_then (e_seq (e_seq (e_reg (mv rfl rfl (tt (t_bsg (i := 7) (ivs := [(0, _)]) (enc := encS) [(sx, xs)] rfl rfl rfl ⟨rfl, rfl, trivial⟩ Tryz.underlying68 Tryz.ti23 rfl rfl rfl rfl rfl rfl pS.cells rfl rfl hw) rfl (fun v_2 _ => ?_)))))))))
   refine l_imp (s_many_nil qZ 900) ?_
   refine l_imp (s_many_snoc (q := qZ) (z := (sx, xs)) 900 1 901 rfl rfl rfl rfl rfl) ?_
   refine l_imp (s_pub 7 rfl rfl pS) ?_
   refine l_imp (s_mkdeep 7 901 997 rfl rfl rfl rfl) ?_
   refine tt (t_call (n := 7) (law_valid_z _ _ (fun z hz => by cases hz with | head => exact hv | tail _ h => cases h)) rfl rfl rfl ⟨rfl, trivial⟩ Tryz.call16 (pre_same 997 rfl rfl rfl pre_nil) rfl hw) rfl (fun _ _ => ?_)
   refine dt (d_notb rfl rfl) rfl ?_
   refine l_nil (x_then (e_condf rfl ?_))
   refine e_skip ?_
   refine x_then (e_seq (e_reg (mv rfl rfl (tt (t_call (n := 8) (rp_from _ _ (hxs.mono (by omega)) (by omega)) rfl rfl rfl ⟨rfl, trivial⟩ Tryz.call17 (pre_same 1 rfl rfl rfl pre_nil) rfl hw) rfl (fun g hg => ?_)))))
   refine as_ rfl rfl (l_nil (x_then (e_seq (e_seq (e_reg (dt (d_lb2 (i := 2) rfl rfl rfl Tryz.isAgg25 Tryz.sizeOf25 rfl rfl) rfl ?_))))))
   refine tt (t_call (n := 8) (r_valid _ _) rfl rfl rfl ⟨rfl, trivial⟩ Tryz.call18 pre_nil rfl hw) rfl (fun _ _ => ?_)
   refine dt (det_is (r' := .bool true) (d_notb rfl rfl) (congrArg Value.bool (by rw [hb]; rfl))) rfl ?_
   refine l_nil (x_then (e_condt rfl ?_))
   refine e_seq (e_reg (mv rfl rfl (dt (d_len rfl rfl (i := 999) rfl rd_slp Tryz.underlying23) rfl ?_)))
   refine dt (det_is (r' := .bool false) (d_neq rfl rfl rfl) (congrArg Value.bool (by decide))) rfl ?_
   refine mv rfl rfl (gdt (d_mv rfl rfl) rfl rfl rfl rfl ?_)
   refine gdt (det_is (r' := .bool false) (d_neq rfl rfl rfl) (congrArg Value.bool (by decide))) rfl rfl rfl rfl ?_
   refine dt (d_pickf rfl rfl rfl) rfl ?_
   refine l_nil (x_then (e_condf rfl ?_))
   refine e_skip ?_
   refine x_then (e_seq (e_dreg (fun _ => False) [(0, 0), (1, 0), (2, 0), (3, 1), (4, 1), (5, 0), (6, 0), (7, 0), (8, 1), (9, 1), (10, 0), (11, 0), (12, 0), (13, 0), (14, 0), (15, 0), (16, 0), (17, 0), (18, 0), (19, 0), (20, 1), (21, 1), (22, 0), (23, 0), (24, 1), (25, 0), (26, 3)] (by kernel_rfl) ?_ ?_))
   ·kernel_rfl
   refine r0' rfl rfl rfl rfl (st0 (d_mv rfl rfl)) ?_
   refine r0' rfl rfl rfl rfl (st0 (d_mv rfl rfl)) ?_
   refine r0' rfl rfl rfl rfl (st0 (d_mv rfl rfl)) ?_
   refine r1' rfl rfl (t_call (n := 9) (rp_derive _ _ (by rw [hg]; exact hxs.mono (by omega)) (by rw [← length_ints, hg]; omega)) rfl rfl rfl ⟨rfl, trivial⟩ Tryz.call22 (pre_same 8 rfl rfl rfl pre_nil) rfl hw) (fun g_2 hg_2 => ?_)
   refine r1' rfl rfl (t_call (n := 9) (law_same _ _ _ _ _ rfl (by rw [hg_2, hg]) (by rw [hg_2, hg]; exact (sz_pder hxs hv.len).mono (by omega)) (by rw [← length_ints, hg_2, hg]; exact (by rw [len_pder]; omega))) rfl rfl rfl ⟨rfl, rfl, rfl, trivial⟩ Tryz.call19 (pre_same 4 rfl rfl rfl (pre_same 9 rfl rfl rfl pre_nil)) rfl hw) (fun _ _ => ?_)
   refine r0' rfl rfl rfl rfl (st0 (d_mv rfl rfl)) ?_
   refine r0g (st0 (d_lb2 (i := 5) rfl rfl rfl Tryz.isAgg25 Tryz.sizeOf25 rfl rfl)) rfl rfl rfl rfl rfl rfl rfl ?_
   refine r0g (st0 (d_mv rfl rfl)) rfl rfl rfl rfl rfl rfl rfl ?_
   refine r1g' rfl rfl rfl rfl rfl (t_call (n := 10) (rp_content _ _ (by rw [hg]; exact hxs.mono (by omega)) (by rw [← length_ints, hg]; omega)) rfl rfl rfl ⟨rfl, trivial⟩ Tryz.call24 (pre_same 8 rfl rfl rfl pre_nil) rfl hw) (fun v_3 _ => ?_)
   refine r1g' rfl rfl rfl rfl rfl (t_call (n := 10) (r_to _ _ (by rw [hg]; have := pcont_bl _ hxs; omega)) rfl rfl rfl ⟨rfl, trivial⟩ Tryz.call23 (pre_same 10 rfl rfl rfl pre_nil) rfl hw) (fun _ _ => ?_)
   refine r0g (st0 (det_is (r' := .bool true) (d_eqg rfl rfl rfl eg25 (fun w => eql25 w _ _ _ _)) (congrArg Value.bool (by simp [hg, eqW_refl])))) rfl rfl rfl rfl rfl rfl rfl ?_
   refine r0' rfl rfl rfl rfl (st0 (d_pickt rfl rfl rfl)) ?_
   refine r0' rfl rfl rfl rfl (st0 (d_mv rfl rfl)) ?_
   refine r0g (st0 (d_mv rfl rfl)) rfl rfl rfl rfl rfl rfl rfl ?_
   refine r0g (st0 (det_is (r' := .bool true) (d_eql rfl rfl rfl) (congrArg Value.bool (by decide)))) rfl rfl rfl rfl rfl rfl rfl ?_
   refine r0' rfl rfl rfl rfl (st0 (d_pickt rfl rfl rfl)) ?_
   refine r0' rfl rfl rfl rfl (st0 (d_mv rfl rfl)) ?_
   refine r0g (st0 (d_mv rfl rfl)) rfl rfl rfl rfl rfl rfl rfl ?_
   refine r0g (st0 (d_mv rfl rfl)) rfl rfl rfl rfl rfl rfl rfl ?_
   refine r0g (st0 (d_mv rfl rfl)) rfl rfl rfl rfl rfl rfl rfl ?_
   refine r1g' rfl rfl rfl rfl rfl (t_call (n := 11) (rp_primitive _ _ (by rw [hg]; exact hxs.mono (by omega)) (by rw [← length_ints, hg]; omega) (fun h => by rw [hg]; exact hv.ne (fun e => by have h7 := congrArg List.length hg; rw [e, length_ints] at h7; exact h h7))) rfl rfl rfl ⟨rfl, trivial⟩ Tryz.call25 (pre_same 8 rfl rfl rfl pre_nil) rfl hw) (fun g_3 hg_3 => ?_)
   refine r1g' rfl rfl rfl rfl rfl (t_call (n := 11) (law_same _ _ _ _ _ rfl (by rw [hg_3, hg]) (by rw [hg_3, hg]; exact (sz_pprim hxs).mono (by omega)) (by rw [← length_ints, hg_3, hg]; exact (by rw [length_pprim]; omega))) rfl rfl rfl ⟨rfl, rfl, rfl, trivial⟩ Tryz.call19 (pre_same 6 rfl rfl rfl (pre_same 11 rfl rfl rfl pre_nil)) rfl hw) (fun _ _ => ?_)
   refine r0' rfl rfl rfl rfl (st0 (d_pickt rfl rfl rfl)) ?_
   refine r0' rfl rfl rfl rfl (st0 (d_mv rfl rfl)) ?_
   refine r1g' rfl rfl rfl rfl rfl (t_call (n := 11) (law_known) rfl rfl rfl trivial Tryz.call11 pre_nil rfl hw) (fun _ _ => ?_)
   refine r0' rfl rfl rfl rfl (st0 (d_pickt rfl rfl rfl)) ?_
   refine r3' rfl rfl (t_det (d_as rfl rfl) rfl rfl) (fun _ _ => ?_)
   refine r_end ?_
   refine x_then (e_ret ?_)
   exact x_end (.inl rfl) hsc () _ (fun a w hs => res1 hs Tryz.results3 rfl) rfl trivial rfl give_nil
set_option maxHeartbeats 4000000 in
theorem law_scales_bad (v : Value) (r : RW) (b : Bool) (s : ByteArray) (hb : okP r = false) : Cal Tryz.prog 3 #[v, .agg #[.bool b, .string s]] [slp 2 encW v r] false (G := Unit) (fun _ => True) (fun _ => .bool true) (fun _ => []) := by
 refine cal_in Tryz.func3 rfl Tryz.ntmps3 rfl ⟨rfl, trivial⟩ ?_
 intro w0 sc hw hsc
 simp only [enumEnv, enumPre]
 refine e_imp (s_nil 999 2 25 wv) ?_
 refine e_imp (s_pub 999 rfl rfl pV) ?_
 refine e_seq (e_ex (f_slice 1 rfl rd_slp) (fun sx hssx => ?_))
 subst hssx
 refine e_reg (tt (t_box (i := 2) rfl rfl rfl rfl rfl rfl hw) rfl (fun b _ => ?_))
 refine as_ rfl rfl (l_nil (x_then (e_seq (e_seq (e_reg (mv rfl rfl (tt (t_bsg (i := 3) (ivs := [(0, _)]) (enc := encS) [(sx, r)] rfl rfl rfl ⟨rfl, rfl, trivial⟩ Tryz.underlying68 Tryz.ti23 rfl rfl rfl rfl rfl rfl pS.cells rfl rfl hw) rfl (fun v _ => ?_))))))))
 refine l_imp (s_many_nil qR 900) ?_
 refine l_imp (s_many_snoc (q := qR) (z := (sx, r)) 900 1 901 rfl rfl rfl rfl rfl) ?_
 refine l_imp (s_pub 3 rfl rfl pS) ?_
 refine l_imp (s_mkdeep 3 901 965 rfl rfl rfl rfl) ?_
 refine tt (t_call (n := 3) (law_short _ _) rfl rfl rfl ⟨rfl, trivial⟩ Tryz.call10 (pre_same 965 rfl rfl rfl pre_nil) rfl hw) rfl (fun _ _ => ?_)
 refine dt (d_notb rfl rfl) rfl ?_
 refine mv rfl rfl (l_splitb (d := 18) rfl (fun s134 => ?_) (fun s134 => ?_))
 ·refine gsk rfl rfl rfl rfl rfl (gsk rfl rfl rfl rfl rfl (gsk rfl rfl rfl rfl rfl (gsk rfl rfl rfl rfl rfl (dt (d_pickt rfl rfl rfl) rfl ?_))))
  refine l_nil (x_then (e_condt rfl ?_))
  refine e_seq (e_reg (tt (t_call (n := 3) (law_known) rfl rfl rfl trivial Tryz.call11 pre_nil rfl hw) rfl (fun _ _ => ?_)))
  refine as_ rfl rfl (l_nil (x_then (e_ret (x_ret ?_))))
  exact x_end (.inl rfl) hsc () _ (fun a w hs => res1 hs Tryz.results3 rfl) rfl trivial rfl give_nil
 ·refine gdt (d_fa rfl rfl Tryz.underlying25 rfl Tryz.sizeOf9 rfl rfl) rfl rfl rfl rfl ?_
  refine gdt (d_lb (i := 2) rfl rfl rfl Tryz.isAgg9 rfl) rfl rfl rfl rfl ?_
  refine gdt (d_lens rfl rfl Tryz.underlying9) rfl rfl rfl rfl ?_
  refine gdt (d_gtr rfl rfl rfl) rfl rfl rfl rfl ?_
  refine dt (d_pickf rfl rfl rfl) rfl ?_
  refine l_nil (x_then (e_cond rfl (fun h134 => ?_) (fun h134 => ?_)))
  ·refine e_seq (e_reg (tt (t_call (n := 3) (law_known) rfl rfl rfl trivial Tryz.call11 pre_nil rfl hw) rfl (fun _ _ => ?_)))
   refine as_ rfl rfl (l_nil (x_then (e_ret (x_ret ?_))))
   exact x_end (.inl rfl) hsc () _ (fun a w hs => res1 hs Tryz.results3 rfl) rfl trivial rfl give_nil
  ·refine e_skip ?_
   refine x_then (e_seq (e_reg (mv rfl rfl (dt (d_lb2 (i := 2) rfl rfl rfl Tryz.isAgg25 Tryz.sizeOf25 rfl rfl) rfl ?_))))
   refine tt (t_call (n := 3) (poly_scale_bad _ _ _ _ (fun h => by rw [hb] at h; cases h)) rfl rfl rfl ⟨rfl, rfl, trivial⟩ Tryz.call12 (pre_same 1 rfl rfl rfl pre_nil) rfl hw) rfl (fun _ _ => ?_)
   refine mv rfl rfl (dt (d_ex rfl rfl rfl) rfl ?_)
   refine dt (d_ex rfl rfl rfl) rfl ?_
   refine as_ rfl rfl (as_ rfl rfl (l_nil (x_then (e_seq (e_reg (mv rfl rfl (tt (t_call (n := 3) (poly_derive_bad _ _ (by assumption)) rfl rfl rfl ⟨rfl, trivial⟩ Tryz.call13 (pre_same 1 rfl rfl rfl pre_nil) rfl hw) rfl (fun _ _ => ?_))))))))
   refine mv rfl rfl (dt (d_ex rfl rfl rfl) rfl ?_)
   refine dt (d_ex rfl rfl rfl) rfl ?_
   refine as_ rfl rfl (as_ rfl rfl (l_nil (x_then (e_seq (e_reg (mv rfl rfl (tt (t_call (n := 3) (poly_content_bad _ _ (by assumption)) rfl rfl rfl ⟨rfl, trivial⟩ Tryz.call14 (pre_same 1 rfl rfl rfl pre_nil) rfl hw) rfl (fun _ _ => ?_))))))))
   refine mv rfl rfl (dt (d_ex rfl rfl rfl) rfl ?_)
   refine dt (d_ex rfl rfl rfl) rfl ?_
   refine tt (t_alloc (i := 4) rfl rfl rfl Tryz.zeroValue25 rfl rfl hw) rfl (fun b_2 _ => ?_)
   refine tt (t_stw (i := 4) rfl rfl rfl rfl rfl (by decide) rfl Tryz.sizeOf25 rfl rfl ⟨(one_rfl rfl), (one_rfl rfl), trivial⟩ rfl hw trivial) rfl (fun _ _ => ?_)
   refine as_ rfl rfl (l_nil (x_then (e_seq (e_reg (mv rfl rfl (tt (t_call (n := 4) (poly_primitive_bad _ _ (by assumption)) rfl rfl rfl ⟨rfl, trivial⟩ Tryz.call15 (pre_same 1 rfl rfl rfl pre_nil) rfl hw) rfl (fun _ _ => ?_)))))))
   refine mv rfl rfl (dt (d_ex rfl rfl rfl) rfl ?_)
   refine dt (d_ex rfl rfl rfl) rfl ?_
   refine as_ rfl rfl (as_ rfl rfl (l_nil (x_then (e_seq (e_seq (e_reg (mv rfl rfl (tt (t_bsg (i := 5) (ivs := [(0, _)]) (enc := encS) [(sx, r)] rfl rfl rfl ⟨rfl, rfl, trivial⟩ Tryz.underlying68 Tryz.ti23 rfl rfl rfl rfl rfl rfl pS.cells rfl rfl hw) rfl (fun v_2 _ => ?_)))))))))
   refine l_imp (s_many_nil qR 900) ?_
   refine l_imp (s_many_snoc (q := qR) (z := (sx, r)) 900 1 901 rfl rfl rfl rfl rfl) ?_
   refine l_imp (s_pub 5 rfl rfl pS) ?_
   refine l_imp (s_mkdeep 5 901 997 rfl rfl rfl rfl) ?_
   refine tt (t_call (n := 5) (law_valid _ _) rfl rfl rfl ⟨rfl, trivial⟩ Tryz.call16 (pre_same 997 rfl rfl rfl pre_nil) rfl hw) rfl (fun _ _ => ?_)
   refine dt (det_is (r' := .bool true) (d_notb rfl rfl) (congrArg Value.bool (by simp [hb]))) rfl ?_
   refine l_nil (x_then (e_condt rfl ?_))
   refine e_seq (e_reg (mv rfl rfl (dt (d_len rfl rfl (i := 999) rfl rd_slp Tryz.underlying23) rfl ?_)))
   refine dt (det_is (r' := .bool true) (d_eql rfl rfl rfl) (congrArg Value.bool (by decide))) rfl ?_
   refine mv rfl rfl (gdt (d_mv rfl rfl) rfl rfl rfl rfl ?_)
   refine gdt (det_is (r' := .bool true) (d_eql rfl rfl rfl) (congrArg Value.bool (by decide))) rfl rfl rfl rfl ?_
   refine dt (d_pickt rfl rfl rfl) rfl ?_
   refine mv rfl rfl (gdt (d_mv rfl rfl) rfl rfl rfl rfl ?_)
   refine gdt (d_len rfl rfl (i := 999) rfl rd_slp Tryz.underlying23) rfl rfl rfl rfl ?_
   refine gdt (det_is (r' := .bool true) (d_eql rfl rfl rfl) (congrArg Value.bool (by decide))) rfl rfl rfl rfl ?_
   refine dt (d_pickt rfl rfl rfl) rfl ?_
   refine mv rfl rfl (gdt (d_mv rfl rfl) rfl rfl rfl rfl ?_)
   refine gdt (det_is (r' := .bool true) (d_eql rfl rfl rfl) (congrArg Value.bool (by decide))) rfl rfl rfl rfl ?_
   refine dt (d_pickt rfl rfl rfl) rfl ?_
   refine mv rfl rfl (gdt (d_lb2 (i := 4) rfl rfl rfl Tryz.isAgg25 Tryz.sizeOf25 rfl rfl) rfl rfl rfl rfl ?_)
   refine gdt (d_bld (ivs := []) rfl trivial (fun a w hs => b25_)) rfl rfl rfl rfl ?_
   refine gdt (det_is (r' := .bool true) (d_eqg rfl rfl rfl eg25 (fun w => eql25 w _ _ _ _)) (congrArg Value.bool (by first | decide +kernel | simp [eqW_refl]))) rfl rfl rfl rfl ?_
   refine dt (d_pickt rfl rfl rfl) rfl ?_
   refine mv rfl rfl (gdt (d_mv rfl rfl) rfl rfl rfl rfl ?_)
   refine gdt (det_is (r' := .bool true) (d_eql rfl rfl rfl) (congrArg Value.bool (by decide))) rfl rfl rfl rfl ?_
   refine dt (d_pickt rfl rfl rfl) rfl ?_
   refine mv rfl rfl (gdt (d_mv rfl rfl) rfl rfl rfl rfl ?_)
   refine gdt (d_len rfl rfl (i := 999) rfl rd_slp Tryz.underlying23) rfl rfl rfl rfl ?_
   refine gdt (det_is (r' := .bool true) (d_eql rfl rfl rfl) (congrArg Value.bool (by decide))) rfl rfl rfl rfl ?_
   refine dt (d_pickt rfl rfl rfl) rfl ?_
   refine mv rfl rfl (gdt (d_mv rfl rfl) rfl rfl rfl rfl ?_)
   refine gdt (det_is (r' := .bool true) (d_eql rfl rfl rfl) (congrArg Value.bool (by decide))) rfl rfl rfl rfl ?_
   refine dt (d_pickt rfl rfl rfl) rfl ?_
   refine mv rfl rfl (gtt (t_call (n := 5) (law_known) rfl rfl rfl trivial Tryz.call11 pre_nil rfl hw) rfl rfl rfl rfl (fun _ _ => ?_))
   refine dt (d_pickt rfl rfl rfl) rfl ?_
   refine as_ rfl rfl (l_nil (x_then (e_ret (x_ret ?_))))
   exact x_end (.inl rfl) hsc () _ (fun a w hs => res1 hs Tryz.results3 rfl) rfl trivial rfl give_nil
end Go.Sky
namespace Go.Sky
open Go.Proofs
theorem law_scales (v : Value) (r : List (Bool × ByteArray)) (b : Bool) (s : ByteArray) : Cal Tryz.prog 3 #[v, .agg #[.bool b, .string s]] [slp 2 encW v r] false (G := Unit) (fun _ => True) (fun _ => .bool true) (fun _ => []) := by
  cases h : okP r with
  | false => exact law_scales_bad v r b s h
  | true =>
    obtain ⟨xs, hv, rfl⟩ := okP_ex h
    refine Cal.imp (p := slp 2 wv v xs) ?_ (slp_wr' v xs) (fun _ h => h)
    cases h2 : okW b s with
    | false => exact law_scales_ob v xs b s hv h2
    | true =>
      obtain ⟨y, hy, rfl, rfl⟩ := okW_ex h2
      exact law_scales_ok v xs y hv hy
end Go.Sky
