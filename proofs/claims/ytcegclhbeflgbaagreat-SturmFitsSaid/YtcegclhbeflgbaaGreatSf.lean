/- the law: part 13
   Proved without conditions of its own: each theorem bears its own. -/
import Derived.Test.YtcegclhbeflgbaaGreatSf02
import Derived.Test.YtcegclhbeflgbaaGreatSf01
import Derived.Test.YtcegclhbeflgbaaGreatSf03
import Derived.Test.YtcegclhbeflgbaaGreatSf11
set_option linter.all false
namespace Go.Sky
open Go.Proofs
set_option maxRecDepth 20000
set_option maxHeartbeats 4000000
set_option linter.unusedVariables false
set_option linter.unusedSimpArgs false
theorem law_sfits_out (v : Value) (r : List (Bool × ByteArray)) (b : Int) (hb : b < 1 ∨ 5000 < b) : Cal Tryz.prog 3 #[v, .int .i64 b] [slp 2 encW v r] false (G := Unit) (fun _ => True) (fun _ => .bool true) (fun _ => []) := by
 refine cal_in Tryz.func3 rfl Tryz.ntmps3 rfl ⟨rfl, trivial⟩ ?_
 intro w0 sc hw hsc
 simp only [enumEnv, enumPre]
 refine e_imp (s_nil 999 2 28 wv) ?_
 refine e_imp (s_pub 999 rfl rfl pV) ?_
 refine e_seq (e_reg (as_ rfl rfl (l_nil (x_then (e_seq (e_seq (e_reg (mv rfl rfl (tt (t_call (n := 1) (law_small _ _) rfl rfl rfl ⟨rfl, trivial⟩ Tryz.call10 (pre_same 1 rfl rfl rfl pre_nil) rfl hw) rfl (fun _ _ => ?_))))))))))
 refine dt (d_notb rfl rfl) rfl ?_
 refine l_nil (x_then (e_condb rfl (fun h93 => ?_) (fun h93 => ?_)))
 ·refine e_seq (e_reg (tt (t_call (n := 1) (law_known) rfl rfl rfl trivial Tryz.call11 pre_nil rfl hw) rfl (fun _ _ => ?_)))
  refine as_ rfl rfl (l_nil (x_then (e_ret (x_ret ?_))))
  exact x_end (.inl rfl) hsc () _ (fun a w hs => res1 hs Tryz.results3 rfl) rfl trivial rfl give_nil
 ·refine e_skip ?_
  refine x_then (e_seq ?_)
  obtain ⟨hr8, hr6⟩ := small_le (by simpa using h93)
  refine e_reg (mv rfl rfl (l_imp (s_nil 2 2 28 encW) ?_))
  refine tt (t_appa (i := 2) (j := 1) (by_ := 24) rfl rfl rfl rfl rfl rfl (by decide) rfl rd_slp Tryz.underlying23 Tryz.ti28 rfl pW rfl rfl rfl (by simp; omega) (by decide) rfl hw) rfl (fun v _ => ?_)
  refine as_ rfl rfl (l_nil (x_then (e_seq (e_seq (e_reg (mv rfl rfl (dt (d_geq rfl rfl rfl) rfl ?_)))))))
  refine mv rfl rfl (l_split (d := 18) rfl (fun s97 => ?_) (fun s97 => ?_))
  ·refine gdt (d_mv rfl rfl) rfl rfl rfl rfl ?_
   refine gdt (d_leq rfl rfl rfl) rfl rfl rfl rfl ?_
   refine dt (d_pickt rfl rfl rfl) rfl ?_
   refine l_nil (x_then (e_cond rfl (fun h97 => ?_) (fun h97 => ?_)))
   ·exfalso; omega
   ·refine e_skip ?_
    refine x_then (e_seq ?_)
    obtain ⟨r1, hr1⟩ : ∃ r1 : RWL, [] ++ r = r1 := ⟨_, rfl⟩
    refine e_imp (s_oeq 2 hr1 rfl rfl) ?_
    have hr9 : r1.length ≤ 9 := by rw [← hr1]; simp; omega
    clear hr1
    refine e_imp (s_pub 2 rfl rfl pW) ?_
    refine e_reg (mv rfl rfl (tt (t_call (n := 2) (st_bound_any _ _) rfl rfl rfl ⟨rfl, trivial⟩ Tryz.call12 (pre_same 2 rfl rfl rfl pre_nil) rfl hw) rfl (fun _ _ => ?_)))
    refine mv rfl rfl (dt (d_ex rfl rfl rfl) rfl ?_)
    refine dt (d_ex rfl rfl rfl) rfl ?_
    refine tt (t_alloc (i := 3) rfl rfl rfl Tryz.zeroValue28 rfl rfl hw) rfl (fun bx _ => ?_)
    refine tt (t_stw (i := 3) rfl rfl rfl rfl rfl (by decide) rfl Tryz.sizeOf28 rfl rfl ⟨(one_rfl rfl), (one_rfl rfl), trivial⟩ rfl hw trivial) rfl (fun _ _ => ?_)
    refine as_ rfl rfl (l_nil (x_then (e_seq (e_seq (e_reg (mv rfl rfl (tt (t_call (n := 3) (rp_valid _ _) rfl rfl rfl ⟨rfl, trivial⟩ Tryz.call13 (pre_same 2 rfl rfl rfl pre_nil) rfl hw) rfl (fun _ _ => ?_))))))))
    refine dt (d_notb rfl rfl) rfl ?_
    refine l_nil (x_then (e_condb rfl (fun h103 => ?_) (fun h103 => ?_)))
    ·have hno : okP r1 = false := by simpa using h103
     have he := bdE_no hno
     have hz := bdZ_no (r := r1) (by rw [he]; decide)
     refine e_seq (e_reg (mv rfl rfl (tt (t_call (n := 3) (st_fits_any _ _) rfl rfl rfl ⟨rfl, trivial⟩ Tryz.call14 (pre_same 2 rfl rfl rfl pre_nil) rfl hw) rfl (fun _ _ => ?_))))
     refine dt (det_is (r' := .bool true) (d_notb rfl rfl) (congrArg Value.bool (by rw [hno]; rfl))) rfl ?_
     refine mv rfl rfl (gdt (d_lb2 (i := 3) rfl rfl rfl Tryz.isAgg28 Tryz.sizeOf28 rfl rfl) rfl rfl rfl rfl ?_)
     refine gdt (d_bld (ivs := []) rfl trivial (fun a w hs => b28_)) rfl rfl rfl rfl ?_
     refine gdt (det_is (r' := .bool true) (d_eqg rfl rfl rfl eg28 (fun w => eql28 w _ _ _ _)) (congrArg Value.bool (by rw [hz]; exact eqW_refl _ _))) rfl rfl rfl rfl ?_
     refine dt (d_pickt rfl rfl rfl) rfl ?_
     refine mv rfl rfl (gdt (d_mv rfl rfl) rfl rfl rfl rfl ?_)
     refine gdt (det_is (r' := .bool true) (d_eql rfl rfl rfl) (congrArg Value.bool (by rw [he]; decide))) rfl rfl rfl rfl ?_
     refine dt (d_pickt rfl rfl rfl) rfl ?_
     refine mv rfl rfl (gtt (t_call (n := 3) (law_known) rfl rfl rfl trivial Tryz.call11 pre_nil rfl hw) rfl rfl rfl rfl (fun _ _ => ?_))
     refine dt (d_pickt rfl rfl rfl) rfl ?_
     refine as_ rfl rfl (l_nil (x_then (e_ret (x_ret ?_))))
     exact x_end (.inl rfl) hsc () _ (fun a w hs => res1 hs Tryz.results3 rfl) rfl trivial rfl give_nil
    ·have hok : okP r1 = true := by simpa using h103
     refine e_skip ?_
     refine x_then (e_seq ?_)
     obtain ⟨hv, hrr⟩ := dec_ok hok
     have hlr := congrArg List.length hrr
     rw [List.length_map] at hlr
     have hbe := bdE_ok hok
     refine e_imp (s_sub (q := slp 2 wv _ (dec r1)) 2 88 rfl rfl rfl (slp_dec hok _) (fun _ h => h) rfl) ?_
     refine e_reg (mv rfl rfl (tt (t_call (n := 4) (rp_from _ _ (hv.sz.mono (by omega)) (by omega)) rfl rfl rfl ⟨rfl, trivial⟩ Tryz.call15 (pre_same 88 rfl rfl rfl pre_nil) rfl hw) rfl (fun g hg => ?_)))
     have hG : ints g.2 = dec r1 := hg
     refine as_ rfl rfl (l_nil (x_then (e_seq (e_seq (e_reg (mv rfl rfl (tt (t_call (n := 4) (st_fits _ _ hv) rfl rfl rfl ⟨rfl, trivial⟩ Tryz.call14 (pre_same 88 rfl rfl rfl pre_nil) rfl hw) rfl (fun _ _ => ?_))))))))
     refine mv rfl rfl (tt (t_call (n := 4) (r3_fits _ _ (by rw [hG]; exact hv.sz.mono (by omega)) (by have h7 := congrArg List.length hG; rw [length_ints] at h7; omega)) rfl rfl rfl ⟨rfl, trivial⟩ Tryz.call16 (pre_same 4 rfl rfl rfl pre_nil) rfl hw) rfl (fun _ _ => ?_))
     refine dt (det_is (r' := .bool false) (d_neb rfl rfl rfl Tryz.underlying4) (congrArg Value.bool (by rw [hG]; simp))) rfl ?_
     refine l_nil (x_then (e_condf rfl ?_))
     refine e_skip ?_
     refine x_then (e_seq (e_seq (e_reg (mv rfl rfl (dt (d_len rfl rfl (i := 88) rfl rd_slp Tryz.underlying23) rfl ?_)))))
     refine dt (d_eql rfl rfl rfl) rfl ?_
     refine l_nil (x_then (e_cond rfl (fun h110 => ?_) (fun h110 => ?_)))
     ·have he : bdE r1 = 3 := by rw [hbe]; unfold chk0; rw [if_pos (by omega)]
      have hz := bdZ_no (r := r1) (by rw [he]; decide)
      refine e_seq (e_reg (dt (d_lb2 (i := 3) rfl rfl rfl Tryz.isAgg28 Tryz.sizeOf28 rfl rfl) rfl ?_))
      refine dt (d_bld (ivs := []) rfl trivial (fun a w hs => b28_)) rfl ?_
      refine dt (det_is (r' := .bool true) (d_eqg rfl rfl rfl eg28 (fun w => eql28 w _ _ _ _)) (congrArg Value.bool (by rw [hz]; exact eqW_refl _ _))) rfl ?_
      refine mv rfl rfl (gdt (d_mv rfl rfl) rfl rfl rfl rfl ?_)
      refine gdt (det_is (r' := .bool true) (d_eql rfl rfl rfl) (congrArg Value.bool (by rw [he]; decide))) rfl rfl rfl rfl ?_
      refine dt (d_pickt rfl rfl rfl) rfl ?_
      refine mv rfl rfl (gtt (t_call (n := 4) (law_known) rfl rfl rfl trivial Tryz.call11 pre_nil rfl hw) rfl rfl rfl rfl (fun _ _ => ?_))
      refine dt (d_pickt rfl rfl rfl) rfl ?_
      refine as_ rfl rfl (l_nil (x_then (e_ret (x_ret ?_))))
      exact x_end (.inl rfl) hsc () _ (fun a w hs => res1 hs Tryz.results3 rfl) rfl trivial rfl give_nil
     ·refine e_skip ?_
      refine x_then (e_seq (e_seq (e_reg (mv rfl rfl (tt (t_call (n := 4) (r3_fits _ _ (by rw [hG]; exact hv.sz.mono (by omega)) (by have h7 := congrArg List.length hG; rw [length_ints] at h7; omega)) rfl rfl rfl ⟨rfl, trivial⟩ Tryz.call16 (pre_same 4 rfl rfl rfl pre_nil) rfl hw) rfl (fun _ _ => ?_))))))
      refine dt (d_not rfl rfl) rfl ?_
      refine l_nil (x_then (e_cond rfl (fun h113 => ?_) (fun h113 => ?_)))
      ·have hsf : ¬ sfits (dec r1) := by rw [hG] at h113; simpa using h113
       have he : bdE r1 = 7 := by rw [hbe]; unfold chk0; rw [if_neg (by omega), if_neg hsf]
       have hz := bdZ_no (r := r1) (by rw [he]; decide)
       refine e_seq (e_reg (dt (d_lb2 (i := 3) rfl rfl rfl Tryz.isAgg28 Tryz.sizeOf28 rfl rfl) rfl ?_))
       refine dt (d_bld (ivs := []) rfl trivial (fun a w hs => b28_)) rfl ?_
       refine dt (det_is (r' := .bool true) (d_eqg rfl rfl rfl eg28 (fun w => eql28 w _ _ _ _)) (congrArg Value.bool (by rw [hz]; exact eqW_refl _ _))) rfl ?_
       refine mv rfl rfl (gdt (d_mv rfl rfl) rfl rfl rfl rfl ?_)
       refine gdt (det_is (r' := .bool true) (d_eql rfl rfl rfl) (congrArg Value.bool (by rw [he]; decide))) rfl rfl rfl rfl ?_
       refine dt (d_pickt rfl rfl rfl) rfl ?_
       refine mv rfl rfl (gtt (t_call (n := 4) (law_known) rfl rfl rfl trivial Tryz.call11 pre_nil rfl hw) rfl rfl rfl rfl (fun _ _ => ?_))
       refine dt (d_pickt rfl rfl rfl) rfl ?_
       refine as_ rfl rfl (l_nil (x_then (e_ret (x_ret ?_))))
       exact x_end (.inl rfl) hsc () _ (fun a w hs => res1 hs Tryz.results3 rfl) rfl trivial rfl give_nil
      ·have hsf : sfits (dec r1) := by rw [hG] at h113; simpa using h113
       have he : bdE r1 = 0 := by rw [hbe]; unfold chk0; rw [if_neg (by omega), if_pos hsf]
       have hz := bdZ_ok he
       refine e_skip ?_
       refine x_then (e_seq (e_dreg (fun _ => False) [(0, 0), (1, 0), (2, 1), (3, 1), (4, 0), (5, 0), (6, 0), (7, 0), (8, 0), (9, 0), (10, 1), (11, 0), (12, 3)] (by kernel_rfl) ?_ ?_))
       ·kernel_rfl
       refine r0' rfl rfl rfl rfl (st0 (d_lb2 (i := 3) rfl rfl rfl Tryz.isAgg28 Tryz.sizeOf28 rfl rfl)) ?_
       refine r0' rfl rfl rfl rfl (st0 (d_mv rfl rfl)) ?_
       refine r1' rfl rfl (t_call (n := 5) (r3_bound _ _ (by rw [hG]; exact hv.sz.mono (by omega)) (by have h7 := congrArg List.length hG; rw [length_ints] at h7; omega) (by have h7 := congrArg List.length hG; rw [length_ints] at h7; omega) (by rw [hG]; exact hv.tr)) rfl rfl rfl ⟨rfl, trivial⟩ Tryz.call18 (pre_same 4 rfl rfl rfl pre_nil) rfl hw) (fun v_2 _ => ?_)
       refine r1' rfl rfl (t_call (n := 5) (r_to _ _ (by rw [hG]; have := sbound_b (hv.sz); omega)) rfl rfl rfl ⟨rfl, trivial⟩ Tryz.call17 (pre_same 5 rfl rfl rfl pre_nil) rfl hw) (fun _ _ => ?_)
       refine r0' rfl rfl rfl rfl (st0 (det_is (r' := .bool true) (d_eqg rfl rfl rfl eg28 (fun w => eql28 w _ _ _ _)) (congrArg Value.bool (by rw [hz, hG]; exact eqW_refl _ _)))) ?_
       refine r0' rfl rfl rfl rfl (st0 (d_mv rfl rfl)) ?_
       refine r0g (st0 (d_mv rfl rfl)) rfl rfl rfl rfl rfl rfl rfl ?_
       refine r0g (st0 (det_is (r' := .bool true) (d_eql rfl rfl rfl) (congrArg Value.bool (by rw [he]; decide)))) rfl rfl rfl rfl rfl rfl rfl ?_
       refine r0' rfl rfl rfl rfl (st0 (d_pickt rfl rfl rfl)) ?_
       refine r0' rfl rfl rfl rfl (st0 (d_mv rfl rfl)) ?_
       refine r1g' rfl rfl rfl rfl rfl (t_call (n := 5) (law_known) rfl rfl rfl trivial Tryz.call11 pre_nil rfl hw) (fun _ _ => ?_)
       refine r0' rfl rfl rfl rfl (st0 (d_pickt rfl rfl rfl)) ?_
       refine r3' rfl rfl (t_det (d_as rfl rfl) rfl rfl) (fun _ _ => ?_)
       refine r_end ?_
       refine x_then (e_ret ?_)
       exact x_end (.inl rfl) hsc () _ (fun a w hs => res1 hs Tryz.results3 rfl) rfl trivial rfl give_nil
  ·refine gsk rfl rfl rfl rfl rfl (gsk rfl rfl rfl rfl rfl (dt (d_pickf rfl rfl rfl) rfl ?_))
   refine l_nil (x_then (e_condf rfl ?_))
   refine e_skip ?_
   refine x_then (e_seq ?_)
   obtain ⟨r1, hr1⟩ : ∃ r1 : RWL, [] ++ r = r1 := ⟨_, rfl⟩
   refine e_imp (s_oeq 2 hr1 rfl rfl) ?_
   have hr9 : r1.length ≤ 9 := by rw [← hr1]; simp; omega
   clear hr1
   refine e_imp (s_pub 2 rfl rfl pW) ?_
   refine e_reg (mv rfl rfl (tt (t_call (n := 5) (st_bound_any _ _) rfl rfl rfl ⟨rfl, trivial⟩ Tryz.call12 (pre_same 2 rfl rfl rfl pre_nil) rfl hw) rfl (fun _ _ => ?_)))
   refine mv rfl rfl (dt (d_ex rfl rfl rfl) rfl ?_)
   refine dt (d_ex rfl rfl rfl) rfl ?_
   refine tt (t_alloc (i := 6) rfl rfl rfl Tryz.zeroValue28 rfl rfl hw) rfl (fun bx_2 _ => ?_)
   refine tt (t_stw (i := 6) rfl rfl rfl rfl rfl (by decide) rfl Tryz.sizeOf28 rfl rfl ⟨(one_rfl rfl), (one_rfl rfl), trivial⟩ rfl hw trivial) rfl (fun _ _ => ?_)
   refine as_ rfl rfl (l_nil (x_then (e_seq (e_seq (e_reg (mv rfl rfl (tt (t_call (n := 6) (rp_valid _ _) rfl rfl rfl ⟨rfl, trivial⟩ Tryz.call13 (pre_same 2 rfl rfl rfl pre_nil) rfl hw) rfl (fun _ _ => ?_))))))))
   refine dt (d_notb rfl rfl) rfl ?_
   refine l_nil (x_then (e_condb rfl (fun h103_2 => ?_) (fun h103_2 => ?_)))
   ·have hno : okP r1 = false := by simpa using h103_2
    have he := bdE_no hno
    have hz := bdZ_no (r := r1) (by rw [he]; decide)
    refine e_seq (e_reg (mv rfl rfl (tt (t_call (n := 6) (st_fits_any _ _) rfl rfl rfl ⟨rfl, trivial⟩ Tryz.call14 (pre_same 2 rfl rfl rfl pre_nil) rfl hw) rfl (fun _ _ => ?_))))
    refine dt (det_is (r' := .bool true) (d_notb rfl rfl) (congrArg Value.bool (by rw [hno]; rfl))) rfl ?_
    refine mv rfl rfl (gdt (d_lb2 (i := 6) rfl rfl rfl Tryz.isAgg28 Tryz.sizeOf28 rfl rfl) rfl rfl rfl rfl ?_)
    refine gdt (d_bld (ivs := []) rfl trivial (fun a w hs => b28_)) rfl rfl rfl rfl ?_
    refine gdt (det_is (r' := .bool true) (d_eqg rfl rfl rfl eg28 (fun w => eql28 w _ _ _ _)) (congrArg Value.bool (by rw [hz]; exact eqW_refl _ _))) rfl rfl rfl rfl ?_
    refine dt (d_pickt rfl rfl rfl) rfl ?_
    refine mv rfl rfl (gdt (d_mv rfl rfl) rfl rfl rfl rfl ?_)
    refine gdt (det_is (r' := .bool true) (d_eql rfl rfl rfl) (congrArg Value.bool (by rw [he]; decide))) rfl rfl rfl rfl ?_
    refine dt (d_pickt rfl rfl rfl) rfl ?_
    refine mv rfl rfl (gtt (t_call (n := 6) (law_known) rfl rfl rfl trivial Tryz.call11 pre_nil rfl hw) rfl rfl rfl rfl (fun _ _ => ?_))
    refine dt (d_pickt rfl rfl rfl) rfl ?_
    refine as_ rfl rfl (l_nil (x_then (e_ret (x_ret ?_))))
    exact x_end (.inl rfl) hsc () _ (fun a w hs => res1 hs Tryz.results3 rfl) rfl trivial rfl give_nil
   ·have hok : okP r1 = true := by simpa using h103_2
    refine e_skip ?_
    refine x_then (e_seq ?_)
    obtain ⟨hv, hrr⟩ := dec_ok hok
    have hlr := congrArg List.length hrr
    rw [List.length_map] at hlr
    have hbe := bdE_ok hok
    refine e_imp (s_sub (q := slp 2 wv _ (dec r1)) 2 88 rfl rfl rfl (slp_dec hok _) (fun _ h => h) rfl) ?_
    refine e_reg (mv rfl rfl (tt (t_call (n := 7) (rp_from _ _ (hv.sz.mono (by omega)) (by omega)) rfl rfl rfl ⟨rfl, trivial⟩ Tryz.call15 (pre_same 88 rfl rfl rfl pre_nil) rfl hw) rfl (fun g_2 hg_2 => ?_)))
    have hG : ints g_2.2 = dec r1 := hg_2
    refine as_ rfl rfl (l_nil (x_then (e_seq (e_seq (e_reg (mv rfl rfl (tt (t_call (n := 7) (st_fits _ _ hv) rfl rfl rfl ⟨rfl, trivial⟩ Tryz.call14 (pre_same 88 rfl rfl rfl pre_nil) rfl hw) rfl (fun _ _ => ?_))))))))
    refine mv rfl rfl (tt (t_call (n := 7) (r3_fits _ _ (by rw [hG]; exact hv.sz.mono (by omega)) (by have h7 := congrArg List.length hG; rw [length_ints] at h7; omega)) rfl rfl rfl ⟨rfl, trivial⟩ Tryz.call16 (pre_same 7 rfl rfl rfl pre_nil) rfl hw) rfl (fun _ _ => ?_))
    refine dt (det_is (r' := .bool false) (d_neb rfl rfl rfl Tryz.underlying4) (congrArg Value.bool (by rw [hG]; simp))) rfl ?_
    refine l_nil (x_then (e_condf rfl ?_))
    refine e_skip ?_
    refine x_then (e_seq (e_seq (e_reg (mv rfl rfl (dt (d_len rfl rfl (i := 88) rfl rd_slp Tryz.underlying23) rfl ?_)))))
    refine dt (d_eql rfl rfl rfl) rfl ?_
    refine l_nil (x_then (e_cond rfl (fun h110_2 => ?_) (fun h110_2 => ?_)))
    ·have he : bdE r1 = 3 := by rw [hbe]; unfold chk0; rw [if_pos (by omega)]
     have hz := bdZ_no (r := r1) (by rw [he]; decide)
     refine e_seq (e_reg (dt (d_lb2 (i := 6) rfl rfl rfl Tryz.isAgg28 Tryz.sizeOf28 rfl rfl) rfl ?_))
     refine dt (d_bld (ivs := []) rfl trivial (fun a w hs => b28_)) rfl ?_
     refine dt (det_is (r' := .bool true) (d_eqg rfl rfl rfl eg28 (fun w => eql28 w _ _ _ _)) (congrArg Value.bool (by rw [hz]; exact eqW_refl _ _))) rfl ?_
     refine mv rfl rfl (gdt (d_mv rfl rfl) rfl rfl rfl rfl ?_)
     refine gdt (det_is (r' := .bool true) (d_eql rfl rfl rfl) (congrArg Value.bool (by rw [he]; decide))) rfl rfl rfl rfl ?_
     refine dt (d_pickt rfl rfl rfl) rfl ?_
     refine mv rfl rfl (gtt (t_call (n := 7) (law_known) rfl rfl rfl trivial Tryz.call11 pre_nil rfl hw) rfl rfl rfl rfl (fun _ _ => ?_))
     refine dt (d_pickt rfl rfl rfl) rfl ?_
     refine as_ rfl rfl (l_nil (x_then (e_ret (x_ret ?_))))
     exact x_end (.inl rfl) hsc () _ (fun a w hs => res1 hs Tryz.results3 rfl) rfl trivial rfl give_nil
    ·refine e_skip ?_
     refine x_then (e_seq (e_seq (e_reg (mv rfl rfl (tt (t_call (n := 7) (r3_fits _ _ (by rw [hG]; exact hv.sz.mono (by omega)) (by have h7 := congrArg List.length hG; rw [length_ints] at h7; omega)) rfl rfl rfl ⟨rfl, trivial⟩ Tryz.call16 (pre_same 7 rfl rfl rfl pre_nil) rfl hw) rfl (fun _ _ => ?_))))))
     refine dt (d_not rfl rfl) rfl ?_
     refine l_nil (x_then (e_cond rfl (fun h113_2 => ?_) (fun h113_2 => ?_)))
     ·have hsf : ¬ sfits (dec r1) := by rw [hG] at h113_2; simpa using h113_2
      have he : bdE r1 = 7 := by rw [hbe]; unfold chk0; rw [if_neg (by omega), if_neg hsf]
      have hz := bdZ_no (r := r1) (by rw [he]; decide)
      refine e_seq (e_reg (dt (d_lb2 (i := 6) rfl rfl rfl Tryz.isAgg28 Tryz.sizeOf28 rfl rfl) rfl ?_))
      refine dt (d_bld (ivs := []) rfl trivial (fun a w hs => b28_)) rfl ?_
      refine dt (det_is (r' := .bool true) (d_eqg rfl rfl rfl eg28 (fun w => eql28 w _ _ _ _)) (congrArg Value.bool (by rw [hz]; exact eqW_refl _ _))) rfl ?_
      refine mv rfl rfl (gdt (d_mv rfl rfl) rfl rfl rfl rfl ?_)
      refine gdt (det_is (r' := .bool true) (d_eql rfl rfl rfl) (congrArg Value.bool (by rw [he]; decide))) rfl rfl rfl rfl ?_
      refine dt (d_pickt rfl rfl rfl) rfl ?_
      refine mv rfl rfl (gtt (t_call (n := 7) (law_known) rfl rfl rfl trivial Tryz.call11 pre_nil rfl hw) rfl rfl rfl rfl (fun _ _ => ?_))
      refine dt (d_pickt rfl rfl rfl) rfl ?_
      refine as_ rfl rfl (l_nil (x_then (e_ret (x_ret ?_))))
      exact x_end (.inl rfl) hsc () _ (fun a w hs => res1 hs Tryz.results3 rfl) rfl trivial rfl give_nil
     ·have hsf : sfits (dec r1) := by rw [hG] at h113_2; simpa using h113_2
      have he : bdE r1 = 0 := by rw [hbe]; unfold chk0; rw [if_neg (by omega), if_pos hsf]
      have hz := bdZ_ok he
      refine e_skip ?_
      refine x_then (e_seq (e_dreg (fun _ => False) [(0, 0), (1, 0), (2, 1), (3, 1), (4, 0), (5, 0), (6, 0), (7, 0), (8, 0), (9, 0), (10, 1), (11, 0), (12, 3)] (by kernel_rfl) ?_ ?_))
      ·kernel_rfl
      refine r0' rfl rfl rfl rfl (st0 (d_lb2 (i := 6) rfl rfl rfl Tryz.isAgg28 Tryz.sizeOf28 rfl rfl)) ?_
      refine r0' rfl rfl rfl rfl (st0 (d_mv rfl rfl)) ?_
      refine r1' rfl rfl (t_call (n := 8) (r3_bound _ _ (by rw [hG]; exact hv.sz.mono (by omega)) (by have h7 := congrArg List.length hG; rw [length_ints] at h7; omega) (by have h7 := congrArg List.length hG; rw [length_ints] at h7; omega) (by rw [hG]; exact hv.tr)) rfl rfl rfl ⟨rfl, trivial⟩ Tryz.call18 (pre_same 7 rfl rfl rfl pre_nil) rfl hw) (fun v_3 _ => ?_)
      refine r1' rfl rfl (t_call (n := 8) (r_to _ _ (by rw [hG]; have := sbound_b (hv.sz); omega)) rfl rfl rfl ⟨rfl, trivial⟩ Tryz.call17 (pre_same 8 rfl rfl rfl pre_nil) rfl hw) (fun _ _ => ?_)
      refine r0' rfl rfl rfl rfl (st0 (det_is (r' := .bool true) (d_eqg rfl rfl rfl eg28 (fun w => eql28 w _ _ _ _)) (congrArg Value.bool (by rw [hz, hG]; exact eqW_refl _ _)))) ?_
      refine r0' rfl rfl rfl rfl (st0 (d_mv rfl rfl)) ?_
      refine r0g (st0 (d_mv rfl rfl)) rfl rfl rfl rfl rfl rfl rfl ?_
      refine r0g (st0 (det_is (r' := .bool true) (d_eql rfl rfl rfl) (congrArg Value.bool (by rw [he]; decide)))) rfl rfl rfl rfl rfl rfl rfl ?_
      refine r0' rfl rfl rfl rfl (st0 (d_pickt rfl rfl rfl)) ?_
      refine r0' rfl rfl rfl rfl (st0 (d_mv rfl rfl)) ?_
      refine r1g' rfl rfl rfl rfl rfl (t_call (n := 8) (law_known) rfl rfl rfl trivial Tryz.call11 pre_nil rfl hw) (fun _ _ => ?_)
      refine r0' rfl rfl rfl rfl (st0 (d_pickt rfl rfl rfl)) ?_
      refine r3' rfl rfl (t_det (d_as rfl rfl) rfl rfl) (fun _ _ => ?_)
      refine r_end ?_
      refine x_then (e_ret ?_)
      exact x_end (.inl rfl) hsc () _ (fun a w hs => res1 hs Tryz.results3 rfl) rfl trivial rfl give_nil
theorem law_sfits_in (v : Value) (r : List (Bool × ByteArray)) (n : Nat) (hn : n < 5000) : Cal Tryz.prog 3 #[v, .int .i64 ((n : Int) + 1)] [slp 2 encW v r] false (G := Unit) (fun _ => True) (fun _ => .bool true) (fun _ => []) := by
 refine cal_in Tryz.func3 rfl Tryz.ntmps3 rfl ⟨rfl, trivial⟩ ?_
 intro w0 sc hw hsc
 simp only [enumEnv, enumPre]
 have h8 : 1 * 2 ^ (n % 8) < 256 := by rw [Nat.one_mul]; exact Nat.lt_of_lt_of_le (Nat.pow_lt_pow_right (by decide) (Nat.mod_lt n (by decide))) (by decide)
 refine e_imp (s_nil 999 2 28 wv) ?_
 refine e_imp (s_pub 999 rfl rfl pV) ?_
 refine e_seq (e_reg (as_ rfl rfl (l_nil (x_then (e_seq (e_seq (e_reg (mv rfl rfl (tt (t_call (n := 1) (law_small _ _) rfl rfl rfl ⟨rfl, trivial⟩ Tryz.call10 (pre_same 1 rfl rfl rfl pre_nil) rfl hw) rfl (fun _ _ => ?_))))))))))
 refine dt (d_notb rfl rfl) rfl ?_
 refine l_nil (x_then (e_condb rfl (fun h93 => ?_) (fun h93 => ?_)))
 ·refine e_seq (e_reg (tt (t_call (n := 1) (law_known) rfl rfl rfl trivial Tryz.call11 pre_nil rfl hw) rfl (fun _ _ => ?_)))
  refine as_ rfl rfl (l_nil (x_then (e_ret (x_ret ?_))))
  exact x_end (.inl rfl) hsc () _ (fun a w hs => res1 hs Tryz.results3 rfl) rfl trivial rfl give_nil
 ·refine e_skip ?_
  refine x_then (e_seq ?_)
  obtain ⟨hr8, hr6⟩ := small_le (by simpa using h93)
  refine e_reg (mv rfl rfl (l_imp (s_nil 2 2 28 encW) ?_))
  refine tt (t_appa (i := 2) (j := 1) (by_ := 24) rfl rfl rfl rfl rfl rfl (by decide) rfl rd_slp Tryz.underlying23 Tryz.ti28 rfl pW rfl rfl rfl (by simp; omega) (by decide) rfl hw) rfl (fun v _ => ?_)
  refine as_ rfl rfl (l_nil (x_then (e_seq (e_seq (e_reg (mv rfl rfl (dt (det_is (r' := .bool true) (d_geq rfl rfl rfl) (congrArg Value.bool (decide_eq_true (by omega)))) rfl ?_)))))))
  refine mv rfl rfl (gdt (d_mv rfl rfl) rfl rfl rfl rfl ?_)
  refine gdt (det_is (r' := .bool true) (d_leq rfl rfl rfl) (congrArg Value.bool (decide_eq_true (by omega)))) rfl rfl rfl rfl ?_
  refine dt (d_pickt rfl rfl rfl) rfl ?_
  refine l_nil (x_then (e_condt rfl ?_))
  refine e_seq (e_reg (mv rfl rfl (dt (d_add rfl rfl rfl ⟨by omega, by omega⟩) rfl ?_)))
  refine dt (d_quo rfl rfl rfl (by omega) (by omega) (by omega)) rfl ?_
  refine tt (t_mkn (i := 3) (n := (n / 8 + 1)) (by_ := 1) (enc := encB) 0 rfl rfl rfl rfl rfl (by omega) Tryz.underlying26 Tryz.ti5 rfl pB.cells pB.pos rfl rfl (by omega) (by decide) rfl hw) rfl (fun v_2 _ => ?_)
  refine as_ rfl rfl (l_nil (x_then (e_seq (e_reg (mv rfl rfl (mv rfl rfl (dt (d_sub rfl rfl rfl ⟨by omega, by omega⟩) rfl ?_)))))))
  refine dt (d_rem rfl rfl rfl (by omega) (by omega)) rfl ?_
  refine dt (d_shl8 (m := 1) (n := n % 8) rfl rfl rfl (by omega) (by omega) h8) rfl ?_
  refine dt (d_ixa (ii := 3) (i := 0) rfl rfl rfl rfl (rd_osl pB) Tryz.underlying26 Tryz.sizeOf5 rfl (by simp)) rfl ?_
  refine tt (t_ste (i := 3) (enc := encB) (1 * 2 ^ (n % 8)) rfl rfl rfl rfl rfl rfl (by decide) pB (by simp) rfl hw) rfl (fun _ _ => ?_)
  refine l_nil (x_then (e_reg (mv rfl rfl (mv rfl rfl (dt (d_b2s rfl rfl (i := 3) rfl (rd_osl pB) Tryz.underlying26 Tryz.underlying9 Tryz.underlying5) rfl ?_)))))
  refine dt (d_bld (ivs := [(1, _)]) rfl ⟨rfl, rfl, trivial⟩ (fun a w hs => b28_1 ((one_rfl rfl) a w hs))) rfl ?_
  refine tt (t_bsg (i := 4) (ivs := [(0, _)]) (enc := encW) [(false, ⟨(((List.replicate (n / 8 + 1) 0).set 0 (1 * 2 ^ (n % 8))).map (fun x : Nat => UInt8.ofNat x)).toArray⟩)] rfl rfl rfl ⟨rfl, rfl, trivial⟩ Tryz.underlying23 Tryz.ti28 rfl rfl rfl rfl rfl rfl pW.cells rfl rfl hw) rfl (fun v_3 _ => ?_)
  refine tt (t_appa (i := 2) (j := 4) (by_ := 24) rfl rfl rfl rfl rfl rfl (by decide) rfl (rd_osl pW) Tryz.underlying23 Tryz.ti28 rfl pW rfl rfl rfl (by simp; omega) (by decide) rfl hw) rfl (fun v_4 _ => ?_)
  refine as_ rfl rfl (l_nil (x_then (e_seq ?_)))
  obtain ⟨r1, hr1⟩ : ∃ r1 : RWL, [] ++ r ++ [(false, ⟨(((List.replicate (n / 8 + 1) 0).set 0 (1 * 2 ^ (n % 8))).map (fun x : Nat => UInt8.ofNat x)).toArray⟩)] = r1 := ⟨_, rfl⟩
  refine e_imp (s_oeq 2 hr1 rfl rfl) ?_
  have hr9 : r1.length ≤ 9 := by rw [← hr1]; simp; omega
  clear hr1
  refine e_imp (s_pub 2 rfl rfl pW) ?_
  refine e_reg (mv rfl rfl (tt (t_call (n := 4) (st_bound_any _ _) rfl rfl rfl ⟨rfl, trivial⟩ Tryz.call12 (pre_same 2 rfl rfl rfl pre_nil) rfl hw) rfl (fun _ _ => ?_)))
  refine mv rfl rfl (dt (d_ex rfl rfl rfl) rfl ?_)
  refine dt (d_ex rfl rfl rfl) rfl ?_
  refine tt (t_alloc (i := 5) rfl rfl rfl Tryz.zeroValue28 rfl rfl hw) rfl (fun bx _ => ?_)
  refine tt (t_stw (i := 5) rfl rfl rfl rfl rfl (by decide) rfl Tryz.sizeOf28 rfl rfl ⟨(one_rfl rfl), (one_rfl rfl), trivial⟩ rfl hw trivial) rfl (fun _ _ => ?_)
  refine as_ rfl rfl (l_nil (x_then (e_seq (e_seq (e_reg (mv rfl rfl (tt (t_call (n := 5) (rp_valid _ _) rfl rfl rfl ⟨rfl, trivial⟩ Tryz.call13 (pre_same 2 rfl rfl rfl pre_nil) rfl hw) rfl (fun _ _ => ?_))))))))
  refine dt (d_notb rfl rfl) rfl ?_
  refine l_nil (x_then (e_condb rfl (fun h103 => ?_) (fun h103 => ?_)))
  ·have hno : okP r1 = false := by simpa using h103
   have he := bdE_no hno
   have hz := bdZ_no (r := r1) (by rw [he]; decide)
   refine e_seq (e_reg (mv rfl rfl (tt (t_call (n := 5) (st_fits_any _ _) rfl rfl rfl ⟨rfl, trivial⟩ Tryz.call14 (pre_same 2 rfl rfl rfl pre_nil) rfl hw) rfl (fun _ _ => ?_))))
   refine dt (det_is (r' := .bool true) (d_notb rfl rfl) (congrArg Value.bool (by rw [hno]; rfl))) rfl ?_
   refine mv rfl rfl (gdt (d_lb2 (i := 5) rfl rfl rfl Tryz.isAgg28 Tryz.sizeOf28 rfl rfl) rfl rfl rfl rfl ?_)
   refine gdt (d_bld (ivs := []) rfl trivial (fun a w hs => b28_)) rfl rfl rfl rfl ?_
   refine gdt (det_is (r' := .bool true) (d_eqg rfl rfl rfl eg28 (fun w => eql28 w _ _ _ _)) (congrArg Value.bool (by rw [hz]; exact eqW_refl _ _))) rfl rfl rfl rfl ?_
   refine dt (d_pickt rfl rfl rfl) rfl ?_
   refine mv rfl rfl (gdt (d_mv rfl rfl) rfl rfl rfl rfl ?_)
   refine gdt (det_is (r' := .bool true) (d_eql rfl rfl rfl) (congrArg Value.bool (by rw [he]; decide))) rfl rfl rfl rfl ?_
   refine dt (d_pickt rfl rfl rfl) rfl ?_
   refine mv rfl rfl (gtt (t_call (n := 5) (law_known) rfl rfl rfl trivial Tryz.call11 pre_nil rfl hw) rfl rfl rfl rfl (fun _ _ => ?_))
   refine dt (d_pickt rfl rfl rfl) rfl ?_
   refine as_ rfl rfl (l_nil (x_then (e_ret (x_ret ?_))))
   exact x_end (.inl rfl) hsc () _ (fun a w hs => res1 hs Tryz.results3 rfl) rfl trivial rfl give_nil
  ·have hok : okP r1 = true := by simpa using h103
   refine e_skip ?_
   refine x_then (e_seq ?_)
   obtain ⟨hv, hrr⟩ := dec_ok hok
   have hlr := congrArg List.length hrr
   rw [List.length_map] at hlr
   have hbe := bdE_ok hok
   refine e_imp (s_sub (q := slp 2 wv _ (dec r1)) 2 88 rfl rfl rfl (slp_dec hok _) (fun _ h => h) rfl) ?_
   refine e_reg (mv rfl rfl (tt (t_call (n := 6) (rp_from _ _ (hv.sz.mono (by omega)) (by omega)) rfl rfl rfl ⟨rfl, trivial⟩ Tryz.call15 (pre_same 88 rfl rfl rfl pre_nil) rfl hw) rfl (fun g hg => ?_)))
   have hG : ints g.2 = dec r1 := hg
   refine as_ rfl rfl (l_nil (x_then (e_seq (e_seq (e_reg (mv rfl rfl (tt (t_call (n := 6) (st_fits _ _ hv) rfl rfl rfl ⟨rfl, trivial⟩ Tryz.call14 (pre_same 88 rfl rfl rfl pre_nil) rfl hw) rfl (fun _ _ => ?_))))))))
   refine mv rfl rfl (tt (t_call (n := 6) (r3_fits _ _ (by rw [hG]; exact hv.sz.mono (by omega)) (by have h7 := congrArg List.length hG; rw [length_ints] at h7; omega)) rfl rfl rfl ⟨rfl, trivial⟩ Tryz.call16 (pre_same 6 rfl rfl rfl pre_nil) rfl hw) rfl (fun _ _ => ?_))
   refine dt (det_is (r' := .bool false) (d_neb rfl rfl rfl Tryz.underlying4) (congrArg Value.bool (by rw [hG]; simp))) rfl ?_
   refine l_nil (x_then (e_condf rfl ?_))
   refine e_skip ?_
   refine x_then (e_seq (e_seq (e_reg (mv rfl rfl (dt (d_len rfl rfl (i := 88) rfl rd_slp Tryz.underlying23) rfl ?_)))))
   refine dt (d_eql rfl rfl rfl) rfl ?_
   refine l_nil (x_then (e_cond rfl (fun h110 => ?_) (fun h110 => ?_)))
   ·have he : bdE r1 = 3 := by rw [hbe]; unfold chk0; rw [if_pos (by omega)]
    have hz := bdZ_no (r := r1) (by rw [he]; decide)
    refine e_seq (e_reg (dt (d_lb2 (i := 5) rfl rfl rfl Tryz.isAgg28 Tryz.sizeOf28 rfl rfl) rfl ?_))
    refine dt (d_bld (ivs := []) rfl trivial (fun a w hs => b28_)) rfl ?_
    refine dt (det_is (r' := .bool true) (d_eqg rfl rfl rfl eg28 (fun w => eql28 w _ _ _ _)) (congrArg Value.bool (by rw [hz]; exact eqW_refl _ _))) rfl ?_
    refine mv rfl rfl (gdt (d_mv rfl rfl) rfl rfl rfl rfl ?_)
    refine gdt (det_is (r' := .bool true) (d_eql rfl rfl rfl) (congrArg Value.bool (by rw [he]; decide))) rfl rfl rfl rfl ?_
    refine dt (d_pickt rfl rfl rfl) rfl ?_
    refine mv rfl rfl (gtt (t_call (n := 6) (law_known) rfl rfl rfl trivial Tryz.call11 pre_nil rfl hw) rfl rfl rfl rfl (fun _ _ => ?_))
    refine dt (d_pickt rfl rfl rfl) rfl ?_
    refine as_ rfl rfl (l_nil (x_then (e_ret (x_ret ?_))))
    exact x_end (.inl rfl) hsc () _ (fun a w hs => res1 hs Tryz.results3 rfl) rfl trivial rfl give_nil
   ·refine e_skip ?_
    refine x_then (e_seq (e_seq (e_reg (mv rfl rfl (tt (t_call (n := 6) (r3_fits _ _ (by rw [hG]; exact hv.sz.mono (by omega)) (by have h7 := congrArg List.length hG; rw [length_ints] at h7; omega)) rfl rfl rfl ⟨rfl, trivial⟩ Tryz.call16 (pre_same 6 rfl rfl rfl pre_nil) rfl hw) rfl (fun _ _ => ?_))))))
    refine dt (d_not rfl rfl) rfl ?_
    refine l_nil (x_then (e_cond rfl (fun h113 => ?_) (fun h113 => ?_)))
    ·have hsf : ¬ sfits (dec r1) := by rw [hG] at h113; simpa using h113
     have he : bdE r1 = 7 := by rw [hbe]; unfold chk0; rw [if_neg (by omega), if_neg hsf]
     have hz := bdZ_no (r := r1) (by rw [he]; decide)
     refine e_seq (e_reg (dt (d_lb2 (i := 5) rfl rfl rfl Tryz.isAgg28 Tryz.sizeOf28 rfl rfl) rfl ?_))
     refine dt (d_bld (ivs := []) rfl trivial (fun a w hs => b28_)) rfl ?_
     refine dt (det_is (r' := .bool true) (d_eqg rfl rfl rfl eg28 (fun w => eql28 w _ _ _ _)) (congrArg Value.bool (by rw [hz]; exact eqW_refl _ _))) rfl ?_
     refine mv rfl rfl (gdt (d_mv rfl rfl) rfl rfl rfl rfl ?_)
     refine gdt (det_is (r' := .bool true) (d_eql rfl rfl rfl) (congrArg Value.bool (by rw [he]; decide))) rfl rfl rfl rfl ?_
     refine dt (d_pickt rfl rfl rfl) rfl ?_
     refine mv rfl rfl (gtt (t_call (n := 6) (law_known) rfl rfl rfl trivial Tryz.call11 pre_nil rfl hw) rfl rfl rfl rfl (fun _ _ => ?_))
     refine dt (d_pickt rfl rfl rfl) rfl ?_
     refine as_ rfl rfl (l_nil (x_then (e_ret (x_ret ?_))))
     exact x_end (.inl rfl) hsc () _ (fun a w hs => res1 hs Tryz.results3 rfl) rfl trivial rfl give_nil
    ·have hsf : sfits (dec r1) := by rw [hG] at h113; simpa using h113
     have he : bdE r1 = 0 := by rw [hbe]; unfold chk0; rw [if_neg (by omega), if_pos hsf]
     have hz := bdZ_ok he
     refine e_skip ?_
     refine x_then (e_seq (e_dreg (fun _ => False) [(0, 0), (1, 0), (2, 1), (3, 1), (4, 0), (5, 0), (6, 0), (7, 0), (8, 0), (9, 0), (10, 1), (11, 0), (12, 3)] (by kernel_rfl) ?_ ?_))
     ·kernel_rfl
     refine r0' rfl rfl rfl rfl (st0 (d_lb2 (i := 5) rfl rfl rfl Tryz.isAgg28 Tryz.sizeOf28 rfl rfl)) ?_
     refine r0' rfl rfl rfl rfl (st0 (d_mv rfl rfl)) ?_
     refine r1' rfl rfl (t_call (n := 7) (r3_bound _ _ (by rw [hG]; exact hv.sz.mono (by omega)) (by have h7 := congrArg List.length hG; rw [length_ints] at h7; omega) (by have h7 := congrArg List.length hG; rw [length_ints] at h7; omega) (by rw [hG]; exact hv.tr)) rfl rfl rfl ⟨rfl, trivial⟩ Tryz.call18 (pre_same 6 rfl rfl rfl pre_nil) rfl hw) (fun v_5 _ => ?_)
     refine r1' rfl rfl (t_call (n := 7) (r_to _ _ (by rw [hG]; have := sbound_b (hv.sz); omega)) rfl rfl rfl ⟨rfl, trivial⟩ Tryz.call17 (pre_same 7 rfl rfl rfl pre_nil) rfl hw) (fun _ _ => ?_)
     refine r0' rfl rfl rfl rfl (st0 (det_is (r' := .bool true) (d_eqg rfl rfl rfl eg28 (fun w => eql28 w _ _ _ _)) (congrArg Value.bool (by rw [hz, hG]; exact eqW_refl _ _)))) ?_
     refine r0' rfl rfl rfl rfl (st0 (d_mv rfl rfl)) ?_
     refine r0g (st0 (d_mv rfl rfl)) rfl rfl rfl rfl rfl rfl rfl ?_
     refine r0g (st0 (det_is (r' := .bool true) (d_eql rfl rfl rfl) (congrArg Value.bool (by rw [he]; decide)))) rfl rfl rfl rfl rfl rfl rfl ?_
     refine r0' rfl rfl rfl rfl (st0 (d_pickt rfl rfl rfl)) ?_
     refine r0' rfl rfl rfl rfl (st0 (d_mv rfl rfl)) ?_
     refine r1g' rfl rfl rfl rfl rfl (t_call (n := 7) (law_known) rfl rfl rfl trivial Tryz.call11 pre_nil rfl hw) (fun _ _ => ?_)
     refine r0' rfl rfl rfl rfl (st0 (d_pickt rfl rfl rfl)) ?_
     refine r3' rfl rfl (t_det (d_as rfl rfl) rfl rfl) (fun _ _ => ?_)
     refine r_end ?_
     refine x_then (e_ret ?_)
     exact x_end (.inl rfl) hsc () _ (fun a w hs => res1 hs Tryz.results3 rfl) rfl trivial rfl give_nil
end Go.Sky
namespace Go.Sky
open Go.Proofs
theorem law_sfits (v : Value) (r : List (Bool × ByteArray)) (b : Int) : Cal Tryz.prog 3 #[v, .int .i64 b] [slp 2 encW v r] false (G := Unit) (fun _ => True) (fun _ => .bool true) (fun _ => []) := by
  by_cases h : b < 1 ∨ 5000 < b
  · exact law_sfits_out v r b h
  · obtain ⟨n, rfl⟩ : ∃ n : Nat, b = (n : Int) + 1 := ⟨(b - 1).toNat, by omega⟩
    exact law_sfits_in v r n (by omega)
end Go.Sky
namespace Go.Proofs.YtcegclhbeflgbaaGreat
open Go.ChangeShapes Go.WideShapes Go.ChangeAt Go.RowKit Go.Joins Go.Deep Go.Sky
set_option linter.unusedVariables false
theorem own : ownKnob Tryz.prog.godebug = none := by kernel_rfl
theorem laidOut : laidOutB Tryz.prog = true := by kernel_rfl
set_option maxRecDepth 100000 in
theorem lifted (os : Os) (started : os.Started) (H : Type) (enc : TypeId × Value → H) :
    ReturnsInHanded {} Tryz.checked os 3 .any (Rows.sturmFitsSpec.pre6 enc Tryz.prog Tryz.f3 Rows.sturmFitsRow.domain false) (Rows.sturmFitsSpec.post enc Tryz.prog Tryz.f3 false true false false) := by
  refine returnsInHanded_of_change (C := Tryz.checked) own started (by kernel_rfl) Tryz.func3
    (ChangeSpec.witness6 (enc := enc) (C := Tryz.checked) false ⟨#[], #[.slice none 0 0, .int .i64 0], []⟩ 8 (by kernel_rfl) (by kernel_rfl) (by kernel_rfl) (by kernel_rfl)) ?_
  intro W base args ds gs before hval0 hW hcnd _
  have hval : ∀ (j : Nat) t v, Tryz.f3.params[j]? = some t → args[j]? = some v → Value.okWide Tryz.prog W .any base t v := hval0
  have hW' := hW
  obtain ⟨p, q, hA0, hV, rfl, hfz, hnd⟩ := hW
  have hA : DataW.TrodAll enc Tryz.prog W 0 (fun _ => true) true Tryz.f3.params.toList args.toList ds p := hA0
  rw [Tryz.params3] at hA hval
  obtain ⟨v0, vs0, d0, ds0, p0, q0, hargs, rfl, rfl, h0, r0⟩ := trodAll_cons hA
  obtain ⟨v1, vs1, d1, ds1, p1, q1, rfl, rfl, rfl, h1, r1⟩ := trodAll_cons r0
  obtain ⟨rfl, rfl, rfl⟩ := trodAll_nil r1
  obtain rfl : args = #[v0, v1] := by cases args; simp_all
  obtain ⟨rfl, rfl⟩ := trodVars_none hV
  have lt0 : ∀ x ∈ p0, x.block < W.heap.size := by obtain ⟨m, hm⟩ := h0; exact DataW.trod_lt m _ _ _ hm
  obtain ⟨l0, hl0⟩ := open_wides Tryz.underlying23 Tryz.underlying28 (by kernel_rfl) rfl rfl (by kernel_rfl) (by kernel_rfl) (by kernel_rfl) (by kernel_rfl) (hval 0 23 v0 rfl rfl) h0 lt0
  have lt1 : ∀ x ∈ p1, x.block < W.heap.size := by obtain ⟨m, hm⟩ := h1; exact DataW.trod_lt m _ _ _ hm
  obtain ⟨n1, rfl⟩ := okWide_int Tryz.underlying3 (hval 1 3 v1 rfl rfl)
  clear hA0 hval0
  refine (law_sfits v0 l0 n1 W (fun p hp => by cases hp with | head => exact hl0 | tail _ hp => cases hp)).mono fun e W' ⟨_, he, _, bel, _⟩ => ?_
  subst he
  exact ⟨_, rfl, _, _, _, [], _, [], hW', trodAll_mk1 (shut_bool Tryz.underlying4 _), (trodAll_cons_mk (Below.trod laidOut (by kernel_rfl) (of_decide_eq_true (by kernel_rfl)) h0 bel lt0) (trodAll_cons_mk (Below.trod laidOut (by kernel_rfl) (of_decide_eq_true (by kernel_rfl)) h1 bel lt1) trodAll_mk0)), rfl, bel.frame _, fun h => by cases h⟩
/-- the given statement -/
theorem x_holds : Rows.SturmFitsSaid :=
  OpenClaim.holds_of_wide 3 Tryz.f3 rfl rfl rfl rfl rfl rfl rfl ⟨rfl, rfl, rfl, rfl, rfl⟩ rfl rfl rfl rfl rfl (by kernel_rfl) Tryz.func3 (by kernel_rfl)
    (of_decide_eq_true (by kernel_rfl)) (by unfold Func.isWrapper; first | (rw [if_pos (by decide +kernel)]; kernel_rfl) | (rw [if_neg (by decide +kernel)]; exact ⟨rfl, rfl⟩))
    (fun os started H enc _ => lifted os started H enc)
#print axioms x_holds
end Go.Proofs.YtcegclhbeflgbaaGreat

