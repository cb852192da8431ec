/- the law
   Proved without conditions of its own: each theorem bears its own. -/
import Derived.Test.YtjkhdpcmkcjjcaaGreatK
import Derived.Test.YtjkhdpcmkcjjcaaGreatD
import Derived.Test.YtjkhdpcmkcjjcaaGreatB
import Derived.Test.YtjkhdpcmkcjjcaaGreatC
import Derived.Test.YtjkhdpcmkcjjcaaGreatJ
set_option linter.all false
namespace Go.Sky
open Go.Proofs
set_option linter.unusedVariables false
theorem cp_nf {p : List Int} {x y z : Int} {n m : Nat} (hp : Sz n p) (hx : bl x.natAbs ≤ m) (hy : bl y.natAbs ≤ m) (hz : bl z.natAbs ≤ m) (hl : p.length ≤ 25) (hF : n + 24 * (m + 1) + 8 ≤ 65536) : msz p + (p.length - 1) * (msz [x, y, z] + 1) + 8 ≤ 65536 := by
  have h1 := msz_le hp
  have h2 : msz [x, y, z] ≤ m := by simp only [msz]; omega
  have h3 : (p.length - 1) * (msz [x, y, z] + 1) ≤ 24 * (m + 1) := Nat.mul_le_mul (by omega) (by omega)
  omega
theorem cp_not {p : List Int} {x y z : Int} (h : msz p + (p.length - 1) * (msz [x, y, z] + 1) + 8 ≤ 65536) : ¬ cpfull p x y z := fun h2 => by have := h2.2; omega
theorem sz_pcompo {p : List Int} {x y z : Int} (h : msz p + (p.length - 1) * (msz [x, y, z] + 1) + 8 ≤ 65536) : Sz 65536 (pcompo p x y z) := by
  unfold pcompo
  split
  · exact Sz.nil _
  · exact (cp_last h).tzl
theorem len_pcompo (p : List Int) (x y z : Int) : (pcompo p x y z).length ≤ p.length := by
  unfold pcompo
  split
  · exact Nat.zero_le _
  · refine Nat.le_trans (tzl_le _) ?_
    rw [length_chor]; omega
end Go.Sky
namespace Go.Sky
open Go.Proofs
set_option maxRecDepth 20000
set_option maxHeartbeats 4000000
set_option linter.unusedVariables false
set_option linter.unusedSimpArgs false
set_option maxHeartbeats 4000000 in
theorem law_composes_ok (v : Value) (xs : List Int) (x y z : Int) (hv : Vp xs) (hx : bl x.natAbs ≤ 65536) (hy : bl y.natAbs ≤ 65536) (hz : bl z.natAbs ≤ 65536) (hz0 : 0 < z) : Cal Tryz.prog 5 #[v, wv x, wv y, wv z] [slp 2 wv v xs] false (G := Unit) (fun _ => True) (fun _ => .bool true) (fun _ => []) := by
 refine cal_in Tryz.func5 rfl Tryz.ntmps5 rfl ⟨rfl, trivial⟩ ?_
 intro w0 sc hw hsc
 simp only [enumEnv, enumPre]
 refine e_imp (s_nil 999 2 25 wv) ?_
 refine e_imp (s_pub 999 rfl rfl pV) ?_
 refine e_seq (e_ex (f_slice 1 rfl rd_slp) (fun sx hssx => ?_))
 subst hssx
 refine e_reg (tt (t_box (i := 2) rfl rfl rfl rfl rfl rfl hw) rfl (fun b _ => ?_))
 refine tt (t_box (i := 3) rfl rfl rfl rfl rfl rfl hw) rfl (fun b_2 _ => ?_)
 refine tt (t_box (i := 4) rfl rfl rfl rfl rfl rfl hw) rfl (fun b_3 _ => ?_)
 refine as_ rfl rfl (l_nil (x_then (e_seq (e_seq (e_reg (mv rfl rfl (tt (t_bsg (i := 5) (ivs := [(0, _)]) (enc := encS) [(sx, xs)] rfl rfl rfl ⟨rfl, rfl, trivial⟩ Tryz.underlying68 Tryz.ti23 rfl rfl rfl rfl rfl rfl pS.cells rfl rfl hw) rfl (fun v _ => ?_))))))))
 refine l_imp (s_many_nil qZ 900) ?_
 refine l_imp (s_many_snoc (q := qZ) (z := (sx, xs)) 900 1 901 rfl rfl rfl rfl rfl) ?_
 refine l_imp (s_pub 5 rfl rfl pS) ?_
 refine l_imp (s_mkdeep 5 901 962 rfl rfl rfl rfl) ?_
 refine tt (t_call (n := 5) (law_short_z _ _) rfl rfl rfl ⟨rfl, trivial⟩ Tryz.call10 (pre_same 962 rfl rfl rfl pre_nil) rfl hw) rfl (fun _ _ => ?_)
 refine dt (d_notb rfl rfl) rfl ?_
 refine mv rfl rfl (l_splitb (d := 15) rfl (fun s174 => ?_) (fun s174 => ?_))
 ·refine gsk rfl rfl rfl rfl rfl (gsk rfl rfl rfl rfl rfl (gsk rfl rfl rfl rfl rfl (gsk rfl rfl rfl rfl rfl (dt (d_pickt rfl rfl rfl) rfl ?_))))
  refine mv rfl rfl (gsk rfl rfl rfl rfl rfl (gsk rfl rfl rfl rfl rfl (gsk rfl rfl rfl rfl rfl (gsk rfl rfl rfl rfl rfl (dt (d_pickt rfl rfl rfl) rfl ?_)))))
  refine mv rfl rfl (gsk rfl rfl rfl rfl rfl (gsk rfl rfl rfl rfl rfl (gsk rfl rfl rfl rfl rfl (gsk rfl rfl rfl rfl rfl (dt (d_pickt rfl rfl rfl) rfl ?_)))))
  refine l_nil (x_then (e_condt rfl ?_))
  refine e_seq (e_reg (tt (t_call (n := 5) (law_known) rfl rfl rfl trivial Tryz.call11 pre_nil rfl hw) rfl (fun _ _ => ?_)))
  refine as_ rfl rfl (l_nil (x_then (e_ret (x_ret ?_))))
  exact x_end (.inl rfl) hsc () _ (fun a w hs => res1 hs Tryz.results5 rfl) rfl trivial rfl give_nil
 ·refine gdt (d_fa rfl rfl Tryz.underlying25 rfl Tryz.sizeOf9 rfl rfl) rfl rfl rfl rfl ?_
  refine gdt (d_lb (i := 2) rfl rfl rfl Tryz.isAgg9 rfl) rfl rfl rfl rfl ?_
  refine gdt (d_lens rfl rfl Tryz.underlying9) rfl rfl rfl rfl ?_
  refine gdt (d_gtr rfl rfl rfl) rfl rfl rfl rfl ?_
  refine dt (d_pickf rfl rfl rfl) rfl ?_
  refine mv rfl rfl (l_split (d := 21) rfl (fun s174_2 => ?_) (fun s174_2 => ?_))
  ·refine gsk rfl rfl rfl rfl rfl (gsk rfl rfl rfl rfl rfl (gsk rfl rfl rfl rfl rfl (gsk rfl rfl rfl rfl rfl (dt (d_pickt rfl rfl rfl) rfl ?_))))
   refine mv rfl rfl (gsk rfl rfl rfl rfl rfl (gsk rfl rfl rfl rfl rfl (gsk rfl rfl rfl rfl rfl (gsk rfl rfl rfl rfl rfl (dt (d_pickt rfl rfl rfl) rfl ?_)))))
   refine l_nil (x_then (e_condt rfl ?_))
   refine e_seq (e_reg (tt (t_call (n := 5) (law_known) rfl rfl rfl trivial Tryz.call11 pre_nil rfl hw) rfl (fun _ _ => ?_)))
   refine as_ rfl rfl (l_nil (x_then (e_ret (x_ret ?_))))
   exact x_end (.inl rfl) hsc () _ (fun a w hs => res1 hs Tryz.results5 rfl) rfl trivial rfl give_nil
  ·refine gdt (d_fa rfl rfl Tryz.underlying25 rfl Tryz.sizeOf9 rfl rfl) rfl rfl rfl rfl ?_
   refine gdt (d_lb (i := 3) rfl rfl rfl Tryz.isAgg9 rfl) rfl rfl rfl rfl ?_
   refine gdt (d_lens rfl rfl Tryz.underlying9) rfl rfl rfl rfl ?_
   refine gdt (d_gtr rfl rfl rfl) rfl rfl rfl rfl ?_
   refine dt (d_pickf rfl rfl rfl) rfl ?_
   refine mv rfl rfl (l_split (d := 27) rfl (fun s174_3 => ?_) (fun s174_3 => ?_))
   ·refine gsk rfl rfl rfl rfl rfl (gsk rfl rfl rfl rfl rfl (gsk rfl rfl rfl rfl rfl (gsk rfl rfl rfl rfl rfl (dt (d_pickt rfl rfl rfl) rfl ?_))))
    refine l_nil (x_then (e_condt rfl ?_))
    refine e_seq (e_reg (tt (t_call (n := 5) (law_known) rfl rfl rfl trivial Tryz.call11 pre_nil rfl hw) rfl (fun _ _ => ?_)))
    refine as_ rfl rfl (l_nil (x_then (e_ret (x_ret ?_))))
    exact x_end (.inl rfl) hsc () _ (fun a w hs => res1 hs Tryz.results5 rfl) rfl trivial rfl give_nil
   ·refine gdt (d_fa rfl rfl Tryz.underlying25 rfl Tryz.sizeOf9 rfl rfl) rfl rfl rfl rfl ?_
    refine gdt (d_lb (i := 4) rfl rfl rfl Tryz.isAgg9 rfl) rfl rfl rfl rfl ?_
    refine gdt (d_lens rfl rfl Tryz.underlying9) rfl rfl rfl rfl ?_
    refine gdt (d_gtr rfl rfl rfl) rfl rfl rfl rfl ?_
    refine dt (d_pickf rfl rfl rfl) rfl ?_
    refine l_nil (x_then (e_cond rfl (fun h174 => ?_) (fun h174 => ?_)))
    ·refine e_seq (e_reg (tt (t_call (n := 5) (law_known) rfl rfl rfl trivial Tryz.call11 pre_nil rfl hw) rfl (fun _ _ => ?_)))
     refine as_ rfl rfl (l_nil (x_then (e_ret (x_ret ?_))))
     exact x_end (.inl rfl) hsc () _ (fun a w hs => res1 hs Tryz.results5 rfl) rfl trivial rfl give_nil
    ·refine e_skip ?_
     refine x_then (e_seq ?_)
     have hsh : shortb [xs.map wr] = true := by simpa using s174
     obtain ⟨hxl, hxs⟩ := short1_z (short_one hsh)
     have hx14 : xs.length ≤ 14 := by have := hv.len; omega
     have hxb : bl x.natAbs ≤ 128 := bstr_bl (n := 16) (by omega)
     have hyb : bl y.natAbs ≤ 128 := bstr_bl (n := 16) (by omega)
     have hzb : bl z.natAbs ≤ 128 := bstr_bl (n := 16) (by omega)
     have hnf := cp_nf hxs hxb hyb hzb hv.len (by omega)
     have hms := msz_le hxs
     refine e_reg (mv rfl rfl (dt (d_lb2 (i := 2) rfl rfl rfl Tryz.isAgg25 Tryz.sizeOf25 rfl rfl) rfl ?_))
     refine dt (d_lb2 (i := 3) rfl rfl rfl Tryz.isAgg25 Tryz.sizeOf25 rfl rfl) rfl ?_
     refine dt (d_lb2 (i := 4) rfl rfl rfl Tryz.isAgg25 Tryz.sizeOf25 rfl rfl) rfl ?_
     refine tt (t_call (n := 6) (poly_compose _ _ _ _ _ hv hx hy hz hz0 (cp_not hnf)) rfl rfl rfl ⟨rfl, rfl, rfl, rfl, trivial⟩ Tryz.call35 (pre_same 1 rfl rfl rfl pre_nil) rfl hw) rfl (fun _ _ => ?_)
     refine mv rfl rfl (dt (d_ex rfl rfl rfl) rfl ?_)
     refine dt (d_ex rfl rfl rfl) rfl ?_
     refine as_ rfl rfl (as_ rfl rfl (l_nil (x_then (e_seq (e_seq (e_reg (mv rfl rfl (tt (t_bsg (i := 7) (ivs := [(0, _)]) (enc := encS) [(sx, xs)] rfl rfl rfl ⟨rfl, rfl, trivial⟩ Tryz.underlying68 Tryz.ti23 rfl rfl rfl rfl rfl rfl pS.cells rfl rfl hw) rfl (fun v_2 _ => ?_)))))))))
     refine l_imp (s_many_nil qZ 900) ?_
     refine l_imp (s_many_snoc (q := qZ) (z := (sx, xs)) 900 1 901 rfl rfl rfl rfl rfl) ?_
     refine l_imp (s_pub 7 rfl rfl pS) ?_
     refine l_imp (s_mkdeep 7 901 993 rfl rfl rfl rfl) ?_
     refine tt (t_call (n := 7) (law_valid_z _ _ (fun z hz => by cases hz with | head => exact hv | tail _ h => cases h)) rfl rfl rfl ⟨rfl, trivial⟩ Tryz.call16 (pre_same 993 rfl rfl rfl pre_nil) rfl hw) rfl (fun _ _ => ?_)
     refine dt (d_notb rfl rfl) rfl ?_
     refine mv rfl rfl (gdt (d_lb2 (i := 2) rfl rfl rfl Tryz.isAgg25 Tryz.sizeOf25 rfl rfl) rfl rfl rfl rfl ?_)
     refine gtt (t_call (n := 7) (r_valid _ _) rfl rfl rfl ⟨rfl, trivial⟩ Tryz.call18 pre_nil rfl hw) rfl rfl rfl rfl (fun _ _ => ?_)
     refine gdt (det_is (r' := .bool false) (d_notb rfl rfl) (congrArg Value.bool (by rw [show okW (decide (x < 0)) (bstr x.natAbs) = true from okW_wv hx]; rfl))) rfl rfl rfl rfl ?_
     refine dt (d_pickf rfl rfl rfl) rfl ?_
     refine mv rfl rfl (gdt (d_lb2 (i := 3) rfl rfl rfl Tryz.isAgg25 Tryz.sizeOf25 rfl rfl) rfl rfl rfl rfl ?_)
     refine gtt (t_call (n := 7) (r_valid _ _) rfl rfl rfl ⟨rfl, trivial⟩ Tryz.call18 pre_nil rfl hw) rfl rfl rfl rfl (fun _ _ => ?_)
     refine gdt (det_is (r' := .bool false) (d_notb rfl rfl) (congrArg Value.bool (by rw [show okW (decide (y < 0)) (bstr y.natAbs) = true from okW_wv hy]; rfl))) rfl rfl rfl rfl ?_
     refine dt (d_pickf rfl rfl rfl) rfl ?_
     refine mv rfl rfl (gdt (d_lb2 (i := 4) rfl rfl rfl Tryz.isAgg25 Tryz.sizeOf25 rfl rfl) rfl rfl rfl rfl ?_)
     refine gtt (t_call (n := 7) (r_valid _ _) rfl rfl rfl ⟨rfl, trivial⟩ Tryz.call18 pre_nil rfl hw) rfl rfl rfl rfl (fun _ _ => ?_)
     refine gdt (det_is (r' := .bool false) (d_notb rfl rfl) (congrArg Value.bool (by rw [show okW (decide (z < 0)) (bstr z.natAbs) = true from okW_wv hz]; rfl))) rfl rfl rfl rfl ?_
     refine dt (d_pickf rfl rfl rfl) rfl ?_
     refine l_nil (x_then (e_condf rfl ?_))
     refine e_skip ?_
     refine x_then (e_seq (e_seq (e_reg (dt (d_lb2 (i := 4) rfl rfl rfl Tryz.isAgg25 Tryz.sizeOf25 rfl rfl) rfl ?_))))
     refine tt (t_call (n := 8) (r_from _ (by omega)) rfl rfl rfl ⟨rfl, trivial⟩ Tryz.call21 pre_nil rfl hw) rfl (fun v_3 _ => ?_)
     refine tt (t_call (n := 8) (r_sign _ _ (by omega)) rfl rfl rfl ⟨rfl, trivial⟩ Tryz.call34 (pre_same 8 rfl rfl rfl pre_nil) rfl hw) rfl (fun _ _ => ?_)
     refine dt (det_is (r' := .bool false) (d_leq rfl rfl rfl) (congrArg Value.bool (decide_eq_false (by have h2 := decide_eq_decide.1 (sign_pos_iff z); omega)))) rfl ?_
     refine l_nil (x_then (e_condf rfl ?_))
     refine e_skip ?_
     refine x_then (e_seq (e_drega (fun _ => False) [15] (by kernel_rfl) ?_))
     refine a_lin' (n := 9) [(0, 0), (1, 0), (2, 0), (4, 0), (6, 0), (8, 0), (3, 1)] (by kernel_rfl) ?_
     refine r0' rfl rfl rfl rfl (st0 (d_mv rfl rfl)) ?_
     refine r0' rfl rfl rfl rfl (st0 (d_mv rfl rfl)) ?_
     refine r0' rfl rfl rfl rfl (st0 (d_mv rfl rfl)) ?_
     refine r0' rfl rfl rfl rfl (st0 (d_lb2 (i := 2) rfl rfl rfl Tryz.isAgg25 Tryz.sizeOf25 rfl rfl)) ?_
     refine r0' rfl rfl rfl rfl (st0 (d_lb2 (i := 3) rfl rfl rfl Tryz.isAgg25 Tryz.sizeOf25 rfl rfl)) ?_
     refine r0' rfl rfl rfl rfl (st0 (d_lb2 (i := 4) rfl rfl rfl Tryz.isAgg25 Tryz.sizeOf25 rfl rfl)) ?_
     refine r1' rfl rfl (t_call (n := 9) (rp_from _ _ (hxs.mono (by omega)) (by omega)) rfl rfl rfl ⟨rfl, trivial⟩ Tryz.call17 (pre_same 1 rfl rfl rfl pre_nil) rfl hw) (fun g hg => ?_)
     refine r_fin ?_
     refine a_lin' (n := 0) [(5, 1), (7, 1), (9, 1), (10, 1), (11, 1), (12, 0), (13, 1), (14, 0), (15, 3)] (by kernel_rfl) ?_
     refine r1' rfl rfl (t_call (n := 10) (r_from _ (by omega)) rfl rfl rfl ⟨rfl, trivial⟩ Tryz.call21 pre_nil rfl hw) (fun v_4 _ => ?_)
     refine r1' rfl rfl (t_call (n := 11) (r_from _ (by omega)) rfl rfl rfl ⟨rfl, trivial⟩ Tryz.call21 pre_nil rfl hw) (fun v_5 _ => ?_)
     refine r1' rfl rfl (t_call (n := 12) (r_from _ (by omega)) rfl rfl rfl ⟨rfl, trivial⟩ Tryz.call21 pre_nil rfl hw) (fun v_6 _ => ?_)
     refine r1' rfl rfl (t_call (n := 13) (rp_compose _ _ _ _ _ _ _ _ 128 (by rw [← length_ints, hg]; omega) hxb hyb hzb (by rw [hg]; have h7 := congrArg List.length hg; rw [length_ints] at h7; omega)) rfl rfl rfl ⟨rfl, rfl, rfl, rfl, trivial⟩ Tryz.call36 (pre_same 9 rfl rfl rfl (pre_same 10 rfl rfl rfl (pre_same 11 rfl rfl rfl (pre_same 12 rfl rfl rfl pre_nil)))) rfl hw) (fun g_2 hg_2 => ?_)
     refine r1' rfl rfl (t_call (n := 13) (law_same _ _ _ _ _ rfl (by rw [hg_2, hg]) (by rw [hg_2, hg]; exact (sz_pcompo hnf)) (by rw [← length_ints, hg_2, hg]; exact Nat.le_trans (len_pcompo _ _ _ _) hv.len)) rfl rfl rfl ⟨rfl, rfl, rfl, trivial⟩ Tryz.call19 (pre_same 6 rfl rfl rfl (pre_same 13 rfl rfl rfl pre_nil)) rfl hw) (fun _ _ => ?_)
     refine r0' rfl rfl rfl rfl (st0 (d_mv rfl rfl)) ?_
     refine r1g' rfl rfl rfl rfl rfl (t_call (n := 13) (law_known) rfl rfl rfl trivial Tryz.call11 pre_nil rfl hw) (fun _ _ => ?_)
     refine r0' rfl rfl rfl rfl (st0 (d_pickt rfl rfl rfl)) ?_
     refine r3' rfl rfl (t_det (d_as rfl rfl) rfl rfl) (fun _ _ => ?_)
     refine r_fin ?_
     refine a_done (by kernel_rfl) ?_
     refine x_then (e_ret ?_)
     exact x_end (.inl rfl) hsc () _ (fun a w hs => res1 hs Tryz.results5 rfl) rfl trivial rfl give_nil
set_option maxHeartbeats 4000000 in
theorem law_composes_rng (v : Value) (xs : List Int) (x y z : Int) (hv : Vp xs) (hx : bl x.natAbs ≤ 65536) (hy : bl y.natAbs ≤ 65536) (hz : bl z.natAbs ≤ 65536) (hz0 : ¬ 0 < z) : Cal Tryz.prog 5 #[v, wv x, wv y, wv z] [slp 2 wv v xs] false (G := Unit) (fun _ => True) (fun _ => .bool true) (fun _ => []) := by
 refine cal_in Tryz.func5 rfl Tryz.ntmps5 rfl ⟨rfl, trivial⟩ ?_
 intro w0 sc hw hsc
 simp only [enumEnv, enumPre]
 refine e_imp (s_nil 999 2 25 wv) ?_
 refine e_imp (s_pub 999 rfl rfl pV) ?_
 refine e_seq (e_ex (f_slice 1 rfl rd_slp) (fun sx hssx => ?_))
 subst hssx
 refine e_reg (tt (t_box (i := 2) rfl rfl rfl rfl rfl rfl hw) rfl (fun b _ => ?_))
 refine tt (t_box (i := 3) rfl rfl rfl rfl rfl rfl hw) rfl (fun b_2 _ => ?_)
 refine tt (t_box (i := 4) rfl rfl rfl rfl rfl rfl hw) rfl (fun b_3 _ => ?_)
 refine as_ rfl rfl (l_nil (x_then (e_seq (e_seq (e_reg (mv rfl rfl (tt (t_bsg (i := 5) (ivs := [(0, _)]) (enc := encS) [(sx, xs)] rfl rfl rfl ⟨rfl, rfl, trivial⟩ Tryz.underlying68 Tryz.ti23 rfl rfl rfl rfl rfl rfl pS.cells rfl rfl hw) rfl (fun v _ => ?_))))))))
 refine l_imp (s_many_nil qZ 900) ?_
 refine l_imp (s_many_snoc (q := qZ) (z := (sx, xs)) 900 1 901 rfl rfl rfl rfl rfl) ?_
 refine l_imp (s_pub 5 rfl rfl pS) ?_
 refine l_imp (s_mkdeep 5 901 962 rfl rfl rfl rfl) ?_
 refine tt (t_call (n := 5) (law_short_z _ _) rfl rfl rfl ⟨rfl, trivial⟩ Tryz.call10 (pre_same 962 rfl rfl rfl pre_nil) rfl hw) rfl (fun _ _ => ?_)
 refine dt (d_notb rfl rfl) rfl ?_
 refine mv rfl rfl (l_splitb (d := 15) rfl (fun s174 => ?_) (fun s174 => ?_))
 ·refine gsk rfl rfl rfl rfl rfl (gsk rfl rfl rfl rfl rfl (gsk rfl rfl rfl rfl rfl (gsk rfl rfl rfl rfl rfl (dt (d_pickt rfl rfl rfl) rfl ?_))))
  refine mv rfl rfl (gsk rfl rfl rfl rfl rfl (gsk rfl rfl rfl rfl rfl (gsk rfl rfl rfl rfl rfl (gsk rfl rfl rfl rfl rfl (dt (d_pickt rfl rfl rfl) rfl ?_)))))
  refine mv rfl rfl (gsk rfl rfl rfl rfl rfl (gsk rfl rfl rfl rfl rfl (gsk rfl rfl rfl rfl rfl (gsk rfl rfl rfl rfl rfl (dt (d_pickt rfl rfl rfl) rfl ?_)))))
  refine l_nil (x_then (e_condt rfl ?_))
  refine e_seq (e_reg (tt (t_call (n := 5) (law_known) rfl rfl rfl trivial Tryz.call11 pre_nil rfl hw) rfl (fun _ _ => ?_)))
  refine as_ rfl rfl (l_nil (x_then (e_ret (x_ret ?_))))
  exact x_end (.inl rfl) hsc () _ (fun a w hs => res1 hs Tryz.results5 rfl) rfl trivial rfl give_nil
 ·refine gdt (d_fa rfl rfl Tryz.underlying25 rfl Tryz.sizeOf9 rfl rfl) rfl rfl rfl rfl ?_
  refine gdt (d_lb (i := 2) rfl rfl rfl Tryz.isAgg9 rfl) rfl rfl rfl rfl ?_
  refine gdt (d_lens rfl rfl Tryz.underlying9) rfl rfl rfl rfl ?_
  refine gdt (d_gtr rfl rfl rfl) rfl rfl rfl rfl ?_
  refine dt (d_pickf rfl rfl rfl) rfl ?_
  refine mv rfl rfl (l_split (d := 21) rfl (fun s174_2 => ?_) (fun s174_2 => ?_))
  ·refine gsk rfl rfl rfl rfl rfl (gsk rfl rfl rfl rfl rfl (gsk rfl rfl rfl rfl rfl (gsk rfl rfl rfl rfl rfl (dt (d_pickt rfl rfl rfl) rfl ?_))))
   refine mv rfl rfl (gsk rfl rfl rfl rfl rfl (gsk rfl rfl rfl rfl rfl (gsk rfl rfl rfl rfl rfl (gsk rfl rfl rfl rfl rfl (dt (d_pickt rfl rfl rfl) rfl ?_)))))
   refine l_nil (x_then (e_condt rfl ?_))
   refine e_seq (e_reg (tt (t_call (n := 5) (law_known) rfl rfl rfl trivial Tryz.call11 pre_nil rfl hw) rfl (fun _ _ => ?_)))
   refine as_ rfl rfl (l_nil (x_then (e_ret (x_ret ?_))))
   exact x_end (.inl rfl) hsc () _ (fun a w hs => res1 hs Tryz.results5 rfl) rfl trivial rfl give_nil
  ·refine gdt (d_fa rfl rfl Tryz.underlying25 rfl Tryz.sizeOf9 rfl rfl) rfl rfl rfl rfl ?_
   refine gdt (d_lb (i := 3) rfl rfl rfl Tryz.isAgg9 rfl) rfl rfl rfl rfl ?_
   refine gdt (d_lens rfl rfl Tryz.underlying9) rfl rfl rfl rfl ?_
   refine gdt (d_gtr rfl rfl rfl) rfl rfl rfl rfl ?_
   refine dt (d_pickf rfl rfl rfl) rfl ?_
   refine mv rfl rfl (l_split (d := 27) rfl (fun s174_3 => ?_) (fun s174_3 => ?_))
   ·refine gsk rfl rfl rfl rfl rfl (gsk rfl rfl rfl rfl rfl (gsk rfl rfl rfl rfl rfl (gsk rfl rfl rfl rfl rfl (dt (d_pickt rfl rfl rfl) rfl ?_))))
    refine l_nil (x_then (e_condt rfl ?_))
    refine e_seq (e_reg (tt (t_call (n := 5) (law_known) rfl rfl rfl trivial Tryz.call11 pre_nil rfl hw) rfl (fun _ _ => ?_)))
    refine as_ rfl rfl (l_nil (x_then (e_ret (x_ret ?_))))
    exact x_end (.inl rfl) hsc () _ (fun a w hs => res1 hs Tryz.results5 rfl) rfl trivial rfl give_nil
   ·refine gdt (d_fa rfl rfl Tryz.underlying25 rfl Tryz.sizeOf9 rfl rfl) rfl rfl rfl rfl ?_
    refine gdt (d_lb (i := 4) rfl rfl rfl Tryz.isAgg9 rfl) rfl rfl rfl rfl ?_
    refine gdt (d_lens rfl rfl Tryz.underlying9) rfl rfl rfl rfl ?_
    refine gdt (d_gtr rfl rfl rfl) rfl rfl rfl rfl ?_
    refine dt (d_pickf rfl rfl rfl) rfl ?_
    refine l_nil (x_then (e_cond rfl (fun h174 => ?_) (fun h174 => ?_)))
    ·refine e_seq (e_reg (tt (t_call (n := 5) (law_known) rfl rfl rfl trivial Tryz.call11 pre_nil rfl hw) rfl (fun _ _ => ?_)))
     refine as_ rfl rfl (l_nil (x_then (e_ret (x_ret ?_))))
     exact x_end (.inl rfl) hsc () _ (fun a w hs => res1 hs Tryz.results5 rfl) rfl trivial rfl give_nil
    ·refine e_skip ?_
     refine x_then (e_seq ?_)
     have hsh : shortb [xs.map wr] = true := by simpa using s174
     obtain ⟨hxl, hxs⟩ := short1_z (short_one hsh)
     have hx14 : xs.length ≤ 14 := by have := hv.len; omega
     have hxb : bl x.natAbs ≤ 128 := bstr_bl (n := 16) (by omega)
     have hyb : bl y.natAbs ≤ 128 := bstr_bl (n := 16) (by omega)
     have hzb : bl z.natAbs ≤ 128 := bstr_bl (n := 16) (by omega)
     have hnf := cp_nf hxs hxb hyb hzb hv.len (by omega)
     have hms := msz_le hxs
     refine e_reg (mv rfl rfl (dt (d_lb2 (i := 2) rfl rfl rfl Tryz.isAgg25 Tryz.sizeOf25 rfl rfl) rfl ?_))
     refine dt (d_lb2 (i := 3) rfl rfl rfl Tryz.isAgg25 Tryz.sizeOf25 rfl rfl) rfl ?_
     refine dt (d_lb2 (i := 4) rfl rfl rfl Tryz.isAgg25 Tryz.sizeOf25 rfl rfl) rfl ?_
     refine tt (t_call (n := 5) (poly_compose_range _ _ _ _ _ hv hx hy hz hz0) rfl rfl rfl ⟨rfl, rfl, rfl, rfl, trivial⟩ Tryz.call35 (pre_same 1 rfl rfl rfl pre_nil) rfl hw) rfl (fun _ _ => ?_)
     refine mv rfl rfl (dt (d_ex rfl rfl rfl) rfl ?_)
     refine dt (d_ex rfl rfl rfl) rfl ?_
     refine as_ rfl rfl (as_ rfl rfl (l_nil (x_then (e_seq (e_seq (e_reg (mv rfl rfl (tt (t_bsg (i := 6) (ivs := [(0, _)]) (enc := encS) [(sx, xs)] rfl rfl rfl ⟨rfl, rfl, trivial⟩ Tryz.underlying68 Tryz.ti23 rfl rfl rfl rfl rfl rfl pS.cells rfl rfl hw) rfl (fun v_2 _ => ?_)))))))))
     refine l_imp (s_many_nil qZ 900) ?_
     refine l_imp (s_many_snoc (q := qZ) (z := (sx, xs)) 900 1 901 rfl rfl rfl rfl rfl) ?_
     refine l_imp (s_pub 6 rfl rfl pS) ?_
     refine l_imp (s_mkdeep 6 901 993 rfl rfl rfl rfl) ?_
     refine tt (t_call (n := 6) (law_valid_z _ _ (fun z hz => by cases hz with | head => exact hv | tail _ h => cases h)) rfl rfl rfl ⟨rfl, trivial⟩ Tryz.call16 (pre_same 993 rfl rfl rfl pre_nil) rfl hw) rfl (fun _ _ => ?_)
     refine dt (d_notb rfl rfl) rfl ?_
     refine mv rfl rfl (gdt (d_lb2 (i := 2) rfl rfl rfl Tryz.isAgg25 Tryz.sizeOf25 rfl rfl) rfl rfl rfl rfl ?_)
     refine gtt (t_call (n := 6) (r_valid _ _) rfl rfl rfl ⟨rfl, trivial⟩ Tryz.call18 pre_nil rfl hw) rfl rfl rfl rfl (fun _ _ => ?_)
     refine gdt (det_is (r' := .bool false) (d_notb rfl rfl) (congrArg Value.bool (by rw [show okW (decide (x < 0)) (bstr x.natAbs) = true from okW_wv hx]; rfl))) rfl rfl rfl rfl ?_
     refine dt (d_pickf rfl rfl rfl) rfl ?_
     refine mv rfl rfl (gdt (d_lb2 (i := 3) rfl rfl rfl Tryz.isAgg25 Tryz.sizeOf25 rfl rfl) rfl rfl rfl rfl ?_)
     refine gtt (t_call (n := 6) (r_valid _ _) rfl rfl rfl ⟨rfl, trivial⟩ Tryz.call18 pre_nil rfl hw) rfl rfl rfl rfl (fun _ _ => ?_)
     refine gdt (det_is (r' := .bool false) (d_notb rfl rfl) (congrArg Value.bool (by rw [show okW (decide (y < 0)) (bstr y.natAbs) = true from okW_wv hy]; rfl))) rfl rfl rfl rfl ?_
     refine dt (d_pickf rfl rfl rfl) rfl ?_
     refine mv rfl rfl (gdt (d_lb2 (i := 4) rfl rfl rfl Tryz.isAgg25 Tryz.sizeOf25 rfl rfl) rfl rfl rfl rfl ?_)
     refine gtt (t_call (n := 6) (r_valid _ _) rfl rfl rfl ⟨rfl, trivial⟩ Tryz.call18 pre_nil rfl hw) rfl rfl rfl rfl (fun _ _ => ?_)
     refine gdt (det_is (r' := .bool false) (d_notb rfl rfl) (congrArg Value.bool (by rw [show okW (decide (z < 0)) (bstr z.natAbs) = true from okW_wv hz]; rfl))) rfl rfl rfl rfl ?_
     refine dt (d_pickf rfl rfl rfl) rfl ?_
     refine l_nil (x_then (e_condf rfl ?_))
     refine e_skip ?_
     refine x_then (e_seq (e_seq (e_reg (dt (d_lb2 (i := 4) rfl rfl rfl Tryz.isAgg25 Tryz.sizeOf25 rfl rfl) rfl ?_))))
     refine tt (t_call (n := 7) (r_from _ (by omega)) rfl rfl rfl ⟨rfl, trivial⟩ Tryz.call21 pre_nil rfl hw) rfl (fun v_3 _ => ?_)
     refine tt (t_call (n := 7) (r_sign _ _ (by omega)) rfl rfl rfl ⟨rfl, trivial⟩ Tryz.call34 (pre_same 7 rfl rfl rfl pre_nil) rfl hw) rfl (fun _ _ => ?_)
     refine dt (det_is (r' := .bool true) (d_leq rfl rfl rfl) (congrArg Value.bool (decide_eq_true (by have h2 := decide_eq_decide.1 (sign_pos_iff z); omega)))) rfl ?_
     refine l_nil (x_then (e_condt rfl ?_))
     refine e_seq (e_reg (mv rfl rfl (dt (d_len rfl rfl (i := 999) rfl rd_slp Tryz.underlying23) rfl ?_)))
     refine dt (det_is (r' := .bool true) (d_eql rfl rfl rfl) (congrArg Value.bool (by decide))) rfl ?_
     refine mv rfl rfl (gdt (d_mv rfl rfl) rfl rfl rfl rfl ?_)
     refine gdt (det_is (r' := .bool true) (d_eql rfl rfl rfl) (congrArg Value.bool (by decide))) rfl rfl rfl rfl ?_
     refine dt (d_pickt rfl rfl rfl) rfl ?_
     refine mv rfl rfl (gtt (t_call (n := 7) (law_known) rfl rfl rfl trivial Tryz.call11 pre_nil rfl hw) rfl rfl rfl rfl (fun _ _ => ?_))
     refine dt (d_pickt rfl rfl rfl) rfl ?_
     refine as_ rfl rfl (l_nil (x_then (e_ret (x_ret ?_))))
     exact x_end (.inl rfl) hsc () _ (fun a w hs => res1 hs Tryz.results5 rfl) rfl trivial rfl give_nil
set_option maxHeartbeats 4000000 in
theorem law_composes_bad (v : Value) (r : RW) (b1 : Bool) (s1 : ByteArray) (b2 : Bool) (s2 : ByteArray) (b3 : Bool) (s3 : ByteArray) (hb : okP r = true → okW b1 s1 = true → okW b2 s2 = true → okW b3 s3 = true → False) : Cal Tryz.prog 5 #[v, .agg #[.bool b1, .string s1], .agg #[.bool b2, .string s2], .agg #[.bool b3, .string s3]] [slp 2 encW v r] false (G := Unit) (fun _ => True) (fun _ => .bool true) (fun _ => []) := by
 refine cal_in Tryz.func5 rfl Tryz.ntmps5 rfl ⟨rfl, trivial⟩ ?_
 intro w0 sc hw hsc
 simp only [enumEnv, enumPre]
 refine e_imp (s_nil 999 2 25 wv) ?_
 refine e_imp (s_pub 999 rfl rfl pV) ?_
 refine e_seq (e_ex (f_slice 1 rfl rd_slp) (fun sx hssx => ?_))
 subst hssx
 refine e_reg (tt (t_box (i := 2) rfl rfl rfl rfl rfl rfl hw) rfl (fun b _ => ?_))
 refine tt (t_box (i := 3) rfl rfl rfl rfl rfl rfl hw) rfl (fun b_2 _ => ?_)
 refine tt (t_box (i := 4) rfl rfl rfl rfl rfl rfl hw) rfl (fun b_3 _ => ?_)
 refine as_ rfl rfl (l_nil (x_then (e_seq (e_seq (e_reg (mv rfl rfl (tt (t_bsg (i := 5) (ivs := [(0, _)]) (enc := encS) [(sx, r)] rfl rfl rfl ⟨rfl, rfl, trivial⟩ Tryz.underlying68 Tryz.ti23 rfl rfl rfl rfl rfl rfl pS.cells rfl rfl hw) rfl (fun v _ => ?_))))))))
 refine l_imp (s_many_nil qR 900) ?_
 refine l_imp (s_many_snoc (q := qR) (z := (sx, r)) 900 1 901 rfl rfl rfl rfl rfl) ?_
 refine l_imp (s_pub 5 rfl rfl pS) ?_
 refine l_imp (s_mkdeep 5 901 962 rfl rfl rfl rfl) ?_
 refine tt (t_call (n := 5) (law_short _ _) rfl rfl rfl ⟨rfl, trivial⟩ Tryz.call10 (pre_same 962 rfl rfl rfl pre_nil) rfl hw) rfl (fun _ _ => ?_)
 refine dt (d_notb rfl rfl) rfl ?_
 refine mv rfl rfl (l_splitb (d := 15) rfl (fun s174 => ?_) (fun s174 => ?_))
 ·refine gsk rfl rfl rfl rfl rfl (gsk rfl rfl rfl rfl rfl (gsk rfl rfl rfl rfl rfl (gsk rfl rfl rfl rfl rfl (dt (d_pickt rfl rfl rfl) rfl ?_))))
  refine mv rfl rfl (gsk rfl rfl rfl rfl rfl (gsk rfl rfl rfl rfl rfl (gsk rfl rfl rfl rfl rfl (gsk rfl rfl rfl rfl rfl (dt (d_pickt rfl rfl rfl) rfl ?_)))))
  refine mv rfl rfl (gsk rfl rfl rfl rfl rfl (gsk rfl rfl rfl rfl rfl (gsk rfl rfl rfl rfl rfl (gsk rfl rfl rfl rfl rfl (dt (d_pickt rfl rfl rfl) rfl ?_)))))
  refine l_nil (x_then (e_condt rfl ?_))
  refine e_seq (e_reg (tt (t_call (n := 5) (law_known) rfl rfl rfl trivial Tryz.call11 pre_nil rfl hw) rfl (fun _ _ => ?_)))
  refine as_ rfl rfl (l_nil (x_then (e_ret (x_ret ?_))))
  exact x_end (.inl rfl) hsc () _ (fun a w hs => res1 hs Tryz.results5 rfl) rfl trivial rfl give_nil
 ·refine gdt (d_fa rfl rfl Tryz.underlying25 rfl Tryz.sizeOf9 rfl rfl) rfl rfl rfl rfl ?_
  refine gdt (d_lb (i := 2) rfl rfl rfl Tryz.isAgg9 rfl) rfl rfl rfl rfl ?_
  refine gdt (d_lens rfl rfl Tryz.underlying9) rfl rfl rfl rfl ?_
  refine gdt (d_gtr rfl rfl rfl) rfl rfl rfl rfl ?_
  refine dt (d_pickf rfl rfl rfl) rfl ?_
  refine mv rfl rfl (l_split (d := 21) rfl (fun s174_2 => ?_) (fun s174_2 => ?_))
  ·refine gsk rfl rfl rfl rfl rfl (gsk rfl rfl rfl rfl rfl (gsk rfl rfl rfl rfl rfl (gsk rfl rfl rfl rfl rfl (dt (d_pickt rfl rfl rfl) rfl ?_))))
   refine mv rfl rfl (gsk rfl rfl rfl rfl rfl (gsk rfl rfl rfl rfl rfl (gsk rfl rfl rfl rfl rfl (gsk rfl rfl rfl rfl rfl (dt (d_pickt rfl rfl rfl) rfl ?_)))))
   refine l_nil (x_then (e_condt rfl ?_))
   refine e_seq (e_reg (tt (t_call (n := 5) (law_known) rfl rfl rfl trivial Tryz.call11 pre_nil rfl hw) rfl (fun _ _ => ?_)))
   refine as_ rfl rfl (l_nil (x_then (e_ret (x_ret ?_))))
   exact x_end (.inl rfl) hsc () _ (fun a w hs => res1 hs Tryz.results5 rfl) rfl trivial rfl give_nil
  ·refine gdt (d_fa rfl rfl Tryz.underlying25 rfl Tryz.sizeOf9 rfl rfl) rfl rfl rfl rfl ?_
   refine gdt (d_lb (i := 3) rfl rfl rfl Tryz.isAgg9 rfl) rfl rfl rfl rfl ?_
   refine gdt (d_lens rfl rfl Tryz.underlying9) rfl rfl rfl rfl ?_
   refine gdt (d_gtr rfl rfl rfl) rfl rfl rfl rfl ?_
   refine dt (d_pickf rfl rfl rfl) rfl ?_
   refine mv rfl rfl (l_split (d := 27) rfl (fun s174_3 => ?_) (fun s174_3 => ?_))
   ·refine gsk rfl rfl rfl rfl rfl (gsk rfl rfl rfl rfl rfl (gsk rfl rfl rfl rfl rfl (gsk rfl rfl rfl rfl rfl (dt (d_pickt rfl rfl rfl) rfl ?_))))
    refine l_nil (x_then (e_condt rfl ?_))
    refine e_seq (e_reg (tt (t_call (n := 5) (law_known) rfl rfl rfl trivial Tryz.call11 pre_nil rfl hw) rfl (fun _ _ => ?_)))
    refine as_ rfl rfl (l_nil (x_then (e_ret (x_ret ?_))))
    exact x_end (.inl rfl) hsc () _ (fun a w hs => res1 hs Tryz.results5 rfl) rfl trivial rfl give_nil
   ·refine gdt (d_fa rfl rfl Tryz.underlying25 rfl Tryz.sizeOf9 rfl rfl) rfl rfl rfl rfl ?_
    refine gdt (d_lb (i := 4) rfl rfl rfl Tryz.isAgg9 rfl) rfl rfl rfl rfl ?_
    refine gdt (d_lens rfl rfl Tryz.underlying9) rfl rfl rfl rfl ?_
    refine gdt (d_gtr rfl rfl rfl) rfl rfl rfl rfl ?_
    refine dt (d_pickf rfl rfl rfl) rfl ?_
    refine l_nil (x_then (e_cond rfl (fun h174 => ?_) (fun h174 => ?_)))
    ·refine e_seq (e_reg (tt (t_call (n := 5) (law_known) rfl rfl rfl trivial Tryz.call11 pre_nil rfl hw) rfl (fun _ _ => ?_)))
     refine as_ rfl rfl (l_nil (x_then (e_ret (x_ret ?_))))
     exact x_end (.inl rfl) hsc () _ (fun a w hs => res1 hs Tryz.results5 rfl) rfl trivial rfl give_nil
    ·refine e_skip ?_
     refine x_then (e_seq (e_reg (mv rfl rfl (dt (d_lb2 (i := 2) rfl rfl rfl Tryz.isAgg25 Tryz.sizeOf25 rfl rfl) rfl ?_))))
     refine dt (d_lb2 (i := 3) rfl rfl rfl Tryz.isAgg25 Tryz.sizeOf25 rfl rfl) rfl ?_
     refine dt (d_lb2 (i := 4) rfl rfl rfl Tryz.isAgg25 Tryz.sizeOf25 rfl rfl) rfl ?_
     refine tt (t_call (n := 5) (poly_compose_bad _ _ _ _ _ _ _ _ hb) rfl rfl rfl ⟨rfl, rfl, rfl, rfl, trivial⟩ Tryz.call35 (pre_same 1 rfl rfl rfl pre_nil) rfl hw) rfl (fun _ _ => ?_)
     refine mv rfl rfl (dt (d_ex rfl rfl rfl) rfl ?_)
     refine dt (d_ex rfl rfl rfl) rfl ?_
     refine as_ rfl rfl (as_ rfl rfl (l_nil (x_then (e_seq (e_seq (e_reg (mv rfl rfl (tt (t_bsg (i := 6) (ivs := [(0, _)]) (enc := encS) [(sx, r)] rfl rfl rfl ⟨rfl, rfl, trivial⟩ Tryz.underlying68 Tryz.ti23 rfl rfl rfl rfl rfl rfl pS.cells rfl rfl hw) rfl (fun v_2 _ => ?_)))))))))
     refine l_imp (s_many_nil qR 900) ?_
     refine l_imp (s_many_snoc (q := qR) (z := (sx, r)) 900 1 901 rfl rfl rfl rfl rfl) ?_
     refine l_imp (s_pub 6 rfl rfl pS) ?_
     refine l_imp (s_mkdeep 6 901 993 rfl rfl rfl rfl) ?_
     refine tt (t_call (n := 6) (law_valid _ _) rfl rfl rfl ⟨rfl, trivial⟩ Tryz.call16 (pre_same 993 rfl rfl rfl pre_nil) rfl hw) rfl (fun _ _ => ?_)
     refine dt (d_notb rfl rfl) rfl ?_
     refine mv rfl rfl (l_splitb (d := 46) rfl (fun s178 => ?_) (fun s178 => ?_))
     ·refine gsk rfl rfl rfl rfl rfl (gsk rfl rfl rfl rfl rfl (gsk rfl rfl rfl rfl rfl (dt (d_pickt rfl rfl rfl) rfl ?_)))
      refine mv rfl rfl (gsk rfl rfl rfl rfl rfl (gsk rfl rfl rfl rfl rfl (gsk rfl rfl rfl rfl rfl (dt (d_pickt rfl rfl rfl) rfl ?_))))
      refine mv rfl rfl (gsk rfl rfl rfl rfl rfl (gsk rfl rfl rfl rfl rfl (gsk rfl rfl rfl rfl rfl (dt (d_pickt rfl rfl rfl) rfl ?_))))
      refine l_nil (x_then (e_condt rfl ?_))
      refine e_seq (e_reg (mv rfl rfl (dt (d_len rfl rfl (i := 999) rfl rd_slp Tryz.underlying23) rfl ?_)))
      refine dt (det_is (r' := .bool true) (d_eql rfl rfl rfl) (congrArg Value.bool (by decide))) rfl ?_
      refine mv rfl rfl (gdt (d_mv rfl rfl) rfl rfl rfl rfl ?_)
      refine gdt (det_is (r' := .bool true) (d_eql rfl rfl rfl) (congrArg Value.bool (by decide))) rfl rfl rfl rfl ?_
      refine dt (d_pickt rfl rfl rfl) rfl ?_
      refine mv rfl rfl (gtt (t_call (n := 6) (law_known) rfl rfl rfl trivial Tryz.call11 pre_nil rfl hw) rfl rfl rfl rfl (fun _ _ => ?_))
      refine dt (d_pickt rfl rfl rfl) rfl ?_
      refine as_ rfl rfl (l_nil (x_then (e_ret (x_ret ?_))))
      exact x_end (.inl rfl) hsc () _ (fun a w hs => res1 hs Tryz.results5 rfl) rfl trivial rfl give_nil
     ·refine gdt (d_lb2 (i := 2) rfl rfl rfl Tryz.isAgg25 Tryz.sizeOf25 rfl rfl) rfl rfl rfl rfl ?_
      refine gtt (t_call (n := 6) (r_valid _ _) rfl rfl rfl ⟨rfl, trivial⟩ Tryz.call18 pre_nil rfl hw) rfl rfl rfl rfl (fun _ _ => ?_)
      refine gdt (d_notb rfl rfl) rfl rfl rfl rfl ?_
      refine dt (d_pickf rfl rfl rfl) rfl ?_
      refine mv rfl rfl (l_splitb (d := 51) rfl (fun s178_2 => ?_) (fun s178_2 => ?_))
      ·refine gsk rfl rfl rfl rfl rfl (gsk rfl rfl rfl rfl rfl (gsk rfl rfl rfl rfl rfl (dt (d_pickt rfl rfl rfl) rfl ?_)))
       refine mv rfl rfl (gsk rfl rfl rfl rfl rfl (gsk rfl rfl rfl rfl rfl (gsk rfl rfl rfl rfl rfl (dt (d_pickt rfl rfl rfl) rfl ?_))))
       refine l_nil (x_then (e_condt rfl ?_))
       refine e_seq (e_reg (mv rfl rfl (dt (d_len rfl rfl (i := 999) rfl rd_slp Tryz.underlying23) rfl ?_)))
       refine dt (det_is (r' := .bool true) (d_eql rfl rfl rfl) (congrArg Value.bool (by decide))) rfl ?_
       refine mv rfl rfl (gdt (d_mv rfl rfl) rfl rfl rfl rfl ?_)
       refine gdt (det_is (r' := .bool true) (d_eql rfl rfl rfl) (congrArg Value.bool (by decide))) rfl rfl rfl rfl ?_
       refine dt (d_pickt rfl rfl rfl) rfl ?_
       refine mv rfl rfl (gtt (t_call (n := 6) (law_known) rfl rfl rfl trivial Tryz.call11 pre_nil rfl hw) rfl rfl rfl rfl (fun _ _ => ?_))
       refine dt (d_pickt rfl rfl rfl) rfl ?_
       refine as_ rfl rfl (l_nil (x_then (e_ret (x_ret ?_))))
       exact x_end (.inl rfl) hsc () _ (fun a w hs => res1 hs Tryz.results5 rfl) rfl trivial rfl give_nil
      ·refine gdt (d_lb2 (i := 3) rfl rfl rfl Tryz.isAgg25 Tryz.sizeOf25 rfl rfl) rfl rfl rfl rfl ?_
       refine gtt (t_call (n := 6) (r_valid _ _) rfl rfl rfl ⟨rfl, trivial⟩ Tryz.call18 pre_nil rfl hw) rfl rfl rfl rfl (fun _ _ => ?_)
       refine gdt (d_notb rfl rfl) rfl rfl rfl rfl ?_
       refine dt (d_pickf rfl rfl rfl) rfl ?_
       refine mv rfl rfl (l_splitb (d := 56) rfl (fun s178_3 => ?_) (fun s178_3 => ?_))
       ·refine gsk rfl rfl rfl rfl rfl (gsk rfl rfl rfl rfl rfl (gsk rfl rfl rfl rfl rfl (dt (d_pickt rfl rfl rfl) rfl ?_)))
        refine l_nil (x_then (e_condt rfl ?_))
        refine e_seq (e_reg (mv rfl rfl (dt (d_len rfl rfl (i := 999) rfl rd_slp Tryz.underlying23) rfl ?_)))
        refine dt (det_is (r' := .bool true) (d_eql rfl rfl rfl) (congrArg Value.bool (by decide))) rfl ?_
        refine mv rfl rfl (gdt (d_mv rfl rfl) rfl rfl rfl rfl ?_)
        refine gdt (det_is (r' := .bool true) (d_eql rfl rfl rfl) (congrArg Value.bool (by decide))) rfl rfl rfl rfl ?_
        refine dt (d_pickt rfl rfl rfl) rfl ?_
        refine mv rfl rfl (gtt (t_call (n := 6) (law_known) rfl rfl rfl trivial Tryz.call11 pre_nil rfl hw) rfl rfl rfl rfl (fun _ _ => ?_))
        refine dt (d_pickt rfl rfl rfl) rfl ?_
        refine as_ rfl rfl (l_nil (x_then (e_ret (x_ret ?_))))
        exact x_end (.inl rfl) hsc () _ (fun a w hs => res1 hs Tryz.results5 rfl) rfl trivial rfl give_nil
       ·refine gdt (d_lb2 (i := 4) rfl rfl rfl Tryz.isAgg25 Tryz.sizeOf25 rfl rfl) rfl rfl rfl rfl ?_
        refine gtt (t_call (n := 6) (r_valid _ _) rfl rfl rfl ⟨rfl, trivial⟩ Tryz.call18 pre_nil rfl hw) rfl rfl rfl rfl (fun _ _ => ?_)
        refine gdt (d_notb rfl rfl) rfl rfl rfl rfl ?_
        refine dt (d_pickf rfl rfl rfl) rfl ?_
        refine l_nil (x_then (e_condb rfl (fun h178 => ?_) (fun h178 => ?_)))
        ·refine e_seq (e_reg (mv rfl rfl (dt (d_len rfl rfl (i := 999) rfl rd_slp Tryz.underlying23) rfl ?_)))
         refine dt (det_is (r' := .bool true) (d_eql rfl rfl rfl) (congrArg Value.bool (by decide))) rfl ?_
         refine mv rfl rfl (gdt (d_mv rfl rfl) rfl rfl rfl rfl ?_)
         refine gdt (det_is (r' := .bool true) (d_eql rfl rfl rfl) (congrArg Value.bool (by decide))) rfl rfl rfl rfl ?_
         refine dt (d_pickt rfl rfl rfl) rfl ?_
         refine mv rfl rfl (gtt (t_call (n := 6) (law_known) rfl rfl rfl trivial Tryz.call11 pre_nil rfl hw) rfl rfl rfl rfl (fun _ _ => ?_))
         refine dt (d_pickt rfl rfl rfl) rfl ?_
         refine as_ rfl rfl (l_nil (x_then (e_ret (x_ret ?_))))
         exact x_end (.inl rfl) hsc () _ (fun a w hs => res1 hs Tryz.results5 rfl) rfl trivial rfl give_nil
        ·exfalso; exact hb (by simpa using s178) (by simpa using s178_2) (by simpa using s178_3) (by simpa using h178)
end Go.Sky
namespace Go.Sky
open Go.Proofs
theorem law_composes (v : Value) (r : List (Bool × ByteArray)) (b1 : Bool) (s1 : ByteArray) (b2 : Bool) (s2 : ByteArray) (b3 : Bool) (s3 : ByteArray) : Cal Tryz.prog 5 #[v, .agg #[.bool b1, .string s1], .agg #[.bool b2, .string s2], .agg #[.bool b3, .string s3]] [slp 2 encW v r] false (G := Unit) (fun _ => True) (fun _ => .bool true) (fun _ => []) := by
  by_cases h : okP r = true ∧ okW b1 s1 = true ∧ okW b2 s2 = true ∧ okW b3 s3 = true
  · obtain ⟨h0, h1, h2, h3⟩ := h
    obtain ⟨xs, hv, rfl⟩ := okP_ex h0
    obtain ⟨x, hx, rfl, rfl⟩ := okW_ex h1
    obtain ⟨y, hy, rfl, rfl⟩ := okW_ex h2
    obtain ⟨z, hz, rfl, rfl⟩ := okW_ex h3
    refine Cal.imp (p := slp 2 wv v xs) ?_ (slp_wr' v xs) (fun _ h => h)
    by_cases hz0 : 0 < z
    · exact law_composes_ok v xs x y z hv hx hy hz hz0
    · exact law_composes_rng v xs x y z hv hx hy hz hz0
  · exact law_composes_bad v r b1 s1 b2 s2 b3 s3 (fun a b c d => h ⟨a, b, c, d⟩)
end Go.Sky
