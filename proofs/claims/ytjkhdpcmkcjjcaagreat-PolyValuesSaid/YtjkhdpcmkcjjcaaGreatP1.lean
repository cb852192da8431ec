/- the law
   Proved without conditions of its own: each theorem bears its own. -/
import Derived.Test.YtjkhdpcmkcjjcaaGreatK
import Derived.Test.YtjkhdpcmkcjjcaaGreatD
import Derived.Test.YtjkhdpcmkcjjcaaGreatB
import Derived.Test.YtjkhdpcmkcjjcaaGreatC
import Derived.Test.YtjkhdpcmkcjjcaaGreatJ
set_option linter.all false
namespace Go.Sky
open Go.Proofs
set_option linter.unusedVariables false
theorem cp_nf {p : List Int} {x y z : Int} {n m : Nat} (hp : Sz n p) (hx : bl x.natAbs ≤ m) (hy : bl y.natAbs ≤ m) (hz : bl z.natAbs ≤ m) (hl : p.length ≤ 25) (hF : n + 24 * (m + 1) + 8 ≤ 65536) : msz p + (p.length - 1) * (msz [x, y, z] + 1) + 8 ≤ 65536 := by
  have h1 := msz_le hp
  have h2 : msz [x, y, z] ≤ m := by simp only [msz]; omega
  have h3 : (p.length - 1) * (msz [x, y, z] + 1) ≤ 24 * (m + 1) := Nat.mul_le_mul (by omega) (by omega)
  omega
theorem cp_not {p : List Int} {x y z : Int} (h : msz p + (p.length - 1) * (msz [x, y, z] + 1) + 8 ≤ 65536) : ¬ cpfull p x y z := fun h2 => by have := h2.2; omega
theorem sz_pcompo {p : List Int} {x y z : Int} (h : msz p + (p.length - 1) * (msz [x, y, z] + 1) + 8 ≤ 65536) : Sz 65536 (pcompo p x y z) := by
  unfold pcompo
  split
  · exact Sz.nil _
  · exact (cp_last h).tzl
theorem len_pcompo (p : List Int) (x y z : Int) : (pcompo p x y z).length ≤ p.length := by
  unfold pcompo
  split
  · exact Nat.zero_le _
  · refine Nat.le_trans (tzl_le _) ?_
    rw [length_chor]; omega
end Go.Sky
namespace Go.Sky
open Go.Proofs
set_option linter.unusedVariables false
theorem ev_nf {p : List Int} {x y : Int} {n m : Nat} (hp : Sz n p) (hx : bl x.natAbs ≤ m) (hy : bl y.natAbs ≤ m) (hl : p.length ≤ 25) (hF : n + 24 * m + 8 ≤ 65536) : ¬ evfull p x y := fun h => by
  have h1 := msz_le hp
  have h2 : msz [x, y] ≤ m := by simp only [msz]; omega
  have h3 : (p.length - 1) * msz [x, y] ≤ 24 * m := Nat.mul_le_mul (by omega) h2
  have h4 := h.2
  omega
theorem ev_pb {p : List Int} {x y : Int} (h : ¬ evfull p x y) (hv : Vp p) : bl (pev p x y).natAbs ≤ 65536 := by
  have h1 := evv_bl (p := p) (n := x) (d := y) hv.len
  rwa [show evv p x y = pev p x y from if_neg h] at h1
theorem lgcd_dv1 (x y : Int) : lgcd x y ∣ x := by
  unfold lgcd; split
  · exact Int.neg_dvd.2 (Int.gcd_dvd_left ..)
  · exact Int.gcd_dvd_left ..
theorem lgcd_dv2 (x y : Int) : lgcd x y ∣ y := by
  unfold lgcd; split
  · exact Int.neg_dvd.2 (Int.gcd_dvd_right ..)
  · exact Int.gcd_dvd_right ..
theorem ev_q1 {p : List Int} {x y : Int} (h : ¬ evfull p x y) (hv : Vp p) : bl (pev p x y / lgcd (pev p x y) (y ^ (p.length - 1))).natAbs ≤ 4000000000 :=
  Nat.le_trans (ediv_bl_le (lgcd_dv1 _ _) (ev_pb h hv)) (by omega)
theorem ev_yb {p : List Int} {x y : Int} (h : ¬ evfull p x y) : bl (y ^ (p.length - 1)).natAbs ≤ 65536 := by
  by_cases hp : p = []
  · subst hp; show bl (y ^ 0).natAbs ≤ 65536; rw [Int.pow_zero]; show bl 1 ≤ _; rw [bl_one]; omega
  · exact ev_pw h _ (Nat.le_refl _)
theorem ev_q2 {p : List Int} {x y : Int} (h : ¬ evfull p x y) (hv : Vp p) : bl (y ^ (p.length - 1) / lgcd (pev p x y) (y ^ (p.length - 1))).natAbs ≤ 4000000000 :=
  Nat.le_trans (ediv_bl_le (lgcd_dv2 _ _) (ev_yb h)) (by omega)
end Go.Sky
namespace Go.Sky
open Go.Proofs
set_option maxRecDepth 20000
set_option maxHeartbeats 4000000
set_option linter.unusedVariables false
set_option linter.unusedSimpArgs false
set_option maxHeartbeats 4000000 in
theorem law_values_ok (v : Value) (xs : List Int) (x y : Int) (hv : Vp xs) (hx : bl x.natAbs ≤ 65536) (hy : bl y.natAbs ≤ 65536) (hy0 : 0 < y) : Cal Tryz.prog 4 #[v, .agg #[.bool (decide (x < 0)), .string (bstr x.natAbs), .bool (decide (y < 0)), .string (bstr y.natAbs)]] [slp 2 wv v xs] false (G := Unit) (fun _ => True) (fun _ => .bool true) (fun _ => []) := by
 refine cal_in Tryz.func4 rfl Tryz.ntmps4 rfl ⟨rfl, trivial⟩ ?_
 intro w0 sc hw hsc
 simp only [enumEnv, enumPre]
 refine e_imp (s_nil 999 2 25 wv) ?_
 refine e_imp (s_pub 999 rfl rfl pV) ?_
 refine e_seq (e_ex (f_slice 1 rfl rd_slp) (fun sx hssx => ?_))
 subst hssx
 refine e_reg (tt (t_box (i := 2) rfl rfl rfl rfl rfl rfl hw) rfl (fun b _ => ?_))
 refine as_ rfl rfl (l_nil (x_then (e_seq (e_seq (e_reg (mv rfl rfl (tt (t_bsg (i := 3) (ivs := [(0, _)]) (enc := encS) [(sx, xs)] rfl rfl rfl ⟨rfl, rfl, trivial⟩ Tryz.underlying68 Tryz.ti23 rfl rfl rfl rfl rfl rfl pS.cells rfl rfl hw) rfl (fun v _ => ?_))))))))
 refine l_imp (s_many_nil qZ 900) ?_
 refine l_imp (s_many_snoc (q := qZ) (z := (sx, xs)) 900 1 901 rfl rfl rfl rfl rfl) ?_
 refine l_imp (s_pub 3 rfl rfl pS) ?_
 refine l_imp (s_mkdeep 3 901 967 rfl rfl rfl rfl) ?_
 refine tt (t_call (n := 3) (law_short_z _ _) rfl rfl rfl ⟨rfl, trivial⟩ Tryz.call10 (pre_same 967 rfl rfl rfl pre_nil) rfl hw) rfl (fun _ _ => ?_)
 refine dt (d_notb rfl rfl) rfl ?_
 refine mv rfl rfl (l_splitb (d := 20) rfl (fun s157 => ?_) (fun s157 => ?_))
 ·refine gsk rfl rfl rfl rfl rfl (gsk rfl rfl rfl rfl rfl (gsk rfl rfl rfl rfl rfl (gsk rfl rfl rfl rfl rfl (gsk rfl rfl rfl rfl rfl (dt (d_pickt rfl rfl rfl) rfl ?_)))))
  refine mv rfl rfl (gsk rfl rfl rfl rfl rfl (gsk rfl rfl rfl rfl rfl (gsk rfl rfl rfl rfl rfl (gsk rfl rfl rfl rfl rfl (gsk rfl rfl rfl rfl rfl (dt (d_pickt rfl rfl rfl) rfl ?_))))))
  refine l_nil (x_then (e_condt rfl ?_))
  refine e_seq (e_reg (tt (t_call (n := 3) (law_known) rfl rfl rfl trivial Tryz.call11 pre_nil rfl hw) rfl (fun _ _ => ?_)))
  refine as_ rfl rfl (l_nil (x_then (e_ret (x_ret ?_))))
  exact x_end (.inl rfl) hsc () _ (fun a w hs => res1 hs Tryz.results4 rfl) rfl trivial rfl give_nil
 ·refine gdt (d_fa rfl rfl Tryz.underlying49 rfl Tryz.sizeOf25 rfl rfl) rfl rfl rfl rfl ?_
  refine gdt (d_fa rfl rfl Tryz.underlying25 rfl Tryz.sizeOf9 rfl rfl) rfl rfl rfl rfl ?_
  refine gdt (d_lb (i := 2) rfl rfl rfl Tryz.isAgg9 rfl) rfl rfl rfl rfl ?_
  refine gdt (d_lens rfl rfl Tryz.underlying9) rfl rfl rfl rfl ?_
  refine gdt (d_gtr rfl rfl rfl) rfl rfl rfl rfl ?_
  refine dt (d_pickf rfl rfl rfl) rfl ?_
  refine mv rfl rfl (l_split (d := 27) rfl (fun s157_2 => ?_) (fun s157_2 => ?_))
  ·refine gsk rfl rfl rfl rfl rfl (gsk rfl rfl rfl rfl rfl (gsk rfl rfl rfl rfl rfl (gsk rfl rfl rfl rfl rfl (gsk rfl rfl rfl rfl rfl (dt (d_pickt rfl rfl rfl) rfl ?_)))))
   refine l_nil (x_then (e_condt rfl ?_))
   refine e_seq (e_reg (tt (t_call (n := 3) (law_known) rfl rfl rfl trivial Tryz.call11 pre_nil rfl hw) rfl (fun _ _ => ?_)))
   refine as_ rfl rfl (l_nil (x_then (e_ret (x_ret ?_))))
   exact x_end (.inl rfl) hsc () _ (fun a w hs => res1 hs Tryz.results4 rfl) rfl trivial rfl give_nil
  ·refine gdt (d_fa rfl rfl Tryz.underlying49 rfl Tryz.sizeOf25 rfl rfl) rfl rfl rfl rfl ?_
   refine gdt (d_fa rfl rfl Tryz.underlying25 rfl Tryz.sizeOf9 rfl rfl) rfl rfl rfl rfl ?_
   refine gdt (d_lb (i := 2) rfl rfl rfl Tryz.isAgg9 rfl) rfl rfl rfl rfl ?_
   refine gdt (d_lens rfl rfl Tryz.underlying9) rfl rfl rfl rfl ?_
   refine gdt (d_gtr rfl rfl rfl) rfl rfl rfl rfl ?_
   refine dt (d_pickf rfl rfl rfl) rfl ?_
   refine l_nil (x_then (e_cond rfl (fun h157 => ?_) (fun h157 => ?_)))
   ·refine e_seq (e_reg (tt (t_call (n := 3) (law_known) rfl rfl rfl trivial Tryz.call11 pre_nil rfl hw) rfl (fun _ _ => ?_)))
    refine as_ rfl rfl (l_nil (x_then (e_ret (x_ret ?_))))
    exact x_end (.inl rfl) hsc () _ (fun a w hs => res1 hs Tryz.results4 rfl) rfl trivial rfl give_nil
   ·refine e_skip ?_
    refine x_then (e_seq ?_)
    have hsh : shortb [xs.map wr] = true := by simpa using s157
    obtain ⟨hxl, hxs⟩ := short1_z (short_one hsh)
    have hx14 : xs.length ≤ 14 := by have := hv.len; omega
    have hxb : bl x.natAbs ≤ 80 := bstr_bl (n := 10) (by omega)
    have hyb : bl y.natAbs ≤ 80 := bstr_bl (n := 10) (by omega)
    have hE := ev_nf hxs hxb hyb hv.len (by omega)
    have hev : evv xs x y = pev xs x y := if_neg hE
    have hee : eve xs x y = 0 := if_neg hE
    refine e_reg (mv rfl rfl (dt (d_lb4 (i := 2) rfl rfl rfl Tryz.isAgg49 Tryz.sizeOf49 rfl rfl rfl rfl) rfl ?_))
    refine tt (t_call (n := 3) (poly_eval _ _ _ _ hv hx hy hy0) rfl rfl rfl ⟨rfl, rfl, trivial⟩ Tryz.call26 (pre_same 1 rfl rfl rfl pre_nil) rfl hw) rfl (fun _ _ => ?_)
    refine mv rfl rfl (dt (d_ex rfl rfl rfl) rfl ?_)
    refine dt (d_ex rfl rfl rfl) rfl ?_
    refine tt (t_alloc (i := 4) rfl rfl rfl Tryz.zeroValue25 rfl rfl hw) rfl (fun b_2 _ => ?_)
    refine tt (t_stw (i := 4) rfl rfl rfl rfl rfl (by decide) rfl Tryz.sizeOf25 rfl rfl ⟨(one_rfl rfl), (one_rfl rfl), trivial⟩ rfl hw trivial) rfl (fun _ _ => ?_)
    refine as_ rfl rfl (l_nil (x_then (e_seq (e_reg (mv rfl rfl (dt (d_lb4 (i := 2) rfl rfl rfl Tryz.isAgg49 Tryz.sizeOf49 rfl rfl rfl rfl) rfl ?_))))))
    refine tt (t_call (n := 4) (poly_value _ _ _ _ hv hx hy hy0 hE) rfl rfl rfl ⟨rfl, rfl, trivial⟩ Tryz.call27 (pre_same 1 rfl rfl rfl pre_nil) rfl hw) rfl (fun _ _ => ?_)
    refine mv rfl rfl (dt (d_ex rfl rfl rfl) rfl ?_)
    refine dt (d_ex rfl rfl rfl) rfl ?_
    refine tt (t_alloc (i := 5) rfl rfl rfl Tryz.zeroValue49 rfl rfl hw) rfl (fun b_3 _ => ?_)
    refine tt (t_stw (i := 5) rfl rfl rfl rfl rfl (by decide) rfl Tryz.sizeOf49 rfl rfl ⟨(one_rfl rfl), (one_rfl rfl), (one_rfl rfl), (one_rfl rfl), trivial⟩ rfl hw trivial) rfl (fun _ _ => ?_)
    refine as_ rfl rfl (l_nil (x_then (e_seq (e_reg (mv rfl rfl (dt (d_lb4 (i := 2) rfl rfl rfl Tryz.isAgg49 Tryz.sizeOf49 rfl rfl rfl rfl) rfl ?_))))))
    refine tt (t_call (n := 5) (poly_signat _ _ _ _ hv hx hy hy0) rfl rfl rfl ⟨rfl, rfl, trivial⟩ Tryz.call28 (pre_same 1 rfl rfl rfl pre_nil) rfl hw) rfl (fun _ _ => ?_)
    refine mv rfl rfl (dt (d_ex rfl rfl rfl) rfl ?_)
    refine dt (d_ex rfl rfl rfl) rfl ?_
    refine as_ rfl rfl (as_ rfl rfl (l_nil (x_then (e_seq (e_seq (e_reg (mv rfl rfl (tt (t_bsg (i := 6) (ivs := [(0, _)]) (enc := encS) [(sx, xs)] rfl rfl rfl ⟨rfl, rfl, trivial⟩ Tryz.underlying68 Tryz.ti23 rfl rfl rfl rfl rfl rfl pS.cells rfl rfl hw) rfl (fun v_2 _ => ?_)))))))))
    refine l_imp (s_many_nil qZ 900) ?_
    refine l_imp (s_many_snoc (q := qZ) (z := (sx, xs)) 900 1 901 rfl rfl rfl rfl rfl) ?_
    refine l_imp (s_pub 6 rfl rfl pS) ?_
    refine l_imp (s_mkdeep 6 901 1004 rfl rfl rfl rfl) ?_
    refine tt (t_call (n := 6) (law_valid_z _ _ (fun z hz => by cases hz with | head => exact hv | tail _ h => cases h)) rfl rfl rfl ⟨rfl, trivial⟩ Tryz.call16 (pre_same 1004 rfl rfl rfl pre_nil) rfl hw) rfl (fun _ _ => ?_)
    refine dt (d_notb rfl rfl) rfl ?_
    refine mv rfl rfl (gdt (d_lb4 (i := 2) rfl rfl rfl Tryz.isAgg49 Tryz.sizeOf49 rfl rfl rfl rfl) rfl rfl rfl rfl ?_)
    refine gtt (t_call (n := 6) (r_validratio _ _ _ _) rfl rfl rfl ⟨rfl, trivial⟩ Tryz.call29 pre_nil rfl hw) rfl rfl rfl rfl (fun _ _ => ?_)
    refine gdt (det_is (r' := .bool false) (d_notb rfl rfl) (congrArg Value.bool (by rw [okR_wv hx hy hy0]; rfl))) rfl rfl rfl rfl ?_
    refine dt (d_pickf rfl rfl rfl) rfl ?_
    refine l_nil (x_then (e_condf rfl ?_))
    refine e_skip ?_
    refine x_then (e_jn [(5, _), (6, _), (7, _), (8, _), (9, _), (10, _)] [(0, _), (1, _), (999, _), (2, _), (3, _), (967, _), (4, _), (5, _), (6, _), (1004, _)] (fun (q : Value × List (Int × SL) × Value × Value × Nat) => [(11, q.1), (12, .pointer (some ⟨q.2.2.2.2, 0, none⟩))]) (fun (q : Value × List (Int × SL) × Value × Value × Nat) => [(80, pp q.1 q.2.1), (81, d9p q.2.2.1 x.natAbs), (82, d9p q.2.2.2.1 y.natAbs), (97, box q.2.2.2.2 57 #[.bool (decide (x < 0)), q.2.2.1, .bool (decide (y < 0)), q.2.2.2.1])]) (fun (q : Value × List (Int × SL) × Value × Value × Nat) => (ints q.2.1 = xs)) ⟨rfl, rfl, rfl, rfl, rfl, rfl, trivial⟩ ⟨rfl, rfl, rfl, rfl, rfl, rfl, rfl, rfl, rfl, rfl, trivial⟩ ?_ ?_)
    ·refine e_drega (fun _ => False) [6] (by kernel_rfl) ?_
     refine a_lin' (n := 5) [(0, 0), (2, 0)] (by kernel_rfl) ?_
     refine r0' rfl rfl rfl rfl (st0 (d_mv rfl rfl)) ?_
     refine r0' rfl rfl rfl rfl (st0 (d_lb4 (i := 2) rfl rfl rfl Tryz.isAgg49 Tryz.sizeOf49 rfl rfl rfl rfl)) ?_
     refine r_fin ?_
     refine a_br2 (n := 4) 1 4 (by kernel_rfl) ?_ ?_
     ·refine aact' rfl rfl (t_call (n := 80) (rp_from _ _ (hxs.mono (by omega)) (by omega)) rfl rfl rfl ⟨rfl, trivial⟩ Tryz.call17 (pre_same 1 rfl rfl rfl pre_nil) rfl hw) (fun g hg => ?_)
      refine a_br2 (n := 3) 3 4 (by kernel_rfl) ?_ ?_
      ·refine aact' rfl rfl (t_call (n := 81) (r_fromratio _ _ (by omega) (by omega)) rfl rfl rfl ⟨rfl, trivial⟩ Tryz.call30 pre_nil rfl hw) (fun g_2 _ => ?_)
       refine a_lin' (n := 0) [(4, 1), (5, 0), (6, 3)] (by kernel_rfl) ?_
       refine r1' rfl rfl (t_alloc (i := 97) rfl rfl rfl Tryz.zeroValue57 rfl rfl hw) (fun b_4 _ => ?_)
       refine r0' rfl rfl rfl rfl (st0 (d_as rfl rfl)) ?_
       refine r3' rfl rfl (t_stw (i := 97) rfl rfl rfl rfl rfl (by decide) rfl Tryz.sizeOf57 rfl rfl ⟨(one_rfl rfl), (one_rd (i := 81) rfl rd_slp), (one_rfl rfl), (one_rd (i := 82) rfl rd_slp), trivial⟩ rfl hw trivial) (fun _ _ => ?_)
       refine r_fin ?_
       refine a_done (by kernel_rfl) ?_
       exact x_jn (_, g.2, _, _, _) (hg) ⟨rfl, rfl, rfl, rfl, rfl, rfl, rfl, rfl, trivial⟩ ⟨rfl, rfl, rfl, rfl, rfl, rfl, rfl, rfl, rfl, rfl, rfl, rfl, rfl, rfl, trivial⟩
      ·refine aact' rfl rfl (t_alloc (i := 97) rfl rfl rfl Tryz.zeroValue57 rfl rfl hw) (fun b_5 _ => ?_)
       refine a_lin' (n := 0) [(3, 1), (5, 0), (6, 3)] (by kernel_rfl) ?_
       refine r1' rfl rfl (t_call (n := 81) (r_fromratio _ _ (by omega) (by omega)) rfl rfl rfl ⟨rfl, trivial⟩ Tryz.call30 pre_nil rfl hw) (fun g_3 _ => ?_)
       refine r0' rfl rfl rfl rfl (st0 (d_as rfl rfl)) ?_
       refine r3' rfl rfl (t_stw (i := 97) rfl rfl rfl rfl rfl (by decide) rfl Tryz.sizeOf57 rfl rfl ⟨(one_rfl rfl), (one_rd (i := 81) rfl rd_slp), (one_rfl rfl), (one_rd (i := 82) rfl rd_slp), trivial⟩ rfl hw trivial) (fun _ _ => ?_)
       refine r_fin ?_
       refine a_done (by kernel_rfl) ?_
       exact x_jn (_, g.2, _, _, _) (hg) ⟨rfl, rfl, rfl, rfl, rfl, rfl, rfl, rfl, trivial⟩ ⟨rfl, rfl, rfl, rfl, rfl, rfl, rfl, rfl, rfl, rfl, rfl, rfl, rfl, rfl, trivial⟩
     ·refine aact' rfl rfl (t_alloc (i := 97) rfl rfl rfl Tryz.zeroValue57 rfl rfl hw) (fun b_6 _ => ?_)
      refine a_lin' (n := 0) [(1, 1), (3, 1), (5, 0), (6, 3)] (by kernel_rfl) ?_
      refine r1' rfl rfl (t_call (n := 80) (rp_from _ _ (hxs.mono (by omega)) (by omega)) rfl rfl rfl ⟨rfl, trivial⟩ Tryz.call17 (pre_same 1 rfl rfl rfl pre_nil) rfl hw) (fun g_4 hg_2 => ?_)
      refine r1' rfl rfl (t_call (n := 81) (r_fromratio _ _ (by omega) (by omega)) rfl rfl rfl ⟨rfl, trivial⟩ Tryz.call30 pre_nil rfl hw) (fun g_5 _ => ?_)
      refine r0' rfl rfl rfl rfl (st0 (d_as rfl rfl)) ?_
      refine r3' rfl rfl (t_stw (i := 97) rfl rfl rfl rfl rfl (by decide) rfl Tryz.sizeOf57 rfl rfl ⟨(one_rfl rfl), (one_rd (i := 81) rfl rd_slp), (one_rfl rfl), (one_rd (i := 82) rfl rd_slp), trivial⟩ rfl hw trivial) (fun _ _ => ?_)
      refine r_fin ?_
      refine a_done (by kernel_rfl) ?_
      exact x_jn (_, g_4.2, _, _, _) (hg_2) ⟨rfl, rfl, rfl, rfl, rfl, rfl, rfl, rfl, trivial⟩ ⟨rfl, rfl, rfl, rfl, rfl, rfl, rfl, rfl, rfl, rfl, rfl, rfl, rfl, rfl, trivial⟩
    ·rintro ⟨vx, zs, v1, v2, b12⟩ hf
     dsimp only at hf
     simp only [List.cons_append, List.nil_append]
     refine e_seq (e_reg (mv rfl rfl (dt (d_lb4 (i := 97) rfl rfl rfl Tryz.isAgg57 Tryz.sizeOf57 rfl rfl rfl rfl) rfl ?_)))
     refine tt (t_call (n := 7) (rp_eval _ _ _ _ _ _ (by rw [hf]; exact hxs.mono (by omega)) (by rw [← length_ints, hf]; omega) (by omega) (by omega)) rfl rfl rfl ⟨rfl, rfl, trivial⟩ Tryz.call31 (pre_same 80 rfl rfl rfl (pre_same 81 rfl rfl rfl (pre_same 82 rfl rfl rfl pre_nil))) rfl hw) rfl (fun v_3 _ => ?_)
     refine tt (t_alloc (i := 8) rfl rfl rfl Tryz.zeroValue42 rfl rfl hw) rfl (fun b_7 _ => ?_)
     refine tt (t_stw (i := 8) rfl rfl rfl rfl rfl (by decide) rfl Tryz.sizeOf42 rfl rfl ⟨(one_rfl rfl), (one_rd (i := 7) rfl rd_slp), trivial⟩ rfl hw trivial) rfl (fun _ _ => ?_)
     refine l_nil (x_then (e_seq (e_reg (mv rfl rfl (dt (d_lb4 (i := 97) rfl rfl rfl Tryz.isAgg57 Tryz.sizeOf57 rfl rfl rfl rfl) rfl ?_)))))
     refine tt (t_call (n := 9) (rp_value _ _ _ _ _ _ (by rw [hf]; exact hxs.mono (by omega)) (by rw [← length_ints, hf]; omega) (by omega) (by omega) (by omega)) rfl rfl rfl ⟨rfl, rfl, trivial⟩ Tryz.call33 (pre_same 80 rfl rfl rfl (pre_same 81 rfl rfl rfl (pre_same 82 rfl rfl rfl pre_nil))) rfl hw) rfl (fun g_6 _ => ?_)
     refine tt (t_call (n := 10) (r_outratio _ _ _ _ (by rw [hf]; exact ev_q1 hE hv) (by rw [hf]; exact ev_q2 hE hv)) rfl rfl rfl ⟨rfl, trivial⟩ Tryz.call32 (pre_same 9 rfl rfl rfl (pre_same 10 rfl rfl rfl pre_nil)) rfl hw) rfl (fun _ _ => ?_)
     refine mv rfl rfl (dt (d_ex rfl rfl rfl) rfl ?_)
     refine dt (d_ex rfl rfl rfl) rfl ?_
     refine tt (t_alloc (i := 11) rfl rfl rfl Tryz.zeroValue49 rfl rfl hw) rfl (fun b_8 _ => ?_)
     refine tt (t_stw (i := 11) rfl rfl rfl rfl rfl (by decide) rfl Tryz.sizeOf49 rfl rfl ⟨(one_rfl rfl), (one_rfl rfl), (one_rfl rfl), (one_rfl rfl), trivial⟩ rfl hw trivial) rfl (fun _ _ => ?_)
     refine as_ rfl rfl (l_nil (x_then (e_seq (e_dreg (fun _ => False) [(0, 0), (1, 0), (2, 1), (3, 0), (4, 0), (5, 0), (6, 0), (7, 0), (8, 0), (9, 0), (10, 0), (11, 0), (12, 0), (13, 0), (14, 0), (15, 0), (16, 0), (17, 0), (18, 0), (19, 0), (20, 0), (21, 1), (22, 0), (23, 0), (24, 0), (25, 0), (26, 0), (27, 0), (28, 0), (29, 1), (30, 0), (31, 3)] (by kernel_rfl) ?_ ?_))))
     ·kernel_rfl
     refine r0' rfl rfl rfl rfl (st0 (d_lb2 (i := 4) rfl rfl rfl Tryz.isAgg25 Tryz.sizeOf25 rfl rfl)) ?_
     refine r0' rfl rfl rfl rfl (st0 (d_lb2 (i := 8) rfl rfl rfl Tryz.isAgg42 Tryz.sizeOf42 rfl rfl)) ?_
     refine r1' rfl rfl (t_call (n := 11) (r_to _ _ (by rw [hf]; have := ev_pb hE hv; omega)) rfl rfl rfl ⟨rfl, trivial⟩ Tryz.call23 (pre_same 7 rfl rfl rfl pre_nil) rfl hw) (fun _ _ => ?_)
     refine r0' rfl rfl rfl rfl (st0 (det_is (r' := .bool true) (d_eqg rfl rfl rfl eg25 (fun w => eql25 w _ _ _ _)) (congrArg Value.bool (by rw [hev, hf]; simp [eqW_refl])))) ?_
     refine r0' rfl rfl rfl rfl (st0 (d_mv rfl rfl)) ?_
     refine r0g (st0 (d_mv rfl rfl)) rfl rfl rfl rfl rfl rfl rfl ?_
     refine r0g (st0 (det_is (r' := .bool true) (d_eql rfl rfl rfl) (congrArg Value.bool (by rw [hee]; rfl)))) rfl rfl rfl rfl rfl rfl rfl ?_
     refine r0' rfl rfl rfl rfl (st0 (d_pickt rfl rfl rfl)) ?_
     refine r0' rfl rfl rfl rfl (st0 (d_mv rfl rfl)) ?_
     refine r0g (st0 (d_lb4 (i := 5) rfl rfl rfl Tryz.isAgg49 Tryz.sizeOf49 rfl rfl rfl rfl)) rfl rfl rfl rfl rfl rfl rfl ?_
     refine r0g (st0 (d_lb4 (i := 11) rfl rfl rfl Tryz.isAgg49 Tryz.sizeOf49 rfl rfl rfl rfl)) rfl rfl rfl rfl rfl rfl rfl ?_
     refine r0g (st0 (det_is (r' := .bool true) (d_eqg rfl rfl rfl eg49 (fun w => eql49 w _ _ _ _ _ _ _ _)) (congrArg Value.bool (by rw [hf, rnum_eq, rden_eq, eqW_refl, eqW_refl]; rfl)))) rfl rfl rfl rfl rfl rfl rfl ?_
     refine r0' rfl rfl rfl rfl (st0 (d_pickt rfl rfl rfl)) ?_
     refine r0' rfl rfl rfl rfl (st0 (d_mv rfl rfl)) ?_
     refine r0g (st0 (d_mv rfl rfl)) rfl rfl rfl rfl rfl rfl rfl ?_
     refine r0g (st0 (d_mv rfl rfl)) rfl rfl rfl rfl rfl rfl rfl ?_
     refine r0g (st0 (det_is (r' := .bool true) (d_eql rfl rfl rfl) (congrArg Value.bool (by simp [hf, rerr_eq])))) rfl rfl rfl rfl rfl rfl rfl ?_
     refine r0' rfl rfl rfl rfl (st0 (d_pickt rfl rfl rfl)) ?_
     refine r0' rfl rfl rfl rfl (st0 (d_mv rfl rfl)) ?_
     refine r0g (st0 (d_mv rfl rfl)) rfl rfl rfl rfl rfl rfl rfl ?_
     refine r0g (st0 (d_lb2 (i := 8) rfl rfl rfl Tryz.isAgg42 Tryz.sizeOf42 rfl rfl)) rfl rfl rfl rfl rfl rfl rfl ?_
     refine r1g' rfl rfl rfl rfl rfl (t_call (n := 11) (r_sign _ _ (by rw [hf]; have := ev_pb hE hv; omega)) rfl rfl rfl ⟨rfl, trivial⟩ Tryz.call34 (pre_same 7 rfl rfl rfl pre_nil) rfl hw) (fun _ _ => ?_)
     refine r0g (st0 (det_is (r' := .bool true) (d_eql rfl rfl rfl) (congrArg Value.bool (by simp [hev, hf])))) rfl rfl rfl rfl rfl rfl rfl ?_
     refine r0' rfl rfl rfl rfl (st0 (d_pickt rfl rfl rfl)) ?_
     refine r0' rfl rfl rfl rfl (st0 (d_mv rfl rfl)) ?_
     refine r0g (st0 (d_mv rfl rfl)) rfl rfl rfl rfl rfl rfl rfl ?_
     refine r0g (st0 (det_is (r' := .bool true) (d_eql rfl rfl rfl) (congrArg Value.bool (by rw [hee]; rfl)))) rfl rfl rfl rfl rfl rfl rfl ?_
     refine r0' rfl rfl rfl rfl (st0 (d_pickt rfl rfl rfl)) ?_
     refine r0' rfl rfl rfl rfl (st0 (d_mv rfl rfl)) ?_
     refine r1g' rfl rfl rfl rfl rfl (t_call (n := 11) (law_known) rfl rfl rfl trivial Tryz.call11 pre_nil rfl hw) (fun _ _ => ?_)
     refine r0' rfl rfl rfl rfl (st0 (d_pickt rfl rfl rfl)) ?_
     refine r3' rfl rfl (t_det (d_as rfl rfl) rfl rfl) (fun _ _ => ?_)
     refine r_end ?_
     refine x_then (e_ret ?_)
     exact x_end (.inl rfl) hsc () _ (fun a w hs => res1 hs Tryz.results4 rfl) rfl trivial rfl give_nil
set_option maxHeartbeats 4000000 in
theorem law_values_bad (v : Value) (r : RW) (b : Bool) (s : ByteArray) (c : Bool) (t : ByteArray) (hb : okP r = true → okR b s c t = true → False) : Cal Tryz.prog 4 #[v, .agg #[.bool b, .string s, .bool c, .string t]] [slp 2 encW v r] false (G := Unit) (fun _ => True) (fun _ => .bool true) (fun _ => []) := by
 refine cal_in Tryz.func4 rfl Tryz.ntmps4 rfl ⟨rfl, trivial⟩ ?_
 intro w0 sc hw hsc
 simp only [enumEnv, enumPre]
 refine e_imp (s_nil 999 2 25 wv) ?_
 refine e_imp (s_pub 999 rfl rfl pV) ?_
 refine e_seq (e_ex (f_slice 1 rfl rd_slp) (fun sx hssx => ?_))
 subst hssx
 refine e_reg (tt (t_box (i := 2) rfl rfl rfl rfl rfl rfl hw) rfl (fun b _ => ?_))
 refine as_ rfl rfl (l_nil (x_then (e_seq (e_seq (e_reg (mv rfl rfl (tt (t_bsg (i := 3) (ivs := [(0, _)]) (enc := encS) [(sx, r)] rfl rfl rfl ⟨rfl, rfl, trivial⟩ Tryz.underlying68 Tryz.ti23 rfl rfl rfl rfl rfl rfl pS.cells rfl rfl hw) rfl (fun v _ => ?_))))))))
 refine l_imp (s_many_nil qR 900) ?_
 refine l_imp (s_many_snoc (q := qR) (z := (sx, r)) 900 1 901 rfl rfl rfl rfl rfl) ?_
 refine l_imp (s_pub 3 rfl rfl pS) ?_
 refine l_imp (s_mkdeep 3 901 967 rfl rfl rfl rfl) ?_
 refine tt (t_call (n := 3) (law_short _ _) rfl rfl rfl ⟨rfl, trivial⟩ Tryz.call10 (pre_same 967 rfl rfl rfl pre_nil) rfl hw) rfl (fun _ _ => ?_)
 refine dt (d_notb rfl rfl) rfl ?_
 refine mv rfl rfl (l_splitb (d := 20) rfl (fun s157 => ?_) (fun s157 => ?_))
 ·refine gsk rfl rfl rfl rfl rfl (gsk rfl rfl rfl rfl rfl (gsk rfl rfl rfl rfl rfl (gsk rfl rfl rfl rfl rfl (gsk rfl rfl rfl rfl rfl (dt (d_pickt rfl rfl rfl) rfl ?_)))))
  refine mv rfl rfl (gsk rfl rfl rfl rfl rfl (gsk rfl rfl rfl rfl rfl (gsk rfl rfl rfl rfl rfl (gsk rfl rfl rfl rfl rfl (gsk rfl rfl rfl rfl rfl (dt (d_pickt rfl rfl rfl) rfl ?_))))))
  refine l_nil (x_then (e_condt rfl ?_))
  refine e_seq (e_reg (tt (t_call (n := 3) (law_known) rfl rfl rfl trivial Tryz.call11 pre_nil rfl hw) rfl (fun _ _ => ?_)))
  refine as_ rfl rfl (l_nil (x_then (e_ret (x_ret ?_))))
  exact x_end (.inl rfl) hsc () _ (fun a w hs => res1 hs Tryz.results4 rfl) rfl trivial rfl give_nil
 ·refine gdt (d_fa rfl rfl Tryz.underlying49 rfl Tryz.sizeOf25 rfl rfl) rfl rfl rfl rfl ?_
  refine gdt (d_fa rfl rfl Tryz.underlying25 rfl Tryz.sizeOf9 rfl rfl) rfl rfl rfl rfl ?_
  refine gdt (d_lb (i := 2) rfl rfl rfl Tryz.isAgg9 rfl) rfl rfl rfl rfl ?_
  refine gdt (d_lens rfl rfl Tryz.underlying9) rfl rfl rfl rfl ?_
  refine gdt (d_gtr rfl rfl rfl) rfl rfl rfl rfl ?_
  refine dt (d_pickf rfl rfl rfl) rfl ?_
  refine mv rfl rfl (l_split (d := 27) rfl (fun s157_2 => ?_) (fun s157_2 => ?_))
  ·refine gsk rfl rfl rfl rfl rfl (gsk rfl rfl rfl rfl rfl (gsk rfl rfl rfl rfl rfl (gsk rfl rfl rfl rfl rfl (gsk rfl rfl rfl rfl rfl (dt (d_pickt rfl rfl rfl) rfl ?_)))))
   refine l_nil (x_then (e_condt rfl ?_))
   refine e_seq (e_reg (tt (t_call (n := 3) (law_known) rfl rfl rfl trivial Tryz.call11 pre_nil rfl hw) rfl (fun _ _ => ?_)))
   refine as_ rfl rfl (l_nil (x_then (e_ret (x_ret ?_))))
   exact x_end (.inl rfl) hsc () _ (fun a w hs => res1 hs Tryz.results4 rfl) rfl trivial rfl give_nil
  ·refine gdt (d_fa rfl rfl Tryz.underlying49 rfl Tryz.sizeOf25 rfl rfl) rfl rfl rfl rfl ?_
   refine gdt (d_fa rfl rfl Tryz.underlying25 rfl Tryz.sizeOf9 rfl rfl) rfl rfl rfl rfl ?_
   refine gdt (d_lb (i := 2) rfl rfl rfl Tryz.isAgg9 rfl) rfl rfl rfl rfl ?_
   refine gdt (d_lens rfl rfl Tryz.underlying9) rfl rfl rfl rfl ?_
   refine gdt (d_gtr rfl rfl rfl) rfl rfl rfl rfl ?_
   refine dt (d_pickf rfl rfl rfl) rfl ?_
   refine l_nil (x_then (e_cond rfl (fun h157 => ?_) (fun h157 => ?_)))
   ·refine e_seq (e_reg (tt (t_call (n := 3) (law_known) rfl rfl rfl trivial Tryz.call11 pre_nil rfl hw) rfl (fun _ _ => ?_)))
    refine as_ rfl rfl (l_nil (x_then (e_ret (x_ret ?_))))
    exact x_end (.inl rfl) hsc () _ (fun a w hs => res1 hs Tryz.results4 rfl) rfl trivial rfl give_nil
   ·refine e_skip ?_
    refine x_then (e_seq (e_reg (mv rfl rfl (dt (d_lb4 (i := 2) rfl rfl rfl Tryz.isAgg49 Tryz.sizeOf49 rfl rfl rfl rfl) rfl ?_))))
    refine tt (t_call (n := 3) (poly_eval_bad _ _ _ _ _ _ hb) rfl rfl rfl ⟨rfl, rfl, trivial⟩ Tryz.call26 (pre_same 1 rfl rfl rfl pre_nil) rfl hw) rfl (fun _ _ => ?_)
    refine mv rfl rfl (dt (d_ex rfl rfl rfl) rfl ?_)
    refine dt (d_ex rfl rfl rfl) rfl ?_
    refine tt (t_alloc (i := 4) rfl rfl rfl Tryz.zeroValue25 rfl rfl hw) rfl (fun b_2 _ => ?_)
    refine tt (t_stw (i := 4) rfl rfl rfl rfl rfl (by decide) rfl Tryz.sizeOf25 rfl rfl ⟨(one_rfl rfl), (one_rfl rfl), trivial⟩ rfl hw trivial) rfl (fun _ _ => ?_)
    refine as_ rfl rfl (l_nil (x_then (e_seq (e_reg (mv rfl rfl (dt (d_lb4 (i := 2) rfl rfl rfl Tryz.isAgg49 Tryz.sizeOf49 rfl rfl rfl rfl) rfl ?_))))))
    refine tt (t_call (n := 4) (poly_value_bad _ _ _ _ _ _ hb) rfl rfl rfl ⟨rfl, rfl, trivial⟩ Tryz.call27 (pre_same 1 rfl rfl rfl pre_nil) rfl hw) rfl (fun _ _ => ?_)
    refine mv rfl rfl (dt (d_ex rfl rfl rfl) rfl ?_)
    refine dt (d_ex rfl rfl rfl) rfl ?_
    refine tt (t_alloc (i := 5) rfl rfl rfl Tryz.zeroValue49 rfl rfl hw) rfl (fun b_3 _ => ?_)
    refine tt (t_stw (i := 5) rfl rfl rfl rfl rfl (by decide) rfl Tryz.sizeOf49 rfl rfl ⟨(one_rfl rfl), (one_rfl rfl), (one_rfl rfl), (one_rfl rfl), trivial⟩ rfl hw trivial) rfl (fun _ _ => ?_)
    refine as_ rfl rfl (l_nil (x_then (e_seq (e_reg (mv rfl rfl (dt (d_lb4 (i := 2) rfl rfl rfl Tryz.isAgg49 Tryz.sizeOf49 rfl rfl rfl rfl) rfl ?_))))))
    refine tt (t_call (n := 5) (poly_signat_bad _ _ _ _ _ _ hb) rfl rfl rfl ⟨rfl, rfl, trivial⟩ Tryz.call28 (pre_same 1 rfl rfl rfl pre_nil) rfl hw) rfl (fun _ _ => ?_)
    refine mv rfl rfl (dt (d_ex rfl rfl rfl) rfl ?_)
    refine dt (d_ex rfl rfl rfl) rfl ?_
    refine as_ rfl rfl (as_ rfl rfl (l_nil (x_then (e_seq (e_seq (e_reg (mv rfl rfl (tt (t_bsg (i := 6) (ivs := [(0, _)]) (enc := encS) [(sx, r)] rfl rfl rfl ⟨rfl, rfl, trivial⟩ Tryz.underlying68 Tryz.ti23 rfl rfl rfl rfl rfl rfl pS.cells rfl rfl hw) rfl (fun v_2 _ => ?_)))))))))
    refine l_imp (s_many_nil qR 900) ?_
    refine l_imp (s_many_snoc (q := qR) (z := (sx, r)) 900 1 901 rfl rfl rfl rfl rfl) ?_
    refine l_imp (s_pub 6 rfl rfl pS) ?_
    refine l_imp (s_mkdeep 6 901 1004 rfl rfl rfl rfl) ?_
    refine tt (t_call (n := 6) (law_valid _ _) rfl rfl rfl ⟨rfl, trivial⟩ Tryz.call16 (pre_same 1004 rfl rfl rfl pre_nil) rfl hw) rfl (fun _ _ => ?_)
    refine dt (d_notb rfl rfl) rfl ?_
    refine mv rfl rfl (l_splitb (d := 57) rfl (fun s163 => ?_) (fun s163 => ?_))
    ·refine gsk rfl rfl rfl rfl rfl (gsk rfl rfl rfl rfl rfl (gsk rfl rfl rfl rfl rfl (dt (d_pickt rfl rfl rfl) rfl ?_)))
     refine l_nil (x_then (e_condt rfl ?_))
     refine e_seq (e_reg (dt (d_lb2 (i := 4) rfl rfl rfl Tryz.isAgg25 Tryz.sizeOf25 rfl rfl) rfl ?_))
     refine dt (d_bld (ivs := []) rfl trivial (fun a w hs => b25_)) rfl ?_
     refine dt (det_is (r' := .bool true) (d_eqg rfl rfl rfl eg25 (fun w => eql25 w _ _ _ _)) (congrArg Value.bool (by first | decide +kernel | simp [eqW_refl]))) rfl ?_
     refine mv rfl rfl (gdt (d_mv rfl rfl) rfl rfl rfl rfl ?_)
     refine gdt (det_is (r' := .bool true) (d_eql rfl rfl rfl) (congrArg Value.bool (by decide))) rfl rfl rfl rfl ?_
     refine dt (d_pickt rfl rfl rfl) rfl ?_
     refine mv rfl rfl (gdt (d_lb4 (i := 5) rfl rfl rfl Tryz.isAgg49 Tryz.sizeOf49 rfl rfl rfl rfl) rfl rfl rfl rfl ?_)
     refine gdt (d_bld (ivs := []) rfl trivial (fun a w hs => b49_)) rfl rfl rfl rfl ?_
     refine gdt (det_is (r' := .bool true) (d_eqg rfl rfl rfl eg49 (fun w => eql49 w _ _ _ _ _ _ _ _)) (congrArg Value.bool (by first | decide +kernel | simp [eqW_refl]))) rfl rfl rfl rfl ?_
     refine dt (d_pickt rfl rfl rfl) rfl ?_
     refine mv rfl rfl (gdt (d_mv rfl rfl) rfl rfl rfl rfl ?_)
     refine gdt (det_is (r' := .bool true) (d_eql rfl rfl rfl) (congrArg Value.bool (by decide))) rfl rfl rfl rfl ?_
     refine dt (d_pickt rfl rfl rfl) rfl ?_
     refine mv rfl rfl (gdt (d_mv rfl rfl) rfl rfl rfl rfl ?_)
     refine gdt (det_is (r' := .bool true) (d_eql rfl rfl rfl) (congrArg Value.bool (by decide))) rfl rfl rfl rfl ?_
     refine dt (d_pickt rfl rfl rfl) rfl ?_
     refine mv rfl rfl (gdt (d_mv rfl rfl) rfl rfl rfl rfl ?_)
     refine gdt (det_is (r' := .bool true) (d_eql rfl rfl rfl) (congrArg Value.bool (by decide))) rfl rfl rfl rfl ?_
     refine dt (d_pickt rfl rfl rfl) rfl ?_
     refine mv rfl rfl (gtt (t_call (n := 6) (law_known) rfl rfl rfl trivial Tryz.call11 pre_nil rfl hw) rfl rfl rfl rfl (fun _ _ => ?_))
     refine dt (d_pickt rfl rfl rfl) rfl ?_
     refine as_ rfl rfl (l_nil (x_then (e_ret (x_ret ?_))))
     exact x_end (.inl rfl) hsc () _ (fun a w hs => res1 hs Tryz.results4 rfl) rfl trivial rfl give_nil
    ·refine gdt (d_lb4 (i := 2) rfl rfl rfl Tryz.isAgg49 Tryz.sizeOf49 rfl rfl rfl rfl) rfl rfl rfl rfl ?_
     refine gtt (t_call (n := 6) (r_validratio _ _ _ _) rfl rfl rfl ⟨rfl, trivial⟩ Tryz.call29 pre_nil rfl hw) rfl rfl rfl rfl (fun _ _ => ?_)
     refine gdt (d_notb rfl rfl) rfl rfl rfl rfl ?_
     refine dt (d_pickf rfl rfl rfl) rfl ?_
     refine l_nil (x_then (e_condb rfl (fun h163 => ?_) (fun h163 => ?_)))
     ·refine e_seq (e_reg (dt (d_lb2 (i := 4) rfl rfl rfl Tryz.isAgg25 Tryz.sizeOf25 rfl rfl) rfl ?_))
      refine dt (d_bld (ivs := []) rfl trivial (fun a w hs => b25_)) rfl ?_
      refine dt (det_is (r' := .bool true) (d_eqg rfl rfl rfl eg25 (fun w => eql25 w _ _ _ _)) (congrArg Value.bool (by first | decide +kernel | simp [eqW_refl]))) rfl ?_
      refine mv rfl rfl (gdt (d_mv rfl rfl) rfl rfl rfl rfl ?_)
      refine gdt (det_is (r' := .bool true) (d_eql rfl rfl rfl) (congrArg Value.bool (by decide))) rfl rfl rfl rfl ?_
      refine dt (d_pickt rfl rfl rfl) rfl ?_
      refine mv rfl rfl (gdt (d_lb4 (i := 5) rfl rfl rfl Tryz.isAgg49 Tryz.sizeOf49 rfl rfl rfl rfl) rfl rfl rfl rfl ?_)
      refine gdt (d_bld (ivs := []) rfl trivial (fun a w hs => b49_)) rfl rfl rfl rfl ?_
      refine gdt (det_is (r' := .bool true) (d_eqg rfl rfl rfl eg49 (fun w => eql49 w _ _ _ _ _ _ _ _)) (congrArg Value.bool (by first | decide +kernel | simp [eqW_refl]))) rfl rfl rfl rfl ?_
      refine dt (d_pickt rfl rfl rfl) rfl ?_
      refine mv rfl rfl (gdt (d_mv rfl rfl) rfl rfl rfl rfl ?_)
      refine gdt (det_is (r' := .bool true) (d_eql rfl rfl rfl) (congrArg Value.bool (by decide))) rfl rfl rfl rfl ?_
      refine dt (d_pickt rfl rfl rfl) rfl ?_
      refine mv rfl rfl (gdt (d_mv rfl rfl) rfl rfl rfl rfl ?_)
      refine gdt (det_is (r' := .bool true) (d_eql rfl rfl rfl) (congrArg Value.bool (by decide))) rfl rfl rfl rfl ?_
      refine dt (d_pickt rfl rfl rfl) rfl ?_
      refine mv rfl rfl (gdt (d_mv rfl rfl) rfl rfl rfl rfl ?_)
      refine gdt (det_is (r' := .bool true) (d_eql rfl rfl rfl) (congrArg Value.bool (by decide))) rfl rfl rfl rfl ?_
      refine dt (d_pickt rfl rfl rfl) rfl ?_
      refine mv rfl rfl (gtt (t_call (n := 6) (law_known) rfl rfl rfl trivial Tryz.call11 pre_nil rfl hw) rfl rfl rfl rfl (fun _ _ => ?_))
      refine dt (d_pickt rfl rfl rfl) rfl ?_
      refine as_ rfl rfl (l_nil (x_then (e_ret (x_ret ?_))))
      exact x_end (.inl rfl) hsc () _ (fun a w hs => res1 hs Tryz.results4 rfl) rfl trivial rfl give_nil
     ·exfalso; exact hb (by simpa using s163) (by simpa using h163)
end Go.Sky
namespace Go.Sky
open Go.Proofs
theorem law_values (v : Value) (r : List (Bool × ByteArray)) (b : Bool) (s : ByteArray) (c : Bool) (t : ByteArray) : Cal Tryz.prog 4 #[v, .agg #[.bool b, .string s, .bool c, .string t]] [slp 2 encW v r] false (G := Unit) (fun _ => True) (fun _ => .bool true) (fun _ => []) := by
  by_cases h : okP r = true ∧ okR b s c t = true
  · obtain ⟨xs, hv, rfl⟩ := okP_ex h.1
    obtain ⟨x, y, hx, hy, hy0, rfl, rfl, rfl, rfl⟩ := okR_ex h.2
    exact Cal.imp (p := slp 2 wv v xs) (law_values_ok v xs x y hv hx hy hy0) (slp_wr' v xs) (fun _ h => h)
  · exact law_values_bad v r b s c t (fun a b => h ⟨a, b⟩)
end Go.Sky
