/- the law
   Proved without conditions of its own: each theorem bears its own. -/
import Derived.Test.YtjkhdpcmkcjjcaaGreatK
import Derived.Test.YtjkhdpcmkcjjcaaGreatD
import Derived.Test.YtjkhdpcmkcjjcaaGreatB
import Derived.Test.YtjkhdpcmkcjjcaaGreatC
import Derived.Test.YtjkhdpcmkcjjcaaGreatJ
set_option linter.all false
namespace Go.Sky
open Go.Proofs
set_option linter.unusedVariables false
theorem cp_nf {p : List Int} {x y z : Int} {n m : Nat} (hp : Sz n p) (hx : bl x.natAbs ≤ m) (hy : bl y.natAbs ≤ m) (hz : bl z.natAbs ≤ m) (hl : p.length ≤ 25) (hF : n + 24 * (m + 1) + 8 ≤ 65536) : msz p + (p.length - 1) * (msz [x, y, z] + 1) + 8 ≤ 65536 := by
  have h1 := msz_le hp
  have h2 : msz [x, y, z] ≤ m := by simp only [msz]; omega
  have h3 : (p.length - 1) * (msz [x, y, z] + 1) ≤ 24 * (m + 1) := Nat.mul_le_mul (by omega) (by omega)
  omega
theorem cp_not {p : List Int} {x y z : Int} (h : msz p + (p.length - 1) * (msz [x, y, z] + 1) + 8 ≤ 65536) : ¬ cpfull p x y z := fun h2 => by have := h2.2; omega
theorem sz_pcompo {p : List Int} {x y z : Int} (h : msz p + (p.length - 1) * (msz [x, y, z] + 1) + 8 ≤ 65536) : Sz 65536 (pcompo p x y z) := by
  unfold pcompo
  split
  · exact Sz.nil _
  · exact (cp_last h).tzl
theorem len_pcompo (p : List Int) (x y z : Int) : (pcompo p x y z).length ≤ p.length := by
  unfold pcompo
  split
  · exact Nat.zero_le _
  · refine Nat.le_trans (tzl_le _) ?_
    rw [length_chor]; omega
end Go.Sky
namespace Go.Sky
open Go.Proofs
set_option maxRecDepth 20000
set_option maxHeartbeats 4000000
set_option linter.unusedVariables false
set_option linter.unusedSimpArgs false
set_option maxHeartbeats 4000000 in
theorem law_sums_ok (v u : Value) (xs ys : List Int) (hv : Vp xs) (hu : Vp ys) (hF : ¬ mulfull xs ys) : Cal Tryz.prog 7 #[v, u] [slp 2 wv v xs, slp 2 wv u ys] false (G := Unit) (fun _ => True) (fun _ => .bool true) (fun _ => []) := by
 refine cal_in Tryz.func7 rfl Tryz.ntmps7 rfl ⟨rfl, rfl, trivial⟩ ?_
 intro w0 sc hw hsc
 simp only [enumEnv, enumPre]
 refine e_imp (s_nil 999 2 25 wv) ?_
 refine e_imp (s_pub 999 rfl rfl pV) ?_
 refine e_seq (e_ex (f_slice 1 rfl rd_slp) (fun sx hssx => ?_))
 subst hssx
 refine e_ex (f_slice 2 rfl rd_slp) (fun sx_2 hssx_2 => ?_)
 subst hssx_2
 refine e_reg (as_ rfl rfl (l_nil (x_then (e_seq (e_seq (e_reg (mv rfl rfl (mv rfl rfl (tt (t_bsg (i := 3) (ivs := [(0, _), (1, _)]) (enc := encS) [(sx, xs), (sx_2, ys)] rfl rfl rfl ⟨rfl, rfl, rfl, rfl, trivial⟩ Tryz.underlying68 Tryz.ti23 rfl rfl rfl rfl rfl rfl pS.cells rfl rfl hw) rfl (fun v _ => ?_))))))))))
 refine l_imp (s_many_nil qZ 900) ?_
 refine l_imp (s_many_snoc (q := qZ) (z := (sx, xs)) 900 1 901 rfl rfl rfl rfl rfl) ?_
 refine l_imp (s_many_snoc (q := qZ) (z := (sx_2, ys)) 901 2 902 rfl rfl rfl rfl rfl) ?_
 refine l_imp (s_pub 3 rfl rfl pS) ?_
 refine l_imp (s_mkdeep 3 902 965 rfl rfl rfl rfl) ?_
 refine tt (t_call (n := 3) (law_short_z _ _) rfl rfl rfl ⟨rfl, trivial⟩ Tryz.call10 (pre_same 965 rfl rfl rfl pre_nil) rfl hw) rfl (fun _ _ => ?_)
 refine dt (d_notb rfl rfl) rfl ?_
 refine l_nil (x_then (e_condb rfl (fun h112 => ?_) (fun h112 => ?_)))
 ·refine e_seq (e_reg (tt (t_call (n := 3) (law_known) rfl rfl rfl trivial Tryz.call11 pre_nil rfl hw) rfl (fun _ _ => ?_)))
  refine as_ rfl rfl (l_nil (x_then (e_ret (x_ret ?_))))
  exact x_end (.inl rfl) hsc () _ (fun a w hs => res1 hs Tryz.results7 rfl) rfl trivial rfl give_nil
 ·refine e_skip ?_
  refine x_then (e_seq ?_)
  have hsh : shortb [xs.map wr, ys.map wr] = true := by simpa using h112
  obtain ⟨hs1, hs2⟩ := short_two hsh
  obtain ⟨hxl, hxs⟩ := short1_z hs1
  obtain ⟨hyl, hys⟩ := short1_z hs2
  have hx14 : xs.length ≤ 14 := by have := hv.len; omega
  have hy14 : ys.length ≤ 14 := by have := hu.len; omega
  have hmx := msz_le hxs
  have hmy := msz_le hys
  refine e_reg (mv rfl rfl (mv rfl rfl (tt (t_call (n := 4) (poly_add _ _ _ _ hv hu (fun i => by have h1 := bl_iadd (cf xs i) (cf ys i); have h2 := hxs i; have h3 := hys i; omega)) rfl rfl rfl ⟨rfl, rfl, trivial⟩ Tryz.call43 (pre_same 1 rfl rfl rfl (pre_same 2 rfl rfl rfl pre_nil)) rfl hw) rfl (fun _ _ => ?_))))
  refine mv rfl rfl (dt (d_ex rfl rfl rfl) rfl ?_)
  refine dt (d_ex rfl rfl rfl) rfl ?_
  refine as_ rfl rfl (as_ rfl rfl (l_nil (x_then (e_seq (e_reg (mv rfl rfl (mv rfl rfl (tt (t_call (n := 5) (poly_sub _ _ _ _ hv hu (fun i => by have h1 := bl_isub (cf xs i) (cf ys i); have h2 := hxs i; have h3 := hys i; omega)) rfl rfl rfl ⟨rfl, rfl, trivial⟩ Tryz.call44 (pre_same 1 rfl rfl rfl (pre_same 2 rfl rfl rfl pre_nil)) rfl hw) rfl (fun _ _ => ?_)))))))))
  refine mv rfl rfl (dt (d_ex rfl rfl rfl) rfl ?_)
  refine dt (d_ex rfl rfl rfl) rfl ?_
  refine as_ rfl rfl (as_ rfl rfl (l_nil (x_then (e_seq (e_reg (mv rfl rfl (mv rfl rfl (tt (t_call (n := 6) (poly_mul _ _ _ _ hv hu hF) rfl rfl rfl ⟨rfl, rfl, trivial⟩ Tryz.call45 (pre_same 1 rfl rfl rfl (pre_same 2 rfl rfl rfl pre_nil)) rfl hw) rfl (fun _ _ => ?_)))))))))
  refine mv rfl rfl (dt (d_ex rfl rfl rfl) rfl ?_)
  refine dt (d_ex rfl rfl rfl) rfl ?_
  refine as_ rfl rfl (as_ rfl rfl (l_nil (x_then (e_seq (e_seq (e_reg (mv rfl rfl (mv rfl rfl (tt (t_bsg (i := 7) (ivs := [(0, _), (1, _)]) (enc := encS) [(sx, xs), (sx_2, ys)] rfl rfl rfl ⟨rfl, rfl, rfl, rfl, trivial⟩ Tryz.underlying68 Tryz.ti23 rfl rfl rfl rfl rfl rfl pS.cells rfl rfl hw) rfl (fun v_2 _ => ?_))))))))))
  refine l_imp (s_many_nil qZ 900) ?_
  refine l_imp (s_many_snoc (q := qZ) (z := (sx, xs)) 900 1 901 rfl rfl rfl rfl rfl) ?_
  refine l_imp (s_many_snoc (q := qZ) (z := (sx_2, ys)) 901 2 902 rfl rfl rfl rfl rfl) ?_
  refine l_imp (s_pub 7 rfl rfl pS) ?_
  refine l_imp (s_mkdeep 7 902 989 rfl rfl rfl rfl) ?_
  refine tt (t_call (n := 7) (law_valid_z _ _ (fun z hz => by cases hz with | head => exact hv | tail _ hz => cases hz with | head => exact hu | tail _ h => cases h)) rfl rfl rfl ⟨rfl, trivial⟩ Tryz.call16 (pre_same 989 rfl rfl rfl pre_nil) rfl hw) rfl (fun _ _ => ?_)
  refine dt (d_notb rfl rfl) rfl ?_
  refine l_nil (x_then (e_condf rfl ?_))
  refine e_skip ?_
  refine x_then (e_seq (e_reg (mv rfl rfl (tt (t_call (n := 8) (rp_from _ _ (hxs.mono (by omega)) (by omega)) rfl rfl rfl ⟨rfl, trivial⟩ Tryz.call17 (pre_same 1 rfl rfl rfl pre_nil) rfl hw) rfl (fun g hg => ?_)))))
  have hl_hf := congrArg List.length hg
  rw [length_ints] at hl_hf
  refine mv rfl rfl (tt (t_call (n := 9) (rp_from _ _ (hys.mono (by omega)) (by omega)) rfl rfl rfl ⟨rfl, trivial⟩ Tryz.call17 (pre_same 2 rfl rfl rfl pre_nil) rfl hw) rfl (fun g_2 hg_2 => ?_))
  have hl_hf2 := congrArg List.length hg_2
  rw [length_ints] at hl_hf2
  refine as_ rfl rfl (as_ rfl rfl (l_nil (x_then (e_seq (e_seq (e_reg (mv rfl rfl (dt (d_len rfl rfl (i := 8) rfl rd_deep Tryz.underlying35) rfl ?_))))))))
  refine dt (d_gtr rfl rfl rfl) rfl ?_
  refine mv rfl rfl (l_split (d := 77) rfl (fun s122 => ?_) (fun s122 => ?_))
  ·refine gdt (d_mv rfl rfl) rfl rfl rfl rfl ?_
   refine gdt (d_len rfl rfl (i := 9) rfl rd_deep Tryz.underlying35) rfl rfl rfl rfl ?_
   refine gdt (d_gtr rfl rfl rfl) rfl rfl rfl rfl ?_
   refine dt (d_pickt rfl rfl rfl) rfl ?_
   refine mv rfl rfl (l_split (d := 82) rfl (fun s122_2 => ?_) (fun s122_2 => ?_))
   ·refine gdt (d_mv rfl rfl) rfl rfl rfl rfl ?_
    refine gdt (d_len rfl rfl (i := 8) rfl rd_deep Tryz.underlying35) rfl rfl rfl rfl ?_
    refine gdt (d_mv rfl rfl) rfl rfl rfl rfl ?_
    refine gdt (d_len rfl rfl (i := 9) rfl rd_deep Tryz.underlying35) rfl rfl rfl rfl ?_
    refine gdt (d_add rfl rfl rfl ⟨by omega, by omega⟩) rfl rfl rfl rfl ?_
    refine gdt (d_sub rfl rfl rfl ⟨by omega, by omega⟩) rfl rfl rfl rfl ?_
    refine gdt (d_gtr rfl rfl rfl) rfl rfl rfl rfl ?_
    refine dt (d_pickt rfl rfl rfl) rfl ?_
    refine l_nil (x_then (e_cond rfl (fun h122 => ?_) (fun h122 => ?_)))
    ·exfalso; exact hF ⟨fun e => by have h7 := congrArg List.length e; simp only [List.length_nil] at h7; omega, fun e => by have h7 := congrArg List.length e; simp only [List.length_nil] at h7; omega, .inl (by omega)⟩
    ·refine e_seq (e_reg (mv rfl rfl (mv rfl rfl (mv rfl rfl (mv rfl rfl (tt (t_call (n := 10) (rp_mul _ _ _ _ (by rw [hg]; exact hxs.mono (by omega)) (by omega) (by rw [hg_2]; exact hys.mono (by omega)) (by omega)) rfl rfl rfl ⟨rfl, rfl, trivial⟩ Tryz.call46 (pre_same 8 rfl rfl rfl (pre_same 9 rfl rfl rfl pre_nil)) rfl hw) rfl (fun g_3 hg_3 => ?_)))))))
     refine tt (t_call (n := 10) (law_same _ _ _ _ _ rfl (by rw [hg_3, hg, hg_2]) (by rw [hg_3, hg, hg_2]; exact (sz_pmul hxs hys (by omega)).mono (by omega)) (by rw [← length_ints, hg_3, hg, hg_2]; exact Nat.le_trans (pmul_len _ _) (by omega))) rfl rfl rfl ⟨rfl, rfl, rfl, trivial⟩ Tryz.call19 (pre_same 6 rfl rfl rfl (pre_same 10 rfl rfl rfl pre_nil)) rfl hw) rfl (fun _ _ => ?_)
     refine dt (d_notb rfl rfl) rfl ?_
     refine l_nil (x_then (e_condf rfl ?_))
     refine e_skip ?_
     refine x_then (e_seq (e_reg (mv rfl rfl (mv rfl rfl (mv rfl rfl (mv rfl rfl (tt (t_call (n := 11) (rp_add _ _ _ _ (by rw [hg]; exact hxs.mono (by omega)) (by omega) (by rw [hg_2]; exact hys.mono (by omega)) (by omega)) rfl rfl rfl ⟨rfl, rfl, trivial⟩ Tryz.call47 (pre_same 8 rfl rfl rfl (pre_same 9 rfl rfl rfl pre_nil)) rfl hw) rfl (fun g_4 hg_4 => ?_))))))))
     refine tt (t_call (n := 11) (law_same _ _ _ _ _ rfl (by rw [hg_4, hg, hg_2]) (by rw [hg_4, hg, hg_2]; exact (sz_padd hxs hys).mono (by omega)) (by rw [← length_ints, hg_4, hg, hg_2]; exact Nat.le_trans (padd_len _ _) (by omega))) rfl rfl rfl ⟨rfl, rfl, rfl, trivial⟩ Tryz.call19 (pre_same 4 rfl rfl rfl (pre_same 11 rfl rfl rfl pre_nil)) rfl hw) rfl (fun _ _ => ?_)
     refine mv rfl rfl (gdt (d_mv rfl rfl) rfl rfl rfl rfl ?_)
     refine gdt (d_mv rfl rfl) rfl rfl rfl rfl ?_
     refine gdt (d_mv rfl rfl) rfl rfl rfl rfl ?_
     refine gdt (d_mv rfl rfl) rfl rfl rfl rfl ?_
     refine gtt (t_call (n := 12) (rp_sub _ _ _ _ (by rw [hg]; exact hxs.mono (by omega)) (by omega) (by rw [hg_2]; exact hys.mono (by omega)) (by omega)) rfl rfl rfl ⟨rfl, rfl, trivial⟩ Tryz.call48 (pre_same 8 rfl rfl rfl (pre_same 9 rfl rfl rfl pre_nil)) rfl hw) rfl rfl rfl rfl (fun g_5 hg_5 => ?_)
     refine gtt (t_call (n := 12) (law_same _ _ _ _ _ rfl (by rw [hg_5, hg, hg_2]) (by rw [hg_5, hg, hg_2]; exact (sz_psub hxs hys).mono (by omega)) (by rw [← length_ints, hg_5, hg, hg_2]; exact Nat.le_trans (psub_len _ _) (by omega))) rfl rfl rfl ⟨rfl, rfl, rfl, trivial⟩ Tryz.call19 (pre_same 5 rfl rfl rfl (pre_same 12 rfl rfl rfl pre_nil)) rfl hw) rfl rfl rfl rfl (fun _ _ => ?_)
     refine dt (d_pickt rfl rfl rfl) rfl ?_
     refine mv rfl rfl (gtt (t_call (n := 12) (law_known) rfl rfl rfl trivial Tryz.call11 pre_nil rfl hw) rfl rfl rfl rfl (fun _ _ => ?_))
     refine dt (d_pickt rfl rfl rfl) rfl ?_
     refine as_ rfl rfl (l_nil (x_then (e_ret ?_)))
     exact x_end (.inl rfl) hsc () _ (fun a w hs => res1 hs Tryz.results7 rfl) rfl trivial rfl give_nil
   ·refine gsk rfl rfl rfl rfl rfl (gsk rfl rfl rfl rfl rfl (gsk rfl rfl rfl rfl rfl (gsk rfl rfl rfl rfl rfl (gsk rfl rfl rfl rfl rfl (gsk rfl rfl rfl rfl rfl (gsk rfl rfl rfl rfl rfl (dt (d_pickf rfl rfl rfl) rfl ?_)))))))
    refine l_nil (x_then (e_condf rfl ?_))
    refine e_seq (e_reg (mv rfl rfl (mv rfl rfl (mv rfl rfl (mv rfl rfl (tt (t_call (n := 13) (rp_mul _ _ _ _ (by rw [hg]; exact hxs.mono (by omega)) (by omega) (by rw [hg_2]; exact hys.mono (by omega)) (by omega)) rfl rfl rfl ⟨rfl, rfl, trivial⟩ Tryz.call46 (pre_same 8 rfl rfl rfl (pre_same 9 rfl rfl rfl pre_nil)) rfl hw) rfl (fun g_6 hg_6 => ?_)))))))
    refine tt (t_call (n := 13) (law_same _ _ _ _ _ rfl (by rw [hg_6, hg, hg_2]) (by rw [hg_6, hg, hg_2]; exact (sz_pmul hxs hys (by omega)).mono (by omega)) (by rw [← length_ints, hg_6, hg, hg_2]; exact Nat.le_trans (pmul_len _ _) (by omega))) rfl rfl rfl ⟨rfl, rfl, rfl, trivial⟩ Tryz.call19 (pre_same 6 rfl rfl rfl (pre_same 13 rfl rfl rfl pre_nil)) rfl hw) rfl (fun _ _ => ?_)
    refine dt (d_notb rfl rfl) rfl ?_
    refine l_nil (x_then (e_condf rfl ?_))
    refine e_skip ?_
    refine x_then (e_seq (e_reg (mv rfl rfl (mv rfl rfl (mv rfl rfl (mv rfl rfl (tt (t_call (n := 14) (rp_add _ _ _ _ (by rw [hg]; exact hxs.mono (by omega)) (by omega) (by rw [hg_2]; exact hys.mono (by omega)) (by omega)) rfl rfl rfl ⟨rfl, rfl, trivial⟩ Tryz.call47 (pre_same 8 rfl rfl rfl (pre_same 9 rfl rfl rfl pre_nil)) rfl hw) rfl (fun g_7 hg_7 => ?_))))))))
    refine tt (t_call (n := 14) (law_same _ _ _ _ _ rfl (by rw [hg_7, hg, hg_2]) (by rw [hg_7, hg, hg_2]; exact (sz_padd hxs hys).mono (by omega)) (by rw [← length_ints, hg_7, hg, hg_2]; exact Nat.le_trans (padd_len _ _) (by omega))) rfl rfl rfl ⟨rfl, rfl, rfl, trivial⟩ Tryz.call19 (pre_same 4 rfl rfl rfl (pre_same 14 rfl rfl rfl pre_nil)) rfl hw) rfl (fun _ _ => ?_)
    refine mv rfl rfl (gdt (d_mv rfl rfl) rfl rfl rfl rfl ?_)
    refine gdt (d_mv rfl rfl) rfl rfl rfl rfl ?_
    refine gdt (d_mv rfl rfl) rfl rfl rfl rfl ?_
    refine gdt (d_mv rfl rfl) rfl rfl rfl rfl ?_
    refine gtt (t_call (n := 15) (rp_sub _ _ _ _ (by rw [hg]; exact hxs.mono (by omega)) (by omega) (by rw [hg_2]; exact hys.mono (by omega)) (by omega)) rfl rfl rfl ⟨rfl, rfl, trivial⟩ Tryz.call48 (pre_same 8 rfl rfl rfl (pre_same 9 rfl rfl rfl pre_nil)) rfl hw) rfl rfl rfl rfl (fun g_8 hg_8 => ?_)
    refine gtt (t_call (n := 15) (law_same _ _ _ _ _ rfl (by rw [hg_8, hg, hg_2]) (by rw [hg_8, hg, hg_2]; exact (sz_psub hxs hys).mono (by omega)) (by rw [← length_ints, hg_8, hg, hg_2]; exact Nat.le_trans (psub_len _ _) (by omega))) rfl rfl rfl ⟨rfl, rfl, rfl, trivial⟩ Tryz.call19 (pre_same 5 rfl rfl rfl (pre_same 15 rfl rfl rfl pre_nil)) rfl hw) rfl rfl rfl rfl (fun _ _ => ?_)
    refine dt (d_pickt rfl rfl rfl) rfl ?_
    refine mv rfl rfl (gtt (t_call (n := 15) (law_known) rfl rfl rfl trivial Tryz.call11 pre_nil rfl hw) rfl rfl rfl rfl (fun _ _ => ?_))
    refine dt (d_pickt rfl rfl rfl) rfl ?_
    refine as_ rfl rfl (l_nil (x_then (e_ret ?_)))
    exact x_end (.inl rfl) hsc () _ (fun a w hs => res1 hs Tryz.results7 rfl) rfl trivial rfl give_nil
  ·refine gsk rfl rfl rfl rfl rfl (gsk rfl rfl rfl rfl rfl (gsk rfl rfl rfl rfl rfl (dt (d_pickf rfl rfl rfl) rfl ?_)))
   refine mv rfl rfl (gsk rfl rfl rfl rfl rfl (gsk rfl rfl rfl rfl rfl (gsk rfl rfl rfl rfl rfl (gsk rfl rfl rfl rfl rfl (gsk rfl rfl rfl rfl rfl (gsk rfl rfl rfl rfl rfl (gsk rfl rfl rfl rfl rfl (dt (d_pickf rfl rfl rfl) rfl ?_))))))))
   refine l_nil (x_then (e_condf rfl ?_))
   refine e_seq (e_reg (mv rfl rfl (mv rfl rfl (mv rfl rfl (mv rfl rfl (tt (t_call (n := 16) (rp_mul _ _ _ _ (by rw [hg]; exact hxs.mono (by omega)) (by omega) (by rw [hg_2]; exact hys.mono (by omega)) (by omega)) rfl rfl rfl ⟨rfl, rfl, trivial⟩ Tryz.call46 (pre_same 8 rfl rfl rfl (pre_same 9 rfl rfl rfl pre_nil)) rfl hw) rfl (fun g_9 hg_9 => ?_)))))))
   refine tt (t_call (n := 16) (law_same _ _ _ _ _ rfl (by rw [hg_9, hg, hg_2]) (by rw [hg_9, hg, hg_2]; exact (sz_pmul hxs hys (by omega)).mono (by omega)) (by rw [← length_ints, hg_9, hg, hg_2]; exact Nat.le_trans (pmul_len _ _) (by omega))) rfl rfl rfl ⟨rfl, rfl, rfl, trivial⟩ Tryz.call19 (pre_same 6 rfl rfl rfl (pre_same 16 rfl rfl rfl pre_nil)) rfl hw) rfl (fun _ _ => ?_)
   refine dt (d_notb rfl rfl) rfl ?_
   refine l_nil (x_then (e_condf rfl ?_))
   refine e_skip ?_
   refine x_then (e_seq (e_reg (mv rfl rfl (mv rfl rfl (mv rfl rfl (mv rfl rfl (tt (t_call (n := 17) (rp_add _ _ _ _ (by rw [hg]; exact hxs.mono (by omega)) (by omega) (by rw [hg_2]; exact hys.mono (by omega)) (by omega)) rfl rfl rfl ⟨rfl, rfl, trivial⟩ Tryz.call47 (pre_same 8 rfl rfl rfl (pre_same 9 rfl rfl rfl pre_nil)) rfl hw) rfl (fun g_10 hg_10 => ?_))))))))
   refine tt (t_call (n := 17) (law_same _ _ _ _ _ rfl (by rw [hg_10, hg, hg_2]) (by rw [hg_10, hg, hg_2]; exact (sz_padd hxs hys).mono (by omega)) (by rw [← length_ints, hg_10, hg, hg_2]; exact Nat.le_trans (padd_len _ _) (by omega))) rfl rfl rfl ⟨rfl, rfl, rfl, trivial⟩ Tryz.call19 (pre_same 4 rfl rfl rfl (pre_same 17 rfl rfl rfl pre_nil)) rfl hw) rfl (fun _ _ => ?_)
   refine mv rfl rfl (gdt (d_mv rfl rfl) rfl rfl rfl rfl ?_)
   refine gdt (d_mv rfl rfl) rfl rfl rfl rfl ?_
   refine gdt (d_mv rfl rfl) rfl rfl rfl rfl ?_
   refine gdt (d_mv rfl rfl) rfl rfl rfl rfl ?_
   refine gtt (t_call (n := 18) (rp_sub _ _ _ _ (by rw [hg]; exact hxs.mono (by omega)) (by omega) (by rw [hg_2]; exact hys.mono (by omega)) (by omega)) rfl rfl rfl ⟨rfl, rfl, trivial⟩ Tryz.call48 (pre_same 8 rfl rfl rfl (pre_same 9 rfl rfl rfl pre_nil)) rfl hw) rfl rfl rfl rfl (fun g_11 hg_11 => ?_)
   refine gtt (t_call (n := 18) (law_same _ _ _ _ _ rfl (by rw [hg_11, hg, hg_2]) (by rw [hg_11, hg, hg_2]; exact (sz_psub hxs hys).mono (by omega)) (by rw [← length_ints, hg_11, hg, hg_2]; exact Nat.le_trans (psub_len _ _) (by omega))) rfl rfl rfl ⟨rfl, rfl, rfl, trivial⟩ Tryz.call19 (pre_same 5 rfl rfl rfl (pre_same 18 rfl rfl rfl pre_nil)) rfl hw) rfl rfl rfl rfl (fun _ _ => ?_)
   refine dt (d_pickt rfl rfl rfl) rfl ?_
   refine mv rfl rfl (gtt (t_call (n := 18) (law_known) rfl rfl rfl trivial Tryz.call11 pre_nil rfl hw) rfl rfl rfl rfl (fun _ _ => ?_))
   refine dt (d_pickt rfl rfl rfl) rfl ?_
   refine as_ rfl rfl (l_nil (x_then (e_ret ?_)))
   exact x_end (.inl rfl) hsc () _ (fun a w hs => res1 hs Tryz.results7 rfl) rfl trivial rfl give_nil
set_option maxHeartbeats 4000000 in
theorem law_sums_full (v u : Value) (xs ys : List Int) (hv : Vp xs) (hu : Vp ys) (hF : mulfull xs ys) : Cal Tryz.prog 7 #[v, u] [slp 2 wv v xs, slp 2 wv u ys] false (G := Unit) (fun _ => True) (fun _ => .bool true) (fun _ => []) := by
 refine cal_in Tryz.func7 rfl Tryz.ntmps7 rfl ⟨rfl, rfl, trivial⟩ ?_
 intro w0 sc hw hsc
 simp only [enumEnv, enumPre]
 refine e_imp (s_nil 999 2 25 wv) ?_
 refine e_imp (s_pub 999 rfl rfl pV) ?_
 refine e_seq (e_ex (f_slice 1 rfl rd_slp) (fun sx hssx => ?_))
 subst hssx
 refine e_ex (f_slice 2 rfl rd_slp) (fun sx_2 hssx_2 => ?_)
 subst hssx_2
 refine e_reg (as_ rfl rfl (l_nil (x_then (e_seq (e_seq (e_reg (mv rfl rfl (mv rfl rfl (tt (t_bsg (i := 3) (ivs := [(0, _), (1, _)]) (enc := encS) [(sx, xs), (sx_2, ys)] rfl rfl rfl ⟨rfl, rfl, rfl, rfl, trivial⟩ Tryz.underlying68 Tryz.ti23 rfl rfl rfl rfl rfl rfl pS.cells rfl rfl hw) rfl (fun v _ => ?_))))))))))
 refine l_imp (s_many_nil qZ 900) ?_
 refine l_imp (s_many_snoc (q := qZ) (z := (sx, xs)) 900 1 901 rfl rfl rfl rfl rfl) ?_
 refine l_imp (s_many_snoc (q := qZ) (z := (sx_2, ys)) 901 2 902 rfl rfl rfl rfl rfl) ?_
 refine l_imp (s_pub 3 rfl rfl pS) ?_
 refine l_imp (s_mkdeep 3 902 965 rfl rfl rfl rfl) ?_
 refine tt (t_call (n := 3) (law_short_z _ _) rfl rfl rfl ⟨rfl, trivial⟩ Tryz.call10 (pre_same 965 rfl rfl rfl pre_nil) rfl hw) rfl (fun _ _ => ?_)
 refine dt (d_notb rfl rfl) rfl ?_
 refine l_nil (x_then (e_condb rfl (fun h112 => ?_) (fun h112 => ?_)))
 ·refine e_seq (e_reg (tt (t_call (n := 3) (law_known) rfl rfl rfl trivial Tryz.call11 pre_nil rfl hw) rfl (fun _ _ => ?_)))
  refine as_ rfl rfl (l_nil (x_then (e_ret (x_ret ?_))))
  exact x_end (.inl rfl) hsc () _ (fun a w hs => res1 hs Tryz.results7 rfl) rfl trivial rfl give_nil
 ·refine e_skip ?_
  refine x_then (e_seq ?_)
  have hsh : shortb [xs.map wr, ys.map wr] = true := by simpa using h112
  obtain ⟨hs1, hs2⟩ := short_two hsh
  obtain ⟨hxl, hxs⟩ := short1_z hs1
  obtain ⟨hyl, hys⟩ := short1_z hs2
  have hx14 : xs.length ≤ 14 := by have := hv.len; omega
  have hy14 : ys.length ≤ 14 := by have := hu.len; omega
  have hmx := msz_le hxs
  have hmy := msz_le hys
  refine e_reg (mv rfl rfl (mv rfl rfl (tt (t_call (n := 4) (poly_add _ _ _ _ hv hu (fun i => by have h1 := bl_iadd (cf xs i) (cf ys i); have h2 := hxs i; have h3 := hys i; omega)) rfl rfl rfl ⟨rfl, rfl, trivial⟩ Tryz.call43 (pre_same 1 rfl rfl rfl (pre_same 2 rfl rfl rfl pre_nil)) rfl hw) rfl (fun _ _ => ?_))))
  refine mv rfl rfl (dt (d_ex rfl rfl rfl) rfl ?_)
  refine dt (d_ex rfl rfl rfl) rfl ?_
  refine as_ rfl rfl (as_ rfl rfl (l_nil (x_then (e_seq (e_reg (mv rfl rfl (mv rfl rfl (tt (t_call (n := 5) (poly_sub _ _ _ _ hv hu (fun i => by have h1 := bl_isub (cf xs i) (cf ys i); have h2 := hxs i; have h3 := hys i; omega)) rfl rfl rfl ⟨rfl, rfl, trivial⟩ Tryz.call44 (pre_same 1 rfl rfl rfl (pre_same 2 rfl rfl rfl pre_nil)) rfl hw) rfl (fun _ _ => ?_)))))))))
  refine mv rfl rfl (dt (d_ex rfl rfl rfl) rfl ?_)
  refine dt (d_ex rfl rfl rfl) rfl ?_
  refine as_ rfl rfl (as_ rfl rfl (l_nil (x_then (e_seq (e_reg (mv rfl rfl (mv rfl rfl (tt (t_call (n := 5) (poly_mul_full _ _ _ _ hv hu hF) rfl rfl rfl ⟨rfl, rfl, trivial⟩ Tryz.call45 (pre_same 1 rfl rfl rfl (pre_same 2 rfl rfl rfl pre_nil)) rfl hw) rfl (fun _ _ => ?_)))))))))
  refine mv rfl rfl (dt (d_ex rfl rfl rfl) rfl ?_)
  refine dt (d_ex rfl rfl rfl) rfl ?_
  refine as_ rfl rfl (as_ rfl rfl (l_nil (x_then (e_seq (e_seq (e_reg (mv rfl rfl (mv rfl rfl (tt (t_bsg (i := 6) (ivs := [(0, _), (1, _)]) (enc := encS) [(sx, xs), (sx_2, ys)] rfl rfl rfl ⟨rfl, rfl, rfl, rfl, trivial⟩ Tryz.underlying68 Tryz.ti23 rfl rfl rfl rfl rfl rfl pS.cells rfl rfl hw) rfl (fun v_2 _ => ?_))))))))))
  refine l_imp (s_many_nil qZ 900) ?_
  refine l_imp (s_many_snoc (q := qZ) (z := (sx, xs)) 900 1 901 rfl rfl rfl rfl rfl) ?_
  refine l_imp (s_many_snoc (q := qZ) (z := (sx_2, ys)) 901 2 902 rfl rfl rfl rfl rfl) ?_
  refine l_imp (s_pub 6 rfl rfl pS) ?_
  refine l_imp (s_mkdeep 6 902 989 rfl rfl rfl rfl) ?_
  refine tt (t_call (n := 6) (law_valid_z _ _ (fun z hz => by cases hz with | head => exact hv | tail _ hz => cases hz with | head => exact hu | tail _ h => cases h)) rfl rfl rfl ⟨rfl, trivial⟩ Tryz.call16 (pre_same 989 rfl rfl rfl pre_nil) rfl hw) rfl (fun _ _ => ?_)
  refine dt (d_notb rfl rfl) rfl ?_
  refine l_nil (x_then (e_condf rfl ?_))
  refine e_skip ?_
  refine x_then (e_seq (e_reg (mv rfl rfl (tt (t_call (n := 7) (rp_from _ _ (hxs.mono (by omega)) (by omega)) rfl rfl rfl ⟨rfl, trivial⟩ Tryz.call17 (pre_same 1 rfl rfl rfl pre_nil) rfl hw) rfl (fun g hg => ?_)))))
  have hl_hf := congrArg List.length hg
  rw [length_ints] at hl_hf
  refine mv rfl rfl (tt (t_call (n := 8) (rp_from _ _ (hys.mono (by omega)) (by omega)) rfl rfl rfl ⟨rfl, trivial⟩ Tryz.call17 (pre_same 2 rfl rfl rfl pre_nil) rfl hw) rfl (fun g_2 hg_2 => ?_))
  have hl_hf2 := congrArg List.length hg_2
  rw [length_ints] at hl_hf2
  refine as_ rfl rfl (as_ rfl rfl (l_nil (x_then (e_seq (e_seq ?_)))))
  obtain ⟨hF1, hF2, hF3⟩ := hF
  have hF4 : 0 < xs.length := List.length_pos_iff.2 hF1
  have hF5 : 0 < ys.length := List.length_pos_iff.2 hF2
  refine e_reg (mv rfl rfl (dt (d_len rfl rfl (i := 7) rfl rd_deep Tryz.underlying35) rfl ?_))
  refine dt (det_is (r' := .bool true) (d_gtr rfl rfl rfl) (congrArg Value.bool (decide_eq_true (by omega)))) rfl ?_
  refine mv rfl rfl (gdt (d_mv rfl rfl) rfl rfl rfl rfl ?_)
  refine gdt (d_len rfl rfl (i := 8) rfl rd_deep Tryz.underlying35) rfl rfl rfl rfl ?_
  refine gdt (det_is (r' := .bool true) (d_gtr rfl rfl rfl) (congrArg Value.bool (decide_eq_true (by omega)))) rfl rfl rfl rfl ?_
  refine dt (d_pickt rfl rfl rfl) rfl ?_
  refine mv rfl rfl (gdt (d_mv rfl rfl) rfl rfl rfl rfl ?_)
  refine gdt (d_len rfl rfl (i := 7) rfl rd_deep Tryz.underlying35) rfl rfl rfl rfl ?_
  refine gdt (d_mv rfl rfl) rfl rfl rfl rfl ?_
  refine gdt (d_len rfl rfl (i := 8) rfl rd_deep Tryz.underlying35) rfl rfl rfl rfl ?_
  refine gdt (d_add rfl rfl rfl ⟨by omega, by omega⟩) rfl rfl rfl rfl ?_
  refine gdt (d_sub rfl rfl rfl ⟨by omega, by omega⟩) rfl rfl rfl rfl ?_
  refine gdt (det_is (r' := .bool true) (d_gtr rfl rfl rfl) (congrArg Value.bool (decide_eq_true (by omega)))) rfl rfl rfl rfl ?_
  refine dt (d_pickt rfl rfl rfl) rfl ?_
  refine l_nil (x_then (e_condt rfl ?_))
  refine e_seq (e_reg (mv rfl rfl (dt (d_len rfl rfl (i := 999) rfl rd_slp Tryz.underlying23) rfl ?_)))
  refine dt (det_is (r' := .bool false) (d_neq rfl rfl rfl) (congrArg Value.bool (by decide))) rfl ?_
  refine mv rfl rfl (gdt (d_mv rfl rfl) rfl rfl rfl rfl ?_)
  refine gdt (det_is (r' := .bool false) (d_neq rfl rfl rfl) (congrArg Value.bool (by decide))) rfl rfl rfl rfl ?_
  refine dt (d_pickf rfl rfl rfl) rfl ?_
  refine l_nil (x_then (e_condf rfl ?_))
  refine e_skip ?_
  refine x_then (e_seq (e_reg (mv rfl rfl (mv rfl rfl (mv rfl rfl (mv rfl rfl (tt (t_call (n := 9) (rp_add _ _ _ _ (by rw [hg]; exact hxs.mono (by omega)) (by omega) (by rw [hg_2]; exact hys.mono (by omega)) (by omega)) rfl rfl rfl ⟨rfl, rfl, trivial⟩ Tryz.call47 (pre_same 7 rfl rfl rfl (pre_same 8 rfl rfl rfl pre_nil)) rfl hw) rfl (fun g_3 hg_3 => ?_))))))))
  refine tt (t_call (n := 9) (law_same _ _ _ _ _ rfl (by rw [hg_3, hg, hg_2]) (by rw [hg_3, hg, hg_2]; exact (sz_padd hxs hys).mono (by omega)) (by rw [← length_ints, hg_3, hg, hg_2]; exact Nat.le_trans (padd_len _ _) (by omega))) rfl rfl rfl ⟨rfl, rfl, rfl, trivial⟩ Tryz.call19 (pre_same 4 rfl rfl rfl (pre_same 9 rfl rfl rfl pre_nil)) rfl hw) rfl (fun _ _ => ?_)
  refine mv rfl rfl (gdt (d_mv rfl rfl) rfl rfl rfl rfl ?_)
  refine gdt (d_mv rfl rfl) rfl rfl rfl rfl ?_
  refine gdt (d_mv rfl rfl) rfl rfl rfl rfl ?_
  refine gdt (d_mv rfl rfl) rfl rfl rfl rfl ?_
  refine gtt (t_call (n := 10) (rp_sub _ _ _ _ (by rw [hg]; exact hxs.mono (by omega)) (by omega) (by rw [hg_2]; exact hys.mono (by omega)) (by omega)) rfl rfl rfl ⟨rfl, rfl, trivial⟩ Tryz.call48 (pre_same 7 rfl rfl rfl (pre_same 8 rfl rfl rfl pre_nil)) rfl hw) rfl rfl rfl rfl (fun g_4 hg_4 => ?_)
  refine gtt (t_call (n := 10) (law_same _ _ _ _ _ rfl (by rw [hg_4, hg, hg_2]) (by rw [hg_4, hg, hg_2]; exact (sz_psub hxs hys).mono (by omega)) (by rw [← length_ints, hg_4, hg, hg_2]; exact Nat.le_trans (psub_len _ _) (by omega))) rfl rfl rfl ⟨rfl, rfl, rfl, trivial⟩ Tryz.call19 (pre_same 5 rfl rfl rfl (pre_same 10 rfl rfl rfl pre_nil)) rfl hw) rfl rfl rfl rfl (fun _ _ => ?_)
  refine dt (d_pickt rfl rfl rfl) rfl ?_
  refine mv rfl rfl (gtt (t_call (n := 10) (law_known) rfl rfl rfl trivial Tryz.call11 pre_nil rfl hw) rfl rfl rfl rfl (fun _ _ => ?_))
  refine dt (d_pickt rfl rfl rfl) rfl ?_
  refine as_ rfl rfl (l_nil (x_then (e_ret ?_)))
  exact x_end (.inl rfl) hsc () _ (fun a w hs => res1 hs Tryz.results7 rfl) rfl trivial rfl give_nil
set_option maxHeartbeats 4000000 in
theorem law_sums_bad (v u : Value) (r t : RW) (hb : okP r = true → okP t = true → False) : Cal Tryz.prog 7 #[v, u] [slp 2 encW v r, slp 2 encW u t] false (G := Unit) (fun _ => True) (fun _ => .bool true) (fun _ => []) := by
 refine cal_in Tryz.func7 rfl Tryz.ntmps7 rfl ⟨rfl, rfl, trivial⟩ ?_
 intro w0 sc hw hsc
 simp only [enumEnv, enumPre]
 refine e_imp (s_nil 999 2 25 wv) ?_
 refine e_imp (s_pub 999 rfl rfl pV) ?_
 refine e_seq (e_ex (f_slice 1 rfl rd_slp) (fun sx hssx => ?_))
 subst hssx
 refine e_ex (f_slice 2 rfl rd_slp) (fun sx_2 hssx_2 => ?_)
 subst hssx_2
 refine e_reg (as_ rfl rfl (l_nil (x_then (e_seq (e_seq (e_reg (mv rfl rfl (mv rfl rfl (tt (t_bsg (i := 3) (ivs := [(0, _), (1, _)]) (enc := encS) [(sx, r), (sx_2, t)] rfl rfl rfl ⟨rfl, rfl, rfl, rfl, trivial⟩ Tryz.underlying68 Tryz.ti23 rfl rfl rfl rfl rfl rfl pS.cells rfl rfl hw) rfl (fun v _ => ?_))))))))))
 refine l_imp (s_many_nil qR 900) ?_
 refine l_imp (s_many_snoc (q := qR) (z := (sx, r)) 900 1 901 rfl rfl rfl rfl rfl) ?_
 refine l_imp (s_many_snoc (q := qR) (z := (sx_2, t)) 901 2 902 rfl rfl rfl rfl rfl) ?_
 refine l_imp (s_pub 3 rfl rfl pS) ?_
 refine l_imp (s_mkdeep 3 902 965 rfl rfl rfl rfl) ?_
 refine tt (t_call (n := 3) (law_short _ _) rfl rfl rfl ⟨rfl, trivial⟩ Tryz.call10 (pre_same 965 rfl rfl rfl pre_nil) rfl hw) rfl (fun _ _ => ?_)
 refine dt (d_notb rfl rfl) rfl ?_
 refine l_nil (x_then (e_condb rfl (fun h112 => ?_) (fun h112 => ?_)))
 ·refine e_seq (e_reg (tt (t_call (n := 3) (law_known) rfl rfl rfl trivial Tryz.call11 pre_nil rfl hw) rfl (fun _ _ => ?_)))
  refine as_ rfl rfl (l_nil (x_then (e_ret (x_ret ?_))))
  exact x_end (.inl rfl) hsc () _ (fun a w hs => res1 hs Tryz.results7 rfl) rfl trivial rfl give_nil
 ·refine e_skip ?_
  refine x_then (e_seq (e_reg (mv rfl rfl (mv rfl rfl (tt (t_call (n := 3) (poly_add_bad _ _ _ _ hb) rfl rfl rfl ⟨rfl, rfl, trivial⟩ Tryz.call43 (pre_same 1 rfl rfl rfl (pre_same 2 rfl rfl rfl pre_nil)) rfl hw) rfl (fun _ _ => ?_))))))
  refine mv rfl rfl (dt (d_ex rfl rfl rfl) rfl ?_)
  refine dt (d_ex rfl rfl rfl) rfl ?_
  refine as_ rfl rfl (as_ rfl rfl (l_nil (x_then (e_seq (e_reg (mv rfl rfl (mv rfl rfl (tt (t_call (n := 3) (poly_sub_bad _ _ _ _ hb) rfl rfl rfl ⟨rfl, rfl, trivial⟩ Tryz.call44 (pre_same 1 rfl rfl rfl (pre_same 2 rfl rfl rfl pre_nil)) rfl hw) rfl (fun _ _ => ?_)))))))))
  refine mv rfl rfl (dt (d_ex rfl rfl rfl) rfl ?_)
  refine dt (d_ex rfl rfl rfl) rfl ?_
  refine as_ rfl rfl (as_ rfl rfl (l_nil (x_then (e_seq (e_reg (mv rfl rfl (mv rfl rfl (tt (t_call (n := 3) (poly_mul_bad _ _ _ _ hb) rfl rfl rfl ⟨rfl, rfl, trivial⟩ Tryz.call45 (pre_same 1 rfl rfl rfl (pre_same 2 rfl rfl rfl pre_nil)) rfl hw) rfl (fun _ _ => ?_)))))))))
  refine mv rfl rfl (dt (d_ex rfl rfl rfl) rfl ?_)
  refine dt (d_ex rfl rfl rfl) rfl ?_
  refine as_ rfl rfl (as_ rfl rfl (l_nil (x_then (e_seq (e_seq (e_reg (mv rfl rfl (mv rfl rfl (tt (t_bsg (i := 4) (ivs := [(0, _), (1, _)]) (enc := encS) [(sx, r), (sx_2, t)] rfl rfl rfl ⟨rfl, rfl, rfl, rfl, trivial⟩ Tryz.underlying68 Tryz.ti23 rfl rfl rfl rfl rfl rfl pS.cells rfl rfl hw) rfl (fun v_2 _ => ?_))))))))))
  refine l_imp (s_many_nil qR 900) ?_
  refine l_imp (s_many_snoc (q := qR) (z := (sx, r)) 900 1 901 rfl rfl rfl rfl rfl) ?_
  refine l_imp (s_many_snoc (q := qR) (z := (sx_2, t)) 901 2 902 rfl rfl rfl rfl rfl) ?_
  refine l_imp (s_pub 4 rfl rfl pS) ?_
  refine l_imp (s_mkdeep 4 902 989 rfl rfl rfl rfl) ?_
  refine tt (t_call (n := 4) (law_valid _ _) rfl rfl rfl ⟨rfl, trivial⟩ Tryz.call16 (pre_same 989 rfl rfl rfl pre_nil) rfl hw) rfl (fun _ _ => ?_)
  refine dt (det_is (r' := .bool true) (d_notb rfl rfl) (congrArg Value.bool (by cases h1 : okP r <;> cases h2 : okP t <;> simp_all))) rfl ?_
  refine l_nil (x_then (e_condt rfl ?_))
  refine e_seq (e_reg (mv rfl rfl (dt (d_len rfl rfl (i := 999) rfl rd_slp Tryz.underlying23) rfl ?_)))
  refine dt (det_is (r' := .bool true) (d_eql rfl rfl rfl) (congrArg Value.bool (by decide))) rfl ?_
  refine mv rfl rfl (gdt (d_mv rfl rfl) rfl rfl rfl rfl ?_)
  refine gdt (det_is (r' := .bool true) (d_eql rfl rfl rfl) (congrArg Value.bool (by decide))) rfl rfl rfl rfl ?_
  refine dt (d_pickt rfl rfl rfl) rfl ?_
  refine mv rfl rfl (gdt (d_mv rfl rfl) rfl rfl rfl rfl ?_)
  refine gdt (d_len rfl rfl (i := 999) rfl rd_slp Tryz.underlying23) rfl rfl rfl rfl ?_
  refine gdt (det_is (r' := .bool true) (d_eql rfl rfl rfl) (congrArg Value.bool (by decide))) rfl rfl rfl rfl ?_
  refine dt (d_pickt rfl rfl rfl) rfl ?_
  refine mv rfl rfl (gdt (d_mv rfl rfl) rfl rfl rfl rfl ?_)
  refine gdt (det_is (r' := .bool true) (d_eql rfl rfl rfl) (congrArg Value.bool (by decide))) rfl rfl rfl rfl ?_
  refine dt (d_pickt rfl rfl rfl) rfl ?_
  refine mv rfl rfl (gdt (d_mv rfl rfl) rfl rfl rfl rfl ?_)
  refine gdt (d_len rfl rfl (i := 999) rfl rd_slp Tryz.underlying23) rfl rfl rfl rfl ?_
  refine gdt (det_is (r' := .bool true) (d_eql rfl rfl rfl) (congrArg Value.bool (by decide))) rfl rfl rfl rfl ?_
  refine dt (d_pickt rfl rfl rfl) rfl ?_
  refine mv rfl rfl (gdt (d_mv rfl rfl) rfl rfl rfl rfl ?_)
  refine gdt (det_is (r' := .bool true) (d_eql rfl rfl rfl) (congrArg Value.bool (by decide))) rfl rfl rfl rfl ?_
  refine dt (d_pickt rfl rfl rfl) rfl ?_
  refine mv rfl rfl (gtt (t_call (n := 4) (law_known) rfl rfl rfl trivial Tryz.call11 pre_nil rfl hw) rfl rfl rfl rfl (fun _ _ => ?_))
  refine dt (d_pickt rfl rfl rfl) rfl ?_
  refine as_ rfl rfl (l_nil (x_then (e_ret (x_ret ?_))))
  exact x_end (.inl rfl) hsc () _ (fun a w hs => res1 hs Tryz.results7 rfl) rfl trivial rfl give_nil
end Go.Sky
namespace Go.Sky
open Go.Proofs
theorem law_sums (v : Value) (r : List (Bool × ByteArray)) (u : Value) (t : List (Bool × ByteArray)) : Cal Tryz.prog 7 #[v, u] [slp 2 encW v r, slp 2 encW u t] false (G := Unit) (fun _ => True) (fun _ => .bool true) (fun _ => []) := by
  by_cases h : okP r = true ∧ okP t = true
  · obtain ⟨xs, hv, rfl⟩ := okP_ex h.1
    obtain ⟨ys, hu, rfl⟩ := okP_ex h.2
    refine Cal.imp (p := slp 2 wv v xs) ?_ (slp_wr' v xs) (fun _ h => h)
    refine Cal.imp2 (p := slp 2 wv u ys) ?_ (slp_wr' u ys) (fun _ h => h)
    by_cases hF : mulfull xs ys
    · exact law_sums_full v u xs ys hv hu hF
    · exact law_sums_ok v u xs ys hv hu hF
  · exact law_sums_bad v u r t (fun a b => h ⟨a, b⟩)
end Go.Sky
