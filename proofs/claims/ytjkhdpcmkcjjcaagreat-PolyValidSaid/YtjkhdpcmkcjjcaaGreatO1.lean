/- the law
   Proved without conditions of its own: each theorem bears its own. -/
import Derived.Test.YtjkhdpcmkcjjcaaGreatK
import Derived.Test.YtjkhdpcmkcjjcaaGreatD
import Derived.Test.YtjkhdpcmkcjjcaaGreatB
import Derived.Test.YtjkhdpcmkcjjcaaGreatC
import Derived.Test.YtjkhdpcmkcjjcaaGreatJ
set_option linter.all false
namespace Go.Sky
open Go.Proofs
set_option linter.unusedVariables false
theorem cp_nf {p : List Int} {x y z : Int} {n m : Nat} (hp : Sz n p) (hx : bl x.natAbs ≤ m) (hy : bl y.natAbs ≤ m) (hz : bl z.natAbs ≤ m) (hl : p.length ≤ 25) (hF : n + 24 * (m + 1) + 8 ≤ 65536) : msz p + (p.length - 1) * (msz [x, y, z] + 1) + 8 ≤ 65536 := by
  have h1 := msz_le hp
  have h2 : msz [x, y, z] ≤ m := by simp only [msz]; omega
  have h3 : (p.length - 1) * (msz [x, y, z] + 1) ≤ 24 * (m + 1) := Nat.mul_le_mul (by omega) (by omega)
  omega
theorem cp_not {p : List Int} {x y z : Int} (h : msz p + (p.length - 1) * (msz [x, y, z] + 1) + 8 ≤ 65536) : ¬ cpfull p x y z := fun h2 => by have := h2.2; omega
theorem sz_pcompo {p : List Int} {x y z : Int} (h : msz p + (p.length - 1) * (msz [x, y, z] + 1) + 8 ≤ 65536) : Sz 65536 (pcompo p x y z) := by
  unfold pcompo
  split
  · exact Sz.nil _
  · exact (cp_last h).tzl
theorem len_pcompo (p : List Int) (x y z : Int) : (pcompo p x y z).length ≤ p.length := by
  unfold pcompo
  split
  · exact Nat.zero_le _
  · refine Nat.le_trans (tzl_le _) ?_
    rw [length_chor]; omega
end Go.Sky
namespace Go.Sky
open Go.Proofs
set_option maxRecDepth 20000
set_option maxHeartbeats 4000000
set_option linter.unusedVariables false
set_option linter.unusedSimpArgs false
set_option maxHeartbeats 4000000 in
theorem law_valid1_ok (v u u2 : Value) (xs : List Int) (t : RW) (l : List Int) (hv : Vp xs) (hl : ∀ x ∈ l, inI x) : Cal Tryz.prog 9 #[v, u, u2] [slp 2 wv v xs, slp 2 encW u t, slp 1 encZ u2 l] false (G := Unit) (fun _ => True) (fun _ => .bool true) (fun _ => []) := by
 refine cal_in Tryz.func9 rfl Tryz.ntmps9 rfl ⟨rfl, rfl, rfl, trivial⟩ ?_
 intro w0 sc hw hsc
 simp only [enumEnv, enumPre]
 refine e_imp (s_nil 999 2 25 wv) ?_
 refine e_imp (s_pub 999 rfl rfl pV) ?_
 refine e_seq (e_ex (f_slice 1 rfl rd_slp) (fun sx hssx => ?_))
 subst hssx
 refine e_ex (f_slice 2 rfl rd_slp) (fun sx_2 hssx_2 => ?_)
 subst hssx_2
 refine e_imp (s_sub (q := slp 2 encW (svv sx) (xs.map wr)) 1 700 rfl rfl rfl (fun w h => slp_wr _ _ w h) (fun _ h => h) rfl) ?_
 refine e_reg (as_ rfl rfl (l_nil (x_then (e_seq (e_seq (e_reg (mv rfl rfl (mv rfl rfl (tt (t_bsg (i := 4) (ivs := [(0, _), (1, _)]) (enc := encS) [(sx, (xs.map wr)), (sx_2, t)] rfl rfl rfl ⟨rfl, rfl, rfl, rfl, trivial⟩ Tryz.underlying68 Tryz.ti23 rfl rfl rfl rfl rfl rfl pS.cells rfl rfl hw) rfl (fun v _ => ?_))))))))))
 refine l_imp (s_many_nil qR 900) ?_
 refine l_imp (s_many_snoc (q := qR) (z := (sx, (xs.map wr))) 900 700 901 rfl rfl rfl rfl rfl) ?_
 refine l_imp (s_many_snoc (q := qR) (z := (sx_2, t)) 901 2 902 rfl rfl rfl rfl rfl) ?_
 refine l_imp (s_pub 4 rfl rfl pS) ?_
 refine l_imp (s_mkdeep 4 902 966 rfl rfl rfl rfl) ?_
 refine tt (t_call (n := 4) (law_short _ _) rfl rfl rfl ⟨rfl, trivial⟩ Tryz.call10 (pre_same 966 rfl rfl rfl pre_nil) rfl hw) rfl (fun _ _ => ?_)
 refine dt (d_notb rfl rfl) rfl ?_
 refine mv rfl rfl (l_splitb (d := 19) rfl (fun s87 => ?_) (fun s87 => ?_))
 ·refine gsk rfl rfl rfl rfl rfl (gsk rfl rfl rfl rfl rfl (gsk rfl rfl rfl rfl rfl (dt (d_pickt rfl rfl rfl) rfl ?_)))
  refine l_nil (x_then (e_condt rfl ?_))
  refine e_seq (e_reg (tt (t_call (n := 4) (law_known) rfl rfl rfl trivial Tryz.call11 pre_nil rfl hw) rfl (fun _ _ => ?_)))
  refine as_ rfl rfl (l_nil (x_then (e_ret (x_ret ?_))))
  exact x_end (.inl rfl) hsc () _ (fun a w hs => res1 hs Tryz.results9 rfl) rfl trivial rfl give_nil
 ·refine gdt (d_mv rfl rfl) rfl rfl rfl rfl ?_
  refine gdt (d_len rfl rfl (i := 3) rfl rd_slp Tryz.underlying40) rfl rfl rfl rfl ?_
  refine gdt (d_gtr rfl rfl rfl) rfl rfl rfl rfl ?_
  refine dt (d_pickf rfl rfl rfl) rfl ?_
  refine l_nil (x_then (e_cond rfl (fun h87 => ?_) (fun h87 => ?_)))
  ·refine e_seq (e_reg (tt (t_call (n := 4) (law_known) rfl rfl rfl trivial Tryz.call11 pre_nil rfl hw) rfl (fun _ _ => ?_)))
   refine as_ rfl rfl (l_nil (x_then (e_ret (x_ret ?_))))
   exact x_end (.inl rfl) hsc () _ (fun a w hs => res1 hs Tryz.results9 rfl) rfl trivial rfl give_nil
  ·refine e_skip ?_
   refine x_then (e_seq (e_reg (mv rfl rfl (tt (t_call (n := 4) (poly_degree _ _ hv) rfl rfl rfl ⟨rfl, trivial⟩ Tryz.call54 (pre_same 1 rfl rfl rfl pre_nil) rfl hw) rfl (fun _ _ => ?_)))))
   refine mv rfl rfl (dt (d_ex rfl rfl rfl) rfl ?_)
   refine dt (d_ex rfl rfl rfl) rfl ?_
   refine as_ rfl rfl (as_ rfl rfl (l_nil (x_then (e_seq (e_reg (mv rfl rfl (tt (t_call (n := 4) (poly_bits _ _ hv) rfl rfl rfl ⟨rfl, trivial⟩ Tryz.call55 (pre_same 1 rfl rfl rfl pre_nil) rfl hw) rfl (fun _ _ => ?_))))))))
   refine mv rfl rfl (dt (d_ex rfl rfl rfl) rfl ?_)
   refine dt (d_ex rfl rfl rfl) rfl ?_
   refine as_ rfl rfl (as_ rfl rfl (l_nil (x_then (e_seq (e_seq (e_reg (mv rfl rfl (tt (t_call (n := 4) (poly_valid _ _) rfl rfl rfl ⟨rfl, trivial⟩ Tryz.call56 (pre_same 700 rfl rfl rfl pre_nil) rfl hw) rfl (fun _ _ => ?_)))))))))
   refine mv rfl rfl (tt (t_call (n := 4) (rp_valid _ _) rfl rfl rfl ⟨rfl, trivial⟩ Tryz.call57 (pre_same 700 rfl rfl rfl pre_nil) rfl hw) rfl (fun _ _ => ?_))
   refine dt (det_is (r' := .bool false) (d_neb rfl rfl rfl Tryz.underlying4) (congrArg Value.bool (by simp))) rfl ?_
   refine mv rfl rfl (gdt (d_mv rfl rfl) rfl rfl rfl rfl ?_)
   refine gdt (d_mv rfl rfl) rfl rfl rfl rfl ?_
   refine gtt (t_call (n := 4) (poly_equal _ _ _ _) rfl rfl rfl ⟨rfl, rfl, trivial⟩ Tryz.call58 (pre_same 700 rfl rfl rfl (pre_same 2 rfl rfl rfl pre_nil)) rfl hw) rfl rfl rfl rfl (fun _ _ => ?_)
   refine gdt (d_mv rfl rfl) rfl rfl rfl rfl ?_
   refine gdt (d_mv rfl rfl) rfl rfl rfl rfl ?_
   refine gtt (t_call (n := 4) (r_same _ _ _ _) rfl rfl rfl ⟨rfl, rfl, trivial⟩ Tryz.call49 (pre_same 700 rfl rfl rfl (pre_same 2 rfl rfl rfl pre_nil)) rfl hw) rfl rfl rfl rfl (fun _ _ => ?_)
   refine gdt (det_is (r' := .bool false) (d_neb rfl rfl rfl Tryz.underlying4) (congrArg Value.bool (by simp))) rfl rfl rfl rfl ?_
   refine dt (d_pickf rfl rfl rfl) rfl ?_
   refine mv rfl rfl (gdt (d_mv rfl rfl) rfl rfl rfl rfl ?_)
   refine gdt (d_mv rfl rfl) rfl rfl rfl rfl ?_
   refine gtt (t_call (n := 4) (poly_equal _ _ _ _) rfl rfl rfl ⟨rfl, rfl, trivial⟩ Tryz.call58 (pre_same 700 rfl rfl rfl (pre_same 700 rfl rfl rfl pre_nil)) rfl hw) rfl rfl rfl rfl (fun _ _ => ?_)
   refine gdt (det_is (r' := .bool false) (d_notb rfl rfl) (congrArg Value.bool (by simp))) rfl rfl rfl rfl ?_
   refine dt (d_pickf rfl rfl rfl) rfl ?_
   refine l_nil (x_then (e_condf rfl ?_))
   refine e_skip ?_
   refine x_then (e_seq (e_seq (e_reg (mv rfl rfl (tt (t_bsg (i := 5) (ivs := [(0, _)]) (enc := encS) [(sx, xs)] rfl rfl rfl ⟨rfl, rfl, trivial⟩ Tryz.underlying68 Tryz.ti23 rfl rfl rfl rfl rfl rfl pS.cells rfl rfl hw) rfl (fun v_2 _ => ?_))))))
   refine l_imp (s_many_nil qZ 900) ?_
   refine l_imp (s_many_snoc (q := qZ) (z := (sx, xs)) 900 1 901 rfl rfl rfl rfl rfl) ?_
   refine l_imp (s_pub 5 rfl rfl pS) ?_
   refine l_imp (s_mkdeep 5 901 1006 rfl rfl rfl rfl) ?_
   refine tt (t_call (n := 5) (law_valid_z _ _ (fun z hz => by cases hz with | head => exact hv | tail _ h => cases h)) rfl rfl rfl ⟨rfl, trivial⟩ Tryz.call16 (pre_same 1006 rfl rfl rfl pre_nil) rfl hw) rfl (fun _ _ => ?_)
   refine dt (d_notb rfl rfl) rfl ?_
   refine l_nil (x_then (e_condf rfl ?_))
   refine e_seq ?_
   have hxl := hv.len
   refine e_reg (mv rfl rfl (mv rfl rfl (dt (d_len rfl rfl (i := 1) rfl rd_slp Tryz.underlying23) rfl ?_)))
   refine dt (d_sub rfl rfl rfl ⟨by omega, by omega⟩) rfl ?_
   refine dt (det_is (r' := .bool false) (d_neq rfl rfl rfl) (congrArg Value.bool (by simp))) rfl ?_
   refine mv rfl rfl (gdt (d_mv rfl rfl) rfl rfl rfl rfl ?_)
   refine gdt (det_is (r' := .bool false) (d_neq rfl rfl rfl) (congrArg Value.bool (by decide))) rfl rfl rfl rfl ?_
   refine dt (d_pickf rfl rfl rfl) rfl ?_
   refine mv rfl rfl (gdt (d_mv rfl rfl) rfl rfl rfl rfl ?_)
   refine gdt (d_mv rfl rfl) rfl rfl rfl rfl ?_
   refine gtt (t_call (n := 6) (rp_from _ _ (hv.sz.mono (by omega)) (by have := hv.len; omega)) rfl rfl rfl ⟨rfl, trivial⟩ Tryz.call17 (pre_same 1 rfl rfl rfl pre_nil) rfl hw) rfl rfl rfl rfl (fun g hg => ?_)
   have hl_hf := congrArg List.length hg
   rw [length_ints] at hl_hf
   refine gtt (t_call (n := 6) (rp_bits _ _ (by rw [hg]; exact hv.sz.mono (by omega)) (by have := hv.len; omega)) rfl rfl rfl ⟨rfl, trivial⟩ Tryz.call59 (pre_same 6 rfl rfl rfl pre_nil) rfl hw) rfl rfl rfl rfl (fun _ _ => ?_)
   refine gdt (det_is (r' := .bool false) (d_neq rfl rfl rfl) (congrArg Value.bool (by simp [hg]))) rfl rfl rfl rfl ?_
   refine dt (d_pickf rfl rfl rfl) rfl ?_
   refine mv rfl rfl (gdt (d_mv rfl rfl) rfl rfl rfl rfl ?_)
   refine gdt (det_is (r' := .bool false) (d_neq rfl rfl rfl) (congrArg Value.bool (by decide))) rfl rfl rfl rfl ?_
   refine dt (d_pickf rfl rfl rfl) rfl ?_
   refine l_nil (x_then (e_condf rfl ?_))
   refine e_skip ?_
   refine x_then (e_seq (e_reg (mv rfl rfl (tt (t_call (n := 7) (poly_of _ _ hl (by omega)) rfl rfl rfl ⟨rfl, trivial⟩ Tryz.call60 (pre_same 3 rfl rfl rfl pre_nil) rfl hw) rfl (fun _ _ => ?_)))))
   refine mv rfl rfl (dt (d_ex rfl rfl rfl) rfl ?_)
   refine dt (d_ex rfl rfl rfl) rfl ?_
   refine as_ rfl rfl (as_ rfl rfl (l_nil (x_then (e_seq (e_reg (mv rfl rfl (tt (t_call (n := 8) (rp_nums _ _ hl (by omega)) rfl rfl rfl ⟨rfl, trivial⟩ Tryz.call61 (pre_same 3 rfl rfl rfl pre_nil) rfl hw) rfl (fun g_2 hg_2 => ?_))))))))
   have hlz := congrArg List.length hg_2
   rw [length_ints] at hlz
   refine as_ rfl rfl (l_nil (x_then (e_seq (e_seq (e_reg (mv rfl rfl (dt (d_len rfl rfl (i := 8) rfl rd_deep Tryz.underlying35) rfl ?_)))))))
   refine dt (d_gtr rfl rfl rfl) rfl ?_
   refine l_nil (x_then (e_cond rfl (fun h104 => ?_) (fun h104 => ?_)))
   ·have h25 : 25 < (tzl l).length := by omega
    refine e_seq (e_reg (mv rfl rfl (dt (d_len rfl rfl (i := 7) rfl rd_slp Tryz.underlying23) rfl ?_)))
    refine dt (det_is (r' := .bool true) (d_eql rfl rfl rfl) (congrArg Value.bool (by rw [if_pos (by omega)]; rfl))) rfl ?_
    refine mv rfl rfl (gdt (d_mv rfl rfl) rfl rfl rfl rfl ?_)
    refine gdt (det_is (r' := .bool true) (d_eql rfl rfl rfl) (congrArg Value.bool (by rw [if_pos (by omega)]; rfl))) rfl rfl rfl rfl ?_
    refine dt (d_pickt rfl rfl rfl) rfl ?_
    refine mv rfl rfl (gtt (t_call (n := 8) (law_known) rfl rfl rfl trivial Tryz.call11 pre_nil rfl hw) rfl rfl rfl rfl (fun _ _ => ?_))
    refine dt (d_pickt rfl rfl rfl) rfl ?_
    refine as_ rfl rfl (l_nil (x_then (e_ret (x_ret ?_))))
    exact x_end (.inl rfl) hsc () _ (fun a w hs => res1 hs Tryz.results9 rfl) rfl trivial rfl give_nil
   ·have h25 : ¬ 25 < (tzl l).length := by omega
    refine e_skip ?_
    refine x_then (e_seq (e_reg (mv rfl rfl (mv rfl rfl (mv rfl rfl (tt (t_call (n := 8) (law_same _ _ _ _ _ (by rw [if_neg (by omega)]) (by rw [if_neg (by omega), hg_2]) (by rw [hg_2]; exact (sz_ints hl).tzl) (by omega)) rfl rfl rfl ⟨rfl, rfl, rfl, trivial⟩ Tryz.call19 (pre_same 7 rfl rfl rfl (pre_same 8 rfl rfl rfl pre_nil)) rfl hw) rfl (fun _ _ => ?_)))))))
    refine mv rfl rfl (gtt (t_call (n := 8) (law_known) rfl rfl rfl trivial Tryz.call11 pre_nil rfl hw) rfl rfl rfl rfl (fun _ _ => ?_))
    refine dt (d_pickt rfl rfl rfl) rfl ?_
    refine as_ rfl rfl (l_nil (x_then (e_ret ?_)))
    exact x_end (.inl rfl) hsc () _ (fun a w hs => res1 hs Tryz.results9 rfl) rfl trivial rfl give_nil
set_option maxHeartbeats 4000000 in
theorem law_valid1_bad (v u u2 : Value) (r t : RW) (l : List Int) (hb : okP r = false) (hl : ∀ x ∈ l, inI x) : Cal Tryz.prog 9 #[v, u, u2] [slp 2 encW v r, slp 2 encW u t, slp 1 encZ u2 l] false (G := Unit) (fun _ => True) (fun _ => .bool true) (fun _ => []) := by
 refine cal_in Tryz.func9 rfl Tryz.ntmps9 rfl ⟨rfl, rfl, rfl, trivial⟩ ?_
 intro w0 sc hw hsc
 simp only [enumEnv, enumPre]
 refine e_imp (s_nil 999 2 25 wv) ?_
 refine e_imp (s_pub 999 rfl rfl pV) ?_
 refine e_seq (e_ex (f_slice 1 rfl rd_slp) (fun sx hssx => ?_))
 subst hssx
 refine e_ex (f_slice 2 rfl rd_slp) (fun sx_2 hssx_2 => ?_)
 subst hssx_2
 refine e_reg (as_ rfl rfl (l_nil (x_then (e_seq (e_seq (e_reg (mv rfl rfl (mv rfl rfl (tt (t_bsg (i := 4) (ivs := [(0, _), (1, _)]) (enc := encS) [(sx, r), (sx_2, t)] rfl rfl rfl ⟨rfl, rfl, rfl, rfl, trivial⟩ Tryz.underlying68 Tryz.ti23 rfl rfl rfl rfl rfl rfl pS.cells rfl rfl hw) rfl (fun v _ => ?_))))))))))
 refine l_imp (s_many_nil qR 900) ?_
 refine l_imp (s_many_snoc (q := qR) (z := (sx, r)) 900 1 901 rfl rfl rfl rfl rfl) ?_
 refine l_imp (s_many_snoc (q := qR) (z := (sx_2, t)) 901 2 902 rfl rfl rfl rfl rfl) ?_
 refine l_imp (s_pub 4 rfl rfl pS) ?_
 refine l_imp (s_mkdeep 4 902 966 rfl rfl rfl rfl) ?_
 refine tt (t_call (n := 4) (law_short _ _) rfl rfl rfl ⟨rfl, trivial⟩ Tryz.call10 (pre_same 966 rfl rfl rfl pre_nil) rfl hw) rfl (fun _ _ => ?_)
 refine dt (d_notb rfl rfl) rfl ?_
 refine mv rfl rfl (l_splitb (d := 19) rfl (fun s87 => ?_) (fun s87 => ?_))
 ·refine gsk rfl rfl rfl rfl rfl (gsk rfl rfl rfl rfl rfl (gsk rfl rfl rfl rfl rfl (dt (d_pickt rfl rfl rfl) rfl ?_)))
  refine l_nil (x_then (e_condt rfl ?_))
  refine e_seq (e_reg (tt (t_call (n := 4) (law_known) rfl rfl rfl trivial Tryz.call11 pre_nil rfl hw) rfl (fun _ _ => ?_)))
  refine as_ rfl rfl (l_nil (x_then (e_ret (x_ret ?_))))
  exact x_end (.inl rfl) hsc () _ (fun a w hs => res1 hs Tryz.results9 rfl) rfl trivial rfl give_nil
 ·refine gdt (d_mv rfl rfl) rfl rfl rfl rfl ?_
  refine gdt (d_len rfl rfl (i := 3) rfl rd_slp Tryz.underlying40) rfl rfl rfl rfl ?_
  refine gdt (d_gtr rfl rfl rfl) rfl rfl rfl rfl ?_
  refine dt (d_pickf rfl rfl rfl) rfl ?_
  refine l_nil (x_then (e_cond rfl (fun h87 => ?_) (fun h87 => ?_)))
  ·refine e_seq (e_reg (tt (t_call (n := 4) (law_known) rfl rfl rfl trivial Tryz.call11 pre_nil rfl hw) rfl (fun _ _ => ?_)))
   refine as_ rfl rfl (l_nil (x_then (e_ret (x_ret ?_))))
   exact x_end (.inl rfl) hsc () _ (fun a w hs => res1 hs Tryz.results9 rfl) rfl trivial rfl give_nil
  ·refine e_skip ?_
   refine x_then (e_seq (e_reg (mv rfl rfl (tt (t_call (n := 4) (poly_degree_bad _ _ (by assumption)) rfl rfl rfl ⟨rfl, trivial⟩ Tryz.call54 (pre_same 1 rfl rfl rfl pre_nil) rfl hw) rfl (fun _ _ => ?_)))))
   refine mv rfl rfl (dt (d_ex rfl rfl rfl) rfl ?_)
   refine dt (d_ex rfl rfl rfl) rfl ?_
   refine as_ rfl rfl (as_ rfl rfl (l_nil (x_then (e_seq (e_reg (mv rfl rfl (tt (t_call (n := 4) (poly_bits_bad _ _ (by assumption)) rfl rfl rfl ⟨rfl, trivial⟩ Tryz.call55 (pre_same 1 rfl rfl rfl pre_nil) rfl hw) rfl (fun _ _ => ?_))))))))
   refine mv rfl rfl (dt (d_ex rfl rfl rfl) rfl ?_)
   refine dt (d_ex rfl rfl rfl) rfl ?_
   refine as_ rfl rfl (as_ rfl rfl (l_nil (x_then (e_seq (e_seq (e_reg (mv rfl rfl (tt (t_call (n := 4) (poly_valid _ _) rfl rfl rfl ⟨rfl, trivial⟩ Tryz.call56 (pre_same 1 rfl rfl rfl pre_nil) rfl hw) rfl (fun _ _ => ?_)))))))))
   refine mv rfl rfl (tt (t_call (n := 4) (rp_valid _ _) rfl rfl rfl ⟨rfl, trivial⟩ Tryz.call57 (pre_same 1 rfl rfl rfl pre_nil) rfl hw) rfl (fun _ _ => ?_))
   refine dt (det_is (r' := .bool false) (d_neb rfl rfl rfl Tryz.underlying4) (congrArg Value.bool (by simp))) rfl ?_
   refine mv rfl rfl (gdt (d_mv rfl rfl) rfl rfl rfl rfl ?_)
   refine gdt (d_mv rfl rfl) rfl rfl rfl rfl ?_
   refine gtt (t_call (n := 4) (poly_equal _ _ _ _) rfl rfl rfl ⟨rfl, rfl, trivial⟩ Tryz.call58 (pre_same 1 rfl rfl rfl (pre_same 2 rfl rfl rfl pre_nil)) rfl hw) rfl rfl rfl rfl (fun _ _ => ?_)
   refine gdt (d_mv rfl rfl) rfl rfl rfl rfl ?_
   refine gdt (d_mv rfl rfl) rfl rfl rfl rfl ?_
   refine gtt (t_call (n := 4) (r_same _ _ _ _) rfl rfl rfl ⟨rfl, rfl, trivial⟩ Tryz.call49 (pre_same 1 rfl rfl rfl (pre_same 2 rfl rfl rfl pre_nil)) rfl hw) rfl rfl rfl rfl (fun _ _ => ?_)
   refine gdt (det_is (r' := .bool false) (d_neb rfl rfl rfl Tryz.underlying4) (congrArg Value.bool (by simp))) rfl rfl rfl rfl ?_
   refine dt (d_pickf rfl rfl rfl) rfl ?_
   refine mv rfl rfl (gdt (d_mv rfl rfl) rfl rfl rfl rfl ?_)
   refine gdt (d_mv rfl rfl) rfl rfl rfl rfl ?_
   refine gtt (t_call (n := 4) (poly_equal _ _ _ _) rfl rfl rfl ⟨rfl, rfl, trivial⟩ Tryz.call58 (pre_same 1 rfl rfl rfl (pre_same 1 rfl rfl rfl pre_nil)) rfl hw) rfl rfl rfl rfl (fun _ _ => ?_)
   refine gdt (det_is (r' := .bool false) (d_notb rfl rfl) (congrArg Value.bool (by simp))) rfl rfl rfl rfl ?_
   refine dt (d_pickf rfl rfl rfl) rfl ?_
   refine l_nil (x_then (e_condf rfl ?_))
   refine e_skip ?_
   refine x_then (e_seq (e_seq (e_reg (mv rfl rfl (tt (t_bsg (i := 5) (ivs := [(0, _)]) (enc := encS) [(sx, r)] rfl rfl rfl ⟨rfl, rfl, trivial⟩ Tryz.underlying68 Tryz.ti23 rfl rfl rfl rfl rfl rfl pS.cells rfl rfl hw) rfl (fun v_2 _ => ?_))))))
   refine l_imp (s_many_nil qR 900) ?_
   refine l_imp (s_many_snoc (q := qR) (z := (sx, r)) 900 1 901 rfl rfl rfl rfl rfl) ?_
   refine l_imp (s_pub 5 rfl rfl pS) ?_
   refine l_imp (s_mkdeep 5 901 1006 rfl rfl rfl rfl) ?_
   refine tt (t_call (n := 5) (law_valid _ _) rfl rfl rfl ⟨rfl, trivial⟩ Tryz.call16 (pre_same 1006 rfl rfl rfl pre_nil) rfl hw) rfl (fun _ _ => ?_)
   refine dt (det_is (r' := .bool true) (d_notb rfl rfl) (congrArg Value.bool (by simp [hb]))) rfl ?_
   refine l_nil (x_then (e_condt rfl ?_))
   refine e_seq (e_reg (mv rfl rfl (dt (det_is (r' := .bool false) (d_neq rfl rfl rfl) (congrArg Value.bool (by decide))) rfl ?_)))
   refine mv rfl rfl (gdt (d_mv rfl rfl) rfl rfl rfl rfl ?_)
   refine gdt (det_is (r' := .bool false) (d_neq rfl rfl rfl) (congrArg Value.bool (by decide))) rfl rfl rfl rfl ?_
   refine dt (d_pickf rfl rfl rfl) rfl ?_
   refine mv rfl rfl (gdt (d_mv rfl rfl) rfl rfl rfl rfl ?_)
   refine gdt (det_is (r' := .bool false) (d_neq rfl rfl rfl) (congrArg Value.bool (by decide))) rfl rfl rfl rfl ?_
   refine dt (d_pickf rfl rfl rfl) rfl ?_
   refine mv rfl rfl (gdt (d_mv rfl rfl) rfl rfl rfl rfl ?_)
   refine gdt (det_is (r' := .bool false) (d_neq rfl rfl rfl) (congrArg Value.bool (by decide))) rfl rfl rfl rfl ?_
   refine dt (d_pickf rfl rfl rfl) rfl ?_
   refine l_nil (x_then (e_condf rfl ?_))
   refine e_skip ?_
   refine x_then (e_seq (e_reg (mv rfl rfl (tt (t_call (n := 6) (poly_of _ _ hl (by omega)) rfl rfl rfl ⟨rfl, trivial⟩ Tryz.call60 (pre_same 3 rfl rfl rfl pre_nil) rfl hw) rfl (fun _ _ => ?_)))))
   refine mv rfl rfl (dt (d_ex rfl rfl rfl) rfl ?_)
   refine dt (d_ex rfl rfl rfl) rfl ?_
   refine as_ rfl rfl (as_ rfl rfl (l_nil (x_then (e_seq (e_reg (mv rfl rfl (tt (t_call (n := 7) (rp_nums _ _ hl (by omega)) rfl rfl rfl ⟨rfl, trivial⟩ Tryz.call61 (pre_same 3 rfl rfl rfl pre_nil) rfl hw) rfl (fun g hg => ?_))))))))
   have hlz := congrArg List.length hg
   rw [length_ints] at hlz
   refine as_ rfl rfl (l_nil (x_then (e_seq (e_seq (e_reg (mv rfl rfl (dt (d_len rfl rfl (i := 7) rfl rd_deep Tryz.underlying35) rfl ?_)))))))
   refine dt (d_gtr rfl rfl rfl) rfl ?_
   refine l_nil (x_then (e_cond rfl (fun h104 => ?_) (fun h104 => ?_)))
   ·have h25 : 25 < (tzl l).length := by omega
    refine e_seq (e_reg (mv rfl rfl (dt (d_len rfl rfl (i := 6) rfl rd_slp Tryz.underlying23) rfl ?_)))
    refine dt (det_is (r' := .bool true) (d_eql rfl rfl rfl) (congrArg Value.bool (by rw [if_pos (by omega)]; rfl))) rfl ?_
    refine mv rfl rfl (gdt (d_mv rfl rfl) rfl rfl rfl rfl ?_)
    refine gdt (det_is (r' := .bool true) (d_eql rfl rfl rfl) (congrArg Value.bool (by rw [if_pos (by omega)]; rfl))) rfl rfl rfl rfl ?_
    refine dt (d_pickt rfl rfl rfl) rfl ?_
    refine mv rfl rfl (gtt (t_call (n := 7) (law_known) rfl rfl rfl trivial Tryz.call11 pre_nil rfl hw) rfl rfl rfl rfl (fun _ _ => ?_))
    refine dt (d_pickt rfl rfl rfl) rfl ?_
    refine as_ rfl rfl (l_nil (x_then (e_ret (x_ret ?_))))
    exact x_end (.inl rfl) hsc () _ (fun a w hs => res1 hs Tryz.results9 rfl) rfl trivial rfl give_nil
   ·have h25 : ¬ 25 < (tzl l).length := by omega
    refine e_skip ?_
    refine x_then (e_seq (e_reg (mv rfl rfl (mv rfl rfl (mv rfl rfl (tt (t_call (n := 7) (law_same _ _ _ _ _ (by rw [if_neg (by omega)]) (by rw [if_neg (by omega), hg]) (by rw [hg]; exact (sz_ints hl).tzl) (by omega)) rfl rfl rfl ⟨rfl, rfl, rfl, trivial⟩ Tryz.call19 (pre_same 6 rfl rfl rfl (pre_same 7 rfl rfl rfl pre_nil)) rfl hw) rfl (fun _ _ => ?_)))))))
    refine mv rfl rfl (gtt (t_call (n := 7) (law_known) rfl rfl rfl trivial Tryz.call11 pre_nil rfl hw) rfl rfl rfl rfl (fun _ _ => ?_))
    refine dt (d_pickt rfl rfl rfl) rfl ?_
    refine as_ rfl rfl (l_nil (x_then (e_ret ?_)))
    exact x_end (.inl rfl) hsc () _ (fun a w hs => res1 hs Tryz.results9 rfl) rfl trivial rfl give_nil
end Go.Sky
namespace Go.Sky
open Go.Proofs
theorem law_valid1 (v : Value) (r : List (Bool × ByteArray)) (u : Value) (t : List (Bool × ByteArray)) (u2 : Value) (l : List Int) (hl : ∀ x ∈ l, inI x) : Cal Tryz.prog 9 #[v, u, u2] [slp 2 encW v r, slp 2 encW u t, slp 1 encZ u2 l] false (G := Unit) (fun _ => True) (fun _ => .bool true) (fun _ => []) := by
  cases h : okP r with
  | false => exact law_valid1_bad v u u2 r t l h hl
  | true =>
    obtain ⟨xs, hv, rfl⟩ := okP_ex h
    exact Cal.imp (p := slp 2 wv v xs) (law_valid1_ok v u u2 xs t l hv hl) (slp_wr' v xs) (fun _ h => h)
end Go.Sky
