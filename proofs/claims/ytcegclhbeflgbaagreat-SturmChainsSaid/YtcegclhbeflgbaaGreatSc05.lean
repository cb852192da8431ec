/- rules, arithmetic and contracts: part 6
   Proved without conditions of its own: each theorem bears its own. -/
import Derived.Test.YtcegclhbeflgbaaGreatSc02
import Derived.Test.YtcegclhbeflgbaaGreatSc01
import Derived.Test.YtcegclhbeflgbaaGreatSc03
import Derived.Test.YtcegclhbeflgbaaGreatSc04
set_option linter.all false
namespace Go.Sky
open Go.Proofs
set_option maxRecDepth 20000
set_option maxHeartbeats 4000000
set_option linter.unusedVariables false
set_option linter.unusedSimpArgs false
set_option maxHeartbeats 2000000 in
theorem nat_div (v w : Value) (x y : Nat) (hx : bl x ≤ 4000000000) (hy0 : bl y ≤ 4000000000) (hy : 0 < y) : Cal Tryz.prog 142 #[v, w] [dgp v x, dgp w y] true (G := Value × Value) (fun r => True) (fun r => .tuple #[r.1, r.2]) (fun r => [dgp r.1 (x / y), dgp r.2 (x % y)]) := by
 refine cal_in Tryz.func142 rfl Tryz.ntmps142 rfl ⟨rfl, rfl, trivial⟩ ?_
 intro w0 sc hw hsc
 simp only [enumEnv, enumPre]
 have hX := lenU_bl x
 have hY := lenU_bl y
 refine e_seq (e_reg (as_ rfl rfl (as_ rfl rfl (l_nil (x_then (e_seq (e_seq (e_reg (mv rfl rfl (mv rfl rfl (tt (t_call (n := 2) (nat_compare _ _ _ _ (by omega) (by omega)) rfl rfl rfl ⟨rfl, rfl, trivial⟩ Tryz.call140 (pre_same 1 rfl rfl rfl (pre_same 2 rfl rfl rfl pre_nil)) rfl hw) rfl (fun r hr => ?_))))))))))))
 refine dt (d_lss rfl rfl rfl) rfl ?_
 refine l_nil (x_then (e_cond rfl (fun h166 => ?_) (fun h166 => ?_)))
 ·have hlt : x < y := hr.1.1 (by omega)
  refine e_seq (e_reg (mv rfl rfl (as_ rfl rfl (as_ rfl rfl (l_nil (x_then (e_ret (x_ret ?_))))))))
  refine x_imp (s_nil 9 1 137 encU) ?_
  exact x_end (.inl rfl) hsc (.slice none 0 0, v) _ (fun a w hs => res2 hs Tryz.results142 rfl rfl) rfl trivial rfl (give_owne 9 rfl rfl pU (by rw [Nat.div_eq_of_lt hlt]; rfl) (give_samee 1 rfl rfl rfl (by rw [Nat.mod_eq_of_lt hlt]) give_nil))
 ·have hge : y ≤ x := by have := hr.1; omega
  have hly := bl_mono hge
  refine e_skip ?_
  refine x_then (e_seq (e_seq (e_reg (mv rfl rfl (dt (d_len rfl rfl (i := 2) rfl rd_slp Tryz.underlying127) rfl ?_)))))
  refine dt (d_eql rfl rfl rfl) rfl ?_
  refine l_nil (x_then (e_cond rfl (fun h169 => ?_) (fun h169 => ?_)))
  ·have hyU : y < U := by have := (dg_length_le two_U 1 y).1 (by omega); simpa using this
   have hd0 : (dg U y).getD 0 0 = y := by rw [dg_getD two_U]; simp [Nat.mod_eq_of_lt hyU]
   refine e_seq (e_reg (mv rfl rfl (mv rfl rfl (dt (d_ixa (ii := 2) (i := 0) rfl rfl rfl rfl rd_slp Tryz.underlying127 Tryz.sizeOf137 rfl (by omega)) rfl ?_))))
   refine dt (d_lde (ii := 2) 0 rfl rfl rfl rd_slp pU (by first | omega | (simp only [List.length_set]; omega))) rfl ?_
   refine tt (t_call (n := 3) (nat_small _ _ _ (by omega) (by rw [hd0]; exact hy) (by rw [hd0]; exact hyU)) rfl rfl rfl ⟨rfl, rfl, trivial⟩ Tryz.call158 (pre_same 1 rfl rfl rfl pre_nil) rfl hw) rfl (fun v _ => ?_)
   refine mv rfl rfl (dt (d_ex rfl rfl rfl) rfl ?_)
   refine dt (d_ex rfl rfl rfl) rfl ?_
   refine as_ rfl rfl (as_ rfl rfl (l_nil (x_then (e_seq (e_reg (mv rfl rfl (mv rfl rfl (tt (t_bsg (i := 4) (ivs := [(0, _)]) (enc := encU) [x % (dg U y).getD 0 0] rfl rfl rfl ⟨rfl, rfl, trivial⟩ Tryz.underlying127 Tryz.ti137 rfl rfl rfl rfl rfl rfl pU.cells rfl rfl hw) rfl (fun v_2 _ => ?_)))))))))
   refine tt (t_call (n := 4) (nat_trim_own _ _) rfl rfl rfl ⟨rfl, trivial⟩ Tryz.call108 (pre_lend 4 rfl rfl pU pre_nil) rfl hw) rfl (fun _ _ => ?_)
   refine l_imp (s_tz 4 rfl rfl pU) ?_
   refine as_ rfl rfl (as_ rfl rfl (l_nil (x_then (e_ret (x_ret ?_)))))
   exact x_end (.inl rfl) hsc (_, _) _ (fun a w hs => res2 hs Tryz.results142 rfl rfl) rfl trivial rfl (give_samee 3 rfl rfl rfl (by rw [hd0]; rfl) (give_owne 4 rfl rfl pU (by rw [tz_single (Nat.lt_trans (Nat.mod_lt _ (by rw [hd0]; exact hy)) (by rw [hd0]; exact hyU)), hd0]) give_nil))
  ·refine e_skip ?_
   refine x_then (e_seq ?_)
   obtain ⟨k, hk⟩ : ∃ k, k = (dg U y).length := ⟨_, rfl⟩
   have hkx : k ≤ (dg U x).length := by omega
   obtain ⟨b, hb⟩ : ∃ b, b = 64 - bl ((dg U y).getD (k - 1) 0) := ⟨_, rfl⟩
   obtain ⟨hkD0, _, hk1, hDk0, hb63, hD630⟩ := norm_dg hy hk hb
   obtain ⟨D, hDe⟩ : ∃ D, D = y * 2 ^ b := ⟨_, rfl⟩
   have hkD : (dg U D).length = k := by rw [hDe]; exact hkD0
   have hDk : D < U ^ k := by rw [hDe]; exact hDk0
   have hD63 : U ^ (k - 1) * 9223372036854775808 ≤ D := by rw [hDe]; exact hD630
   have hD0 : 0 < D := by rw [hDe]; exact Nat.mul_pos hy (Nat.two_pow_pos b)
   have hDb : bl D ≤ 4000000064 := by rw [hDe, bl_mul_pow _ _ hy]; omega
   refine e_reg (mv rfl rfl (mv rfl rfl (dt (d_len rfl rfl (i := 2) rfl rd_slp Tryz.underlying127) rfl ?_)))
   refine dt (d_sub rfl rfl rfl ⟨by omega, by omega⟩) rfl ?_
   refine dt (d_ixa (ii := 2) (i := (dg U y).length - 1) rfl rfl rfl rfl rd_slp Tryz.underlying127 Tryz.sizeOf137 (by omega) (by omega)) rfl ?_
   refine dt (d_lde (ii := 2) 0 rfl rfl rfl rd_slp pU (by first | omega | (simp only [List.length_set]; omega))) rfl ?_
   refine tt (t_call (n := 4) (bits_lz _ (getD_lt U_pos (dg_lt two_U y) _)) rfl rfl rfl ⟨rfl, trivial⟩ Tryz.call155 pre_nil rfl hw) rfl (fun _ _ => ?_)
   refine l_imp (s_val 44 (v' := .int .i64 (b : Int)) rfl (by rw [hb, hk])) ?_
   refine as_ rfl rfl (l_nil (x_then (e_jn [(0, _), (8, _)] [(0, _), (1, _), (2, _)] (fun (q : Value × Value) => [(9, q.1), (10, q.2)]) (fun (q : Value × Value) => [(81, dgp q.1 D), (82, osl 1 137 encU q.2 (List.replicate ((dg U x).length + 1) 0))]) (fun (q : Value × Value) => True) ⟨rfl, rfl, trivial⟩ ⟨rfl, rfl, rfl, trivial⟩ ?_ ?_)))
   ·refine e_drega (fun _ => False) [8] (by kernel_rfl) ?_
    refine a_lin' (n := 4) [(0, 0), (1, 0), (3, 0), (4, 0), (5, 0)] (by kernel_rfl) ?_
    refine r0' rfl rfl rfl rfl (st0 (d_mv rfl rfl)) ?_
    refine r0' rfl rfl rfl rfl (st0 (d_mv rfl rfl)) ?_
    refine r0' rfl rfl rfl rfl (st0 (d_mv rfl rfl)) ?_
    refine r0' rfl rfl rfl rfl (st0 (d_len rfl rfl (i := 1) rfl rd_slp Tryz.underlying127)) ?_
    refine r0' rfl rfl rfl rfl (st0 (d_add rfl rfl rfl ⟨by omega, by omega⟩)) ?_
    refine r_fin ?_
    refine a_br2 (n := 3) 2 6 (by kernel_rfl) ?_ ?_
    ·refine aact' rfl rfl (t_call (n := 81) (nat_shl _ _ _ (by omega) (by omega)) rfl rfl rfl ⟨rfl, rfl, trivial⟩ Tryz.call159 (pre_same 2 rfl rfl rfl pre_nil) rfl hw) (fun v_3 _ => ?_)
     refine a_lin' (n := 0) [(7, 0), (6, 1), (8, 3)] (by kernel_rfl) ?_
     refine r0' rfl rfl rfl rfl (st0 (d_as rfl rfl)) ?_
     refine r1' rfl rfl (t_mkn (i := 82) (n := (dg U x).length + 1) (by_ := 8) (enc := encU) 0 rfl rfl rfl rfl rfl (by omega) Tryz.underlying127 Tryz.ti137 rfl pU.cells pU.pos rfl rfl (by omega) (by decide) rfl hw) (fun v_4 _ => ?_)
     refine r3' rfl rfl (t_det (d_as rfl rfl) rfl rfl) (fun _ _ => ?_)
     refine r_fin ?_
     refine a_done (by kernel_rfl) ?_
     exact x_jn (_, _) trivial ⟨rfl, rfl, rfl, rfl, trivial⟩ ⟨by rw [hDe]; rfl, rfl, rfl, rfl, rfl, trivial⟩
    ·refine aact' rfl rfl (t_mkn (i := 82) (n := (dg U x).length + 1) (by_ := 8) (enc := encU) 0 rfl rfl rfl rfl rfl (by omega) Tryz.underlying127 Tryz.ti137 rfl pU.cells pU.pos rfl rfl (by omega) (by decide) rfl hw) (fun v_5 _ => ?_)
     refine a_lin' (n := 0) [(2, 1), (7, 0), (8, 3)] (by kernel_rfl) ?_
     refine r1' rfl rfl (t_call (n := 81) (nat_shl _ _ _ (by omega) (by omega)) rfl rfl rfl ⟨rfl, rfl, trivial⟩ Tryz.call159 (pre_same 2 rfl rfl rfl pre_nil) rfl hw) (fun v_6 _ => ?_)
     refine r0' rfl rfl rfl rfl (st0 (d_as rfl rfl)) ?_
     refine r3' rfl rfl (t_det (d_as rfl rfl) rfl rfl) (fun _ _ => ?_)
     refine r_fin ?_
     refine a_done (by kernel_rfl) ?_
     exact x_jn (_, _) trivial ⟨rfl, rfl, rfl, rfl, trivial⟩ ⟨by rw [hDe]; rfl, rfl, rfl, rfl, rfl, trivial⟩
   ·rintro ⟨vd, vr⟩ -
    simp only [List.cons_append, List.nil_append]
    refine e_seq ?_
    have hnl : (dg U (x * 2 ^ b)).length ≤ (dg U x).length + 1 := (dg_length_le two_U _ _).2 (by rw [Nat.pow_succ]; exact Nat.mul_lt_mul_of_lt_of_le ((dg_length_le two_U _ x).1 (Nat.le_refl _)) (by rw [U_eq]; exact Nat.pow_le_pow_right (by omega) (by omega)) U_pos)
    refine e_reg (mv rfl rfl (mv rfl rfl (mv rfl rfl (tt (t_call (n := 5) (nat_shl _ _ _ (by omega) (by omega)) rfl rfl rfl ⟨rfl, rfl, trivial⟩ Tryz.call159 (pre_same 1 rfl rfl rfl pre_nil) rfl hw) rfl (fun v_7 _ => ?_)))))
    refine tt (t_cpy (i := 82) (j := 5) 0 rfl rfl rfl rfl rfl rfl (by decide) rfl rd_slp (dst_self _ _ _) (by rw [List.length_replicate]; exact hnl) (by rw [List.length_replicate]; omega) (by rw [List.length_replicate]; omega) Tryz.underlying127 pU rfl hw) rfl (fun _ _ => ?_)
    refine l_nil (x_then (e_seq ?_))
    have hR0l : (spl (List.replicate ((dg U x).length + 1) 0) 0 (dg U (x * 2 ^ b))).length = (dg U x).length + 1 := by rw [length_spl _ _ _ (by rw [List.length_replicate]; omega), List.length_replicate]
    refine e_reg (mv rfl rfl (dt (d_len rfl rfl (i := 81) rfl rd_slp Tryz.underlying127) rfl ?_))
    refine as_ rfl rfl (l_nil (x_then (e_seq ?_)))
    have hql0 : (List.replicate ((dg U x).length + 1 - k) (0 : Nat)).length = (dg U x).length + 1 - k := List.length_replicate
    refine e_imp (s_val 11 (v' := .int .i64 (k : Int)) rfl (by rw [hkD])) ?_
    refine e_reg (mv rfl rfl (dt (d_len rfl rfl (i := 82) rfl (rd_osl pU) Tryz.underlying127) rfl ?_))
    refine mv rfl rfl (dt (d_sub rfl rfl rfl ⟨by omega, by omega⟩) rfl ?_)
    refine tt (t_mkn (i := 6) (n := (dg U x).length + 1 - k) (by_ := 8) (enc := encU) 0 rfl rfl rfl rfl rfl (by omega) Tryz.underlying127 Tryz.ti137 rfl pU.cells pU.pos rfl rfl (by omega) (by decide) rfl hw) rfl (fun v_8 _ => ?_)
    refine as_ rfl rfl (l_nil (x_then (e_seq (e_seq (e_reg (mv rfl rfl (dt (d_len rfl rfl (i := 6) rfl (rd_osl pU) Tryz.underlying127) rfl ?_)))))))
    refine dt (d_sub rfl rfl rfl ⟨by omega, by omega⟩) rfl ?_
    refine as_ rfl rfl (l_nil (x_then (e_block (e_lp [(8, _), (9, _), (10, _), (11, _), (12, _)] [(0, _), (81, _), (1, _), (2, _), (5, _)] (fun (q : Nat × List Nat × List Nat) => [(13, .int .i64 ((q.1 : Int) - 1))]) (fun (q : Nat × List Nat × List Nat) => [(82, osl 1 137 encU vr q.2.1), (6, osl 1 137 encU v_8 q.2.2)]) (fun (q : Nat × List Nat × List Nat) => (q.1 ≤ (dg U x).length + 1 - k) ∧ (q.2.1.length = (dg U x).length + 1) ∧ (∀ d ∈ q.2.1, d < U) ∧ (q.2.2.length = (dg U x).length + 1 - k) ∧ (∀ d ∈ q.2.2, d < U) ∧ (val U q.2.1 < D * U ^ q.1) ∧ (val U (q.2.2.drop q.1) * U ^ q.1 * D + val U q.2.1 = x * 2 ^ b)) (fun (q : Nat × List Nat × List Nat) => q.1) ((dg U x).length + 1 - k, spl (List.replicate ((dg U x).length + 1) 0) 0 (dg U (x * 2 ^ b)), List.replicate ((dg U x).length + 1 - k) 0) ⟨Nat.le_refl _, hR0l, all_spl (all_replicate _ U_pos) (dg_lt two_U _) 0, by simp, all_replicate _ U_pos, by rw [val_spl0, val_dg two_U]; exact div_init ((dg_length_le two_U _ x).1 (Nat.le_refl _)) hb63 hk1 (by omega) hD63, by rw [val_spl0, val_dg two_U]; simp [val]⟩ ⟨by rw [List.length_replicate]; rfl, rfl, rfl, rfl, rfl, rfl, trivial⟩ ⟨rfl, rfl, rfl, rfl, rfl, rfl, rfl, trivial⟩ ?_))))
    rintro ⟨jj, R, q⟩ ⟨hj, hRl, hRa, hql, hqa, hV, hN⟩
    dsimp only at hj hRl hRa hql hqa hV hN
    simp only [List.cons_append, List.nil_append]
    refine e_seq (e_seq (e_reg (mv rfl rfl (dt (d_geq rfl rfl rfl) rfl ?_))))
    refine l_nil (x_then (e_cond rfl (fun h179 => ?_) (fun h179 => ?_)))
    ·refine e_skip ?_
     refine x_then (e_seq (e_block (e_seq ?_)))
     have hW1 : val U R < U ^ (jj - 1 + k + 1) := by
      refine Nat.lt_of_lt_of_le hV ?_
      rw [show jj - 1 + k + 1 = k + jj by omega, Nat.pow_add]
      exact Nat.mul_le_mul_right _ (Nat.le_of_lt hDk)
     have hWz : tz ((R.drop (jj - 1)).take (jj - 1 + k + 1 - (jj - 1))) = dg U (val U R / U ^ (jj - 1)) := win_val hRa (by omega) (by rw [show jj - 1 + (jj - 1 + k + 1 - (jj - 1)) = jj - 1 + k + 1 by omega]; exact hW1)
     have hWD : val U R / U ^ (jj - 1) < D * U := by
      rw [Nat.div_lt_iff_lt_mul (Nat.pow_pos U_pos), Nat.mul_assoc, ← Nat.pow_succ', show (jj - 1).succ = jj by omega]; exact hV
     have hWb : bl (val U R / U ^ (jj - 1)) ≤ 4294967296 := by
      have h1 := bl_mono (Nat.le_of_lt hWD)
      have h2 := bl_mul D U
      have h3 : bl U ≤ 65 := (bl_le 65 U).2 (by simp [U])
      omega
     have htop := top_two hRa (j := jj - 1) hk1 hW1 (by omega)
     have hDt : (dg U D).getD (k - 1) 0 * U ^ (k - 1) ≤ D := by
      rw [dg_getD two_U]; exact Nat.le_trans (Nat.mul_le_mul_right _ (Nat.mod_le _ _)) (Nat.div_mul_le_self _ _)
     have hQU : val U R / U ^ (jj - 1) / D ≤ 18446744073709551615 := by
      have := (Nat.div_lt_iff_lt_mul hD0).2 (show _ < U * D by rw [Nat.mul_comm]; exact hWD)
      simp only [U] at this ⊢; omega
     refine e_reg (as_ rfl rfl (l_nil (x_then (e_jn [(8, _), (9, _), (10, _), (11, _), (12, _), (13, _)] [(0, _), (82, _), (6, _), (81, _), (1, _), (2, _), (5, _)] (fun (g : Nat) => [(14, .int .u64 (g : Int))]) (fun (g : Nat) => []) (fun (g : Nat) => (val U R / U ^ (jj - 1) / D ≤ g) ∧ (g < U)) ⟨rfl, rfl, rfl, rfl, rfl, rfl, trivial⟩ ⟨rfl, rfl, rfl, rfl, rfl, rfl, rfl, trivial⟩ ?_ ?_))))
     ·refine e_seq (e_dreg (fun _ => False) [(0, 0), (1, 0), (2, 0), (3, 0), (4, 0), (5, 0), (6, 0), (7, 0), (8, 0), (9, 0), (10, 0), (11, 0)] (by kernel_rfl) ?_ ?_)
      ·kernel_rfl
      refine r0' rfl rfl rfl rfl (st0 (d_mv rfl rfl)) ?_
      refine r0' rfl rfl rfl rfl (st0 (d_mv rfl rfl)) ?_
      refine r0' rfl rfl rfl rfl (st0 (d_mv rfl rfl)) ?_
      refine r0' rfl rfl rfl rfl (st0 (d_add rfl rfl rfl ⟨by omega, by omega⟩)) ?_
      refine r0' rfl rfl rfl rfl (st0 (d_ixa (ii := 82) (i := jj - 1 + k) rfl rfl rfl rfl (rd_osl pU) Tryz.underlying127 Tryz.sizeOf137 (by omega) (by omega))) ?_
      refine r0' rfl rfl rfl rfl (st0 (d_lde (ii := 82) 0 rfl rfl rfl (rd_osl pU) pU (by first | omega | (simp only [List.length_set]; omega)))) ?_
      refine r0' rfl rfl rfl rfl (st0 (d_mv rfl rfl)) ?_
      refine r0' rfl rfl rfl rfl (st0 (d_mv rfl rfl)) ?_
      refine r0' rfl rfl rfl rfl (st0 (d_sub rfl rfl rfl ⟨by omega, by omega⟩)) ?_
      refine r0' rfl rfl rfl rfl (st0 (d_ixa (ii := 81) (i := k - 1) rfl rfl rfl rfl rd_slp Tryz.underlying127 Tryz.sizeOf137 (by omega) (by omega))) ?_
      refine r0' rfl rfl rfl rfl (st0 (d_lde (ii := 81) 0 rfl rfl rfl rd_slp pU (by first | omega | (simp only [List.length_set]; omega)))) ?_
      refine r0' rfl rfl rfl rfl (st0 (d_lss rfl rfl rfl)) ?_
      refine r_end ?_
      refine x_then (e_cond rfl (fun h182 => ?_) (fun h182 => ?_))
      ·refine e_dreg (fun _ => False) [(0, 0), (1, 0), (2, 0), (3, 0), (4, 0), (5, 0), (6, 0), (7, 0), (8, 0), (9, 0), (10, 0), (11, 0), (12, 0), (13, 0), (14, 0), (15, 0), (16, 0), (17, 0), (18, 1), (19, 0), (20, 0), (21, 0), (22, 0)] (by kernel_rfl) ?_ ?_
       ·kernel_rfl
       refine r0' rfl rfl rfl rfl (st0 (d_mv rfl rfl)) ?_
       refine r0' rfl rfl rfl rfl (st0 (d_mv rfl rfl)) ?_
       refine r0' rfl rfl rfl rfl (st0 (d_mv rfl rfl)) ?_
       refine r0' rfl rfl rfl rfl (st0 (d_add rfl rfl rfl ⟨by omega, by omega⟩)) ?_
       refine r0' rfl rfl rfl rfl (st0 (d_ixa (ii := 82) (i := jj - 1 + k) rfl rfl rfl rfl (rd_osl pU) Tryz.underlying127 Tryz.sizeOf137 (by omega) (by omega))) ?_
       refine r0' rfl rfl rfl rfl (st0 (d_lde (ii := 82) 0 rfl rfl rfl (rd_osl pU) pU (by first | omega | (simp only [List.length_set]; omega)))) ?_
       refine r0' rfl rfl rfl rfl (st0 (d_mv rfl rfl)) ?_
       refine r0' rfl rfl rfl rfl (st0 (d_mv rfl rfl)) ?_
       refine r0' rfl rfl rfl rfl (st0 (d_mv rfl rfl)) ?_
       refine r0' rfl rfl rfl rfl (st0 (d_add rfl rfl rfl ⟨by omega, by omega⟩)) ?_
       refine r0' rfl rfl rfl rfl (st0 (d_sub rfl rfl rfl ⟨by omega, by omega⟩)) ?_
       refine r0' rfl rfl rfl rfl (st0 (d_ixa (ii := 82) (i := jj - 1 + k - 1) rfl rfl rfl rfl (rd_osl pU) Tryz.underlying127 Tryz.sizeOf137 (by omega) (by omega))) ?_
       refine r0' rfl rfl rfl rfl (st0 (d_lde (ii := 82) 0 rfl rfl rfl (rd_osl pU) pU (by first | omega | (simp only [List.length_set]; omega)))) ?_
       refine r0' rfl rfl rfl rfl (st0 (d_mv rfl rfl)) ?_
       refine r0' rfl rfl rfl rfl (st0 (d_mv rfl rfl)) ?_
       refine r0' rfl rfl rfl rfl (st0 (d_sub rfl rfl rfl ⟨by omega, by omega⟩)) ?_
       refine r0' rfl rfl rfl rfl (st0 (d_ixa (ii := 81) (i := k - 1) rfl rfl rfl rfl rd_slp Tryz.underlying127 Tryz.sizeOf137 (by omega) (by omega))) ?_
       refine r0' rfl rfl rfl rfl (st0 (d_lde (ii := 81) 0 rfl rfl rfl rd_slp pU (by first | omega | (simp only [List.length_set]; omega)))) ?_
       refine r1' rfl rfl (t_call (n := 6) (bits_div _ _ _ (getD_lt U_pos hRa _) (getD_lt U_pos (dg_lt two_U _) _) (by omega)) rfl rfl rfl ⟨rfl, rfl, rfl, trivial⟩ Tryz.call160 pre_nil rfl hw) (fun _ _ => ?_)
       refine r0' rfl rfl rfl rfl (st0 (d_mv rfl rfl)) ?_
       refine r0' rfl rfl rfl rfl (st0 (d_ex rfl rfl rfl)) ?_
       refine r0' rfl rfl rfl rfl (st0 (d_ex rfl rfl rfl)) ?_
       refine r0' rfl rfl rfl rfl (st0 (d_as rfl rfl)) ?_
       refine r_end ?_
       exact x_jn _ ⟨guess_ge hDt (by omega) htop, dv_digit (getD_lt U_pos hRa _) (by omega)⟩ ⟨rfl, rfl, rfl, rfl, rfl, rfl, rfl, trivial⟩ ⟨rfl, rfl, rfl, rfl, rfl, rfl, rfl, trivial⟩
      ·refine e_skip ?_
       exact x_jn 18446744073709551615 ⟨hQU, by decide⟩ ⟨rfl, rfl, rfl, rfl, rfl, rfl, rfl, trivial⟩ ⟨rfl, rfl, rfl, rfl, rfl, rfl, rfl, trivial⟩
     ·rintro g ⟨hg, hgU⟩
      simp only [List.cons_append, List.nil_append]
      refine e_seq (e_reg (mv rfl rfl (mv rfl rfl (mv rfl rfl (mv rfl rfl (dt (d_add rfl rfl rfl ⟨by omega, by omega⟩) rfl ?_))))))
      refine dt (d_add rfl rfl rfl ⟨by omega, by omega⟩) rfl ?_
      refine dt (d_mid (ii := 82) (i := jj - 1) (j := jj - 1 + k + 1) rfl rfl rfl rfl rfl (rd_osl pU) Tryz.underlying127 Tryz.sizeOf137 (by omega) (by omega) (by omega) (by omega)) rfl ?_
      refine as_ rfl rfl (l_nil (x_then (e_seq (e_reg (mv rfl rfl (mv rfl rfl (tt (t_bsg (i := 7) (ivs := [(0, _)]) (enc := encU) [g] rfl rfl rfl ⟨rfl, rfl, trivial⟩ Tryz.underlying127 Tryz.ti137 rfl rfl rfl rfl rfl rfl pU.cells rfl rfl hw) rfl (fun v_9 _ => ?_))))))))
      refine tt (t_call (n := 7) (nat_trim_own _ _) rfl rfl rfl ⟨rfl, trivial⟩ Tryz.call108 (pre_lend 7 rfl rfl pU pre_nil) rfl hw) rfl (fun _ _ => ?_)
      refine l_imp (s_tz 7 rfl rfl pU) ?_
      refine l_imp (s_oeq 7 (tz_single hgU) rfl rfl) ?_
      refine tt (t_call (n := 83) (nat_mul _ _ _ _ (by omega) (Nat.le_trans ((bl_le 64 g).2 hgU) (by omega))) rfl rfl rfl ⟨rfl, rfl, trivial⟩ Tryz.call161 (pre_same 81 rfl rfl rfl (pre_lend 7 rfl rfl pU pre_nil)) rfl hw) rfl (fun v_10 _ => ?_)
      refine as_ rfl rfl (l_nil (x_then (e_seq (e_block (e_lp [(8, _), (9, _), (10, _), (11, _), (12, _), (13, _), (15, _)] [(0, _), (82, _), (6, _), (81, _), (1, _), (2, _), (5, _), (7, _)] (fun (q : Nat × Value) => [(14, .int .u64 (q.1 : Int)), (16, q.2)]) (fun (q : Nat × Value) => [(83, dgp q.2 (D * q.1))]) (fun (q : Nat × Value) => (val U R / U ^ (jj - 1) / D ≤ q.1) ∧ (q.1 < U)) (fun (q : Nat × Value) => q.1) (g, _) ⟨by first | omega | (dsimp only <;> omega), by first | omega | (dsimp only <;> omega)⟩ ⟨rfl, rfl, rfl, rfl, rfl, rfl, rfl, rfl, rfl, trivial⟩ ⟨rfl, rfl, rfl, rfl, rfl, rfl, rfl, rfl, rfl, trivial⟩ ?_)))))
      rintro ⟨g, vp⟩ ⟨hg, hgU⟩
      dsimp only at hg hgU
      simp only [List.cons_append, List.nil_append]
      have hPb : bl (D * g) ≤ 4294967296 := by have h1 := bl_mul D g; have h2 := (bl_le 64 g).2 hgU; omega
      refine e_seq (e_seq (e_reg (mv rfl rfl (tt (t_call (n := 7) (nat_trim_own _ _) rfl rfl rfl ⟨rfl, trivial⟩ Tryz.call108 (pre_lendw 82 rfl rfl pU (row_mid (jj - 1) (jj - 1 + k + 1) (by omega) (by omega)) (blk_mid _ _ _ _) pre_nil) rfl hw) rfl (fun _ _ => ?_)))))
      refine mv rfl rfl (tt (t_call (n := 7) (nat_compare _ _ _ _ hWb hPb) rfl rfl rfl ⟨rfl, rfl, trivial⟩ Tryz.call140 (pre_lendw 82 rfl rfl pU (row_tz hWz (by rw [hWz]) (row_mid (jj - 1) (jj - 1 + k + 1) (by omega) (by omega))) (by rw [ownBlock_preV]; exact (blk_mid _ _ _ _)) (pre_same 83 rfl rfl rfl pre_nil)) rfl hw) rfl (fun r_2 hr_2 => ?_))
      refine dt (d_lss rfl rfl rfl) rfl ?_
      refine l_nil (x_then (e_cond rfl (fun h187 => ?_) (fun h187 => ?_)))
      ·have hlt : val U R / U ^ (jj - 1) < D * g := hr_2.1.1 (by omega)
       have hg1 : 1 ≤ g := by rcases Nat.eq_zero_or_pos g with h | h; (rw [h, Nat.mul_zero] at hlt; exact absurd hlt (Nat.not_lt_zero _)); exact h
       have hDg : D ≤ D * g := Nat.le_mul_of_pos_right _ hg1
       have hQg : val U R / U ^ (jj - 1) / D ≤ g - 1 := by have := (Nat.div_lt_iff_lt_mul hD0).2 (show _ < g * D by rw [Nat.mul_comm]; exact hlt); omega
       refine e_skip ?_
       refine x_then (e_block (e_seq (e_reg (mv rfl rfl (dt (u_sub (n := 1) rfl rfl rfl (by decide)) rfl ?_)))))
       refine as_ rfl rfl (l_nil (x_then (e_imp (s_val 14 (v' := .int .u64 ((g - 1 : Nat) : Int)) rfl (u64_eq (dec_u hg1 hgU))) ?_)))
       refine e_reg (mv rfl rfl (mv rfl rfl (tt (t_call (n := 8) (nat_sub _ _ _ _ hPb hDg) rfl rfl rfl ⟨rfl, rfl, trivial⟩ Tryz.call141 (pre_same 83 rfl rfl rfl (pre_same 81 rfl rfl rfl pre_nil)) rfl hw) rfl (fun v_11 _ => ?_))))
       refine as_ rfl rfl (l_nil (x_bn ?_))
       refine x_imp (s_dup 8 83 rfl rfl rfl) ?_
       exact x_rnd (g - 1, _) ⟨hQg, by dsimp only; omega⟩ (by first | omega | (dsimp only <;> omega)) ⟨rfl, rfl, rfl, rfl, rfl, rfl, rfl, rfl, rfl, trivial⟩ ⟨by rw [Nat.mul_sub_one]; rfl, rfl, rfl, rfl, rfl, rfl, rfl, rfl, rfl, trivial⟩
      ·refine e_exit ?_
       refine x_exit (x_exit (x_be ?_))
       refine x_then (e_seq ?_)
       have hQ : g = val U R / U ^ (jj - 1) / D := by
        have h1 := hr_2.1
        have h2 : D * g ≤ val U R / U ^ (jj - 1) := by omega
        exact Nat.le_antisymm ((Nat.le_div_iff_mul_le hD0).2 (by rw [Nat.mul_comm]; exact h2)) hg
       refine e_reg (mv rfl rfl (tt (t_call (n := 8) (nat_trim_own _ _) rfl rfl rfl ⟨rfl, trivial⟩ Tryz.call108 (pre_lendw 82 rfl rfl pU (row_mid (jj - 1) (jj - 1 + k + 1) (by omega) (by omega)) (blk_mid _ _ _ _) pre_nil) rfl hw) rfl (fun _ _ => ?_)))
       refine mv rfl rfl (tt (t_call (n := 9) (nat_sub _ _ _ _ hWb (by omega)) rfl rfl rfl ⟨rfl, rfl, trivial⟩ Tryz.call141 (pre_lendw 82 rfl rfl pU (row_tz hWz (by rw [hWz]) (row_mid (jj - 1) (jj - 1 + k + 1) (by omega) (by omega))) (by rw [ownBlock_preV]; exact (blk_mid _ _ _ _)) (pre_same 83 rfl rfl rfl pre_nil)) rfl hw) rfl (fun v_12 _ => ?_))
       refine as_ rfl rfl (l_nil (x_then (e_seq ?_)))
       have hll : (dg U (val U R / U ^ (jj - 1) - D * g)).length ≤ jj - 1 + k + 1 - (jj - 1) := by
        have : val U R / U ^ (jj - 1) - D * g < D := by rw [hQ]; have h3 := Nat.div_add_mod (val U R / U ^ (jj - 1)) D; have h4 := Nat.mod_lt (val U R / U ^ (jj - 1)) hD0; omega
        have := (dg_length_le two_U k _).2 (Nat.lt_trans this hDk)
        omega
       refine e_reg (mv rfl rfl (tt (t_clr (zv := .bool false) (i := 82) (z := 0) (jj - 1) rfl rfl rfl rfl (by decide) (dst_mid _ _ _ (by omega)) (by omega) (by omega) Tryz.underlying127 pU (fun w => Tryz.zeroValue137 w) rfl rfl hw) rfl (fun _ _ => ?_)))
       refine l_nil (x_then (e_seq (e_reg (mv rfl rfl (mv rfl rfl (tt (t_cpy (i := 82) (j := 9) (jj - 1) rfl rfl rfl rfl rfl rfl (by decide) rfl rd_slp (dst_mid _ _ _ (by rw [length_spl _ _ _ (by rw [List.length_replicate]; omega)]; omega)) hll (by rw [length_spl _ _ _ (by rw [List.length_replicate]; omega)]; omega) (by rw [length_spl _ _ _ (by rw [List.length_replicate]; omega)]; omega) Tryz.underlying127 pU rfl hw) rfl (fun _ _ => ?_)))))))
       refine l_nil (x_then ?_)
       have hL1 : jj - 1 + (List.replicate (jj - 1 + k + 1 - (jj - 1)) 0).length ≤ R.length := by rw [List.length_replicate]; omega
       have hl1 := length_spl R (jj - 1) _ hL1
       have hL2 : jj - 1 + (dg U (val U R / U ^ (jj - 1) - D * g)).length ≤ (spl R (jj - 1) (List.replicate (jj - 1 + k + 1 - (jj - 1)) 0)).length := by omega
       have hval := val_win hRa (j := jj - 1) (n := jj - 1 + k + 1 - (jj - 1)) (by omega) (by rw [show jj - 1 + (jj - 1 + k + 1 - (jj - 1)) = jj - 1 + k + 1 by omega]; exact hW1) hll
       rw [val_dg two_U] at hval
       have hst := div_step (j := jj - 1) (N := x * 2 ^ b) (Vq := val U (q.drop jj)) hD0 hQ (by rw [show jj - 1 + 1 = jj by omega]; exact hN)
       have hV2 := hst.1
       have hN2 := hst.2
       rw [← hval] at hV2 hN2
       have hdq : val U ((q.set (jj - 1) g).drop (jj - 1)) = g + U * val U (q.drop jj) := by rw [drop_set _ _ _ (by omega), show jj - 1 + 1 = jj by omega]; rfl
       rw [← hdq] at hN2
       refine e_reg (mv rfl rfl (mv rfl rfl (mv rfl rfl (dt (d_ixa (ii := 6) (i := jj - 1) rfl rfl rfl rfl (rd_osl pU) Tryz.underlying127 Tryz.sizeOf137 (by omega) (by omega)) rfl ?_))))
       refine tt (t_ste (i := 6) (enc := encU) _ rfl rfl rfl rfl rfl rfl (by decide) pU (by first | omega | (simp only [List.length_set]; omega)) rfl hw) rfl (fun _ _ => ?_)
       refine l_nil (x_bn ?_)
       refine x_then (e_reg (mv rfl rfl (dt (d_sub rfl rfl rfl ⟨by omega, by omega⟩) rfl ?_)))
       refine as_ rfl rfl (l_nil ?_)
       exact x_rnd (jj - 1, _, _) ⟨by first | omega | (dsimp only <;> omega), (length_spl _ _ _ hL2).trans (hl1.trans hRl), all_spl (all_spl hRa (all_replicate _ U_pos) _) (dg_lt two_U _) _, by simp; omega, all_set hqa _ _ hgU, hV2, hN2⟩ (by first | omega | (dsimp only <;> omega)) ⟨by rw [show (((jj - 1 : Nat) : Int) - 1) = (jj : Int) - 1 - 1 by omega]; rfl, rfl, rfl, rfl, rfl, rfl, trivial⟩ ⟨rfl, rfl, rfl, rfl, rfl, rfl, rfl, trivial⟩
    ·refine e_exit ?_
     refine x_exit (x_exit (x_be ?_))
     refine x_then (e_seq ?_)
     obtain rfl : jj = 0 := by omega
     rw [Nat.pow_zero, Nat.mul_one] at hV
     have hVb : bl (val U R) ≤ 8589934592 := by have := bl_mono (Nat.le_of_lt hV); omega
     refine e_reg (mv rfl rfl (tt (t_call (n := 9) (nat_trim_own _ _) rfl rfl rfl ⟨rfl, trivial⟩ Tryz.call108 (pre_lend 6 rfl rfl pU pre_nil) rfl hw) rfl (fun _ _ => ?_)))
     refine l_imp (s_tz 6 rfl rfl pU) ?_
     refine mv rfl rfl (tt (t_call (n := 9) (nat_trim_own _ _) rfl rfl rfl ⟨rfl, trivial⟩ Tryz.call108 (pre_lend 82 rfl rfl pU pre_nil) rfl hw) rfl (fun _ _ => ?_))
     refine l_imp (s_tz 82 rfl rfl pU) ?_
     refine l_imp (s_oeq 82 (dg_val two_U R hRa).symm rfl rfl) ?_
     refine mv rfl rfl (tt (t_call (n := 10) (nat_shr _ _ _ hVb (by omega)) rfl rfl rfl ⟨rfl, rfl, trivial⟩ Tryz.call162 (pre_lend 82 rfl rfl pU pre_nil) rfl hw) rfl (fun v_13 _ => ?_))
     refine as_ rfl rfl (as_ rfl rfl (l_nil (x_then (e_ret ?_))))
     rw [List.drop_zero, Nat.pow_zero, Nat.mul_one] at hN
     have hqq : tz q = dg U (x / y) := by
      rw [← dg_val two_U _ hqa, ← shift_div x y b, ← hDe, ← hN, Nat.mul_comm, Nat.mul_add_div hD0, Nat.div_eq_of_lt hV, Nat.add_zero]
     have hrr : val U R / 2 ^ b = x % y := by
      rw [← shift_mod x y b, ← hDe, ← hN, Nat.mul_comm, Nat.mul_add_mod, Nat.mod_eq_of_lt hV]
     exact x_end (.inl rfl) hsc (_, _) _ (fun a w hs => res2 hs Tryz.results142 rfl rfl) rfl trivial rfl (give_owne 6 rfl rfl pU hqq (give_samee 10 rfl rfl rfl (by rw [hrr]) give_nil))
theorem nat_gcd (v w : Value) (x y : Nat) (hx : bl x ≤ 4000000000) (hy : bl y ≤ 4000000000) : Cal Tryz.prog 152 #[v, w] [dgp v x, dgp w y] true (G := Value) (fun r => True) (fun r => r) (fun r => [dgp r (Nat.gcd x y)]) := by
 refine cal_in Tryz.func152 rfl Tryz.ntmps152 rfl ⟨rfl, rfl, trivial⟩ ?_
 intro w0 sc hw hsc
 simp only [enumEnv, enumPre]
 have hX := lenU_bl x
 have hY := lenU_bl y
 refine e_seq (e_reg (as_ rfl rfl (l_nil (x_then (e_seq (e_block (e_imp (s_dup 1 91 rfl rfl rfl) ?_)))))))
 refine e_imp (s_dup 2 92 rfl rfl rfl) ?_
 refine e_lp [] [(0, _), (1, _), (2, _)] (fun (q : Value × Value × Nat × Nat) => [(0, q.1), (1, q.2.1)]) (fun (q : Value × Value × Nat × Nat) => [(91, dgp q.1 q.2.2.1), (92, dgp q.2.1 q.2.2.2)]) (fun (q : Value × Value × Nat × Nat) => (Nat.gcd q.2.2.1 q.2.2.2 = Nat.gcd x y) ∧ (bl q.2.2.1 ≤ 4000000000) ∧ (bl q.2.2.2 ≤ 4000000000)) (fun (q : Value × Value × Nat × Nat) => q.2.2.2) (v, w, x, y) ⟨rfl, hx, hy⟩ ⟨rfl, rfl, trivial⟩ ⟨rfl, rfl, rfl, rfl, rfl, trivial⟩ ?_
 rintro ⟨va, vb, a, b⟩ ⟨hg, ha, hb⟩
 dsimp only at hg ha hb
 simp only [List.cons_append, List.nil_append]
 refine e_seq (e_seq (e_reg (mv rfl rfl (dt (d_len rfl rfl (i := 92) rfl rd_slp Tryz.underlying127) rfl ?_))))
 refine dt (d_gtr rfl rfl rfl) rfl ?_
 refine l_nil (x_then (e_cond rfl (fun h201 => ?_) (fun h201 => ?_)))
 ·have hb0 : 0 < b := by rcases Nat.eq_zero_or_pos b with h | h; (subst h; simp [dg_zero] at h201); exact h
  refine e_skip ?_
  refine x_then (e_block (e_seq (e_reg (mv rfl rfl (mv rfl rfl (tt (t_call (n := 3) (nat_div _ _ _ _ ha hb hb0) rfl rfl rfl ⟨rfl, rfl, trivial⟩ Tryz.call142 (pre_same 91 rfl rfl rfl (pre_same 92 rfl rfl rfl pre_nil)) rfl hw) rfl (fun g _ => ?_)))))))
  refine mv rfl rfl (dt (d_ex rfl rfl rfl) rfl ?_)
  refine dt (d_ex rfl rfl rfl) rfl ?_
  refine as_ rfl rfl (as_ rfl rfl (l_nil (x_then (e_reg (mv rfl rfl (mv rfl rfl (as_ rfl rfl (as_ rfl rfl (l_nil (x_bn ?_))))))))))
  have hlt : a % b < b := Nat.mod_lt _ hb0
  refine x_imp (s_dup 92 91 rfl rfl rfl) ?_
  refine x_imp (s_dup 4 92 rfl rfl rfl) ?_
  exact x_rnd (_, _, b, a % b) ⟨by dsimp only; rw [← hg, Nat.gcd_comm b, ← Nat.gcd_rec, Nat.gcd_comm], hb, Nat.le_trans (bl_mono (Nat.le_of_lt hlt)) hb⟩ hlt ⟨rfl, rfl, trivial⟩ ⟨rfl, rfl, rfl, rfl, rfl, trivial⟩
 ·have hb0 : b = 0 := (dg_nil_iff two_U b).1 (by omega)
  refine e_exit ?_
  refine x_exit (x_exit (x_be ?_))
  refine x_then (e_seq (e_reg (mv rfl rfl (as_ rfl rfl (l_nil (x_then (e_ret ?_)))))))
  exact x_end (.inl rfl) hsc _ _ (fun a w hs => res1 hs Tryz.results152 rfl) rfl trivial rfl (give_samee 91 rfl rfl rfl (by rw [← hg, hb0, Nat.gcd_zero_right]) give_nil)
end Go.Sky
namespace Go.Sky
open Go.Proofs
set_option maxRecDepth 20000
set_option maxHeartbeats 4000000
set_option linter.unusedVariables false
set_option linter.unusedSimpArgs false
theorem num_neg (s : Bool) (v : Value) (x : Int) (hs : sg s x) : Cal Tryz.prog 104 #[.agg #[.bool s, v]] [dgp v x.natAbs] true (G := Bool × Value) (fun r => sg r.1 (-x)) (fun r => .agg #[.bool r.1, r.2]) (fun r => [dgp r.2 (-x).natAbs]) := by
 refine cal_in Tryz.func104 rfl Tryz.ntmps104 rfl ⟨rfl, trivial⟩ ?_
 intro w0 sc hw hsc
 simp only [enumEnv, enumPre]
 refine e_seq (e_reg (tt (t_box (i := 2) rfl rfl rfl rfl rfl rfl hw) rfl (fun b _ => ?_)))
 refine tt (t_alloc (i := 3) rfl rfl rfl Tryz.zeroValue129 rfl rfl hw) rfl (fun b_2 _ => ?_)
 refine l_nil (x_then (e_seq (e_reg (dt (d_fa rfl rfl Tryz.underlying129 rfl Tryz.sizeOf4 rfl rfl) rfl ?_))))
 refine dt (d_lb (i := 2) rfl rfl rfl Tryz.isAgg4 rfl) rfl ?_
 refine dt (d_notb rfl rfl) rfl ?_
 refine dt (d_fa rfl rfl Tryz.underlying129 rfl Tryz.sizeOf127 rfl rfl) rfl ?_
 refine dt (d_lb (i := 2) rfl rfl rfl Tryz.isAgg127 rfl) rfl ?_
 refine dt (d_bld (ivs := [(0, _), (1, _)]) rfl ⟨rfl, rfl, rfl, rfl, trivial⟩ (fun a w hs => b129_01 ((one_rfl rfl) a w hs) ((one_rd (i := 1) rfl rd_slp) a w hs))) rfl ?_
 refine tt (t_stw (i := 3) rfl rfl rfl rfl rfl (by decide) rfl Tryz.sizeOf129 rfl rfl ⟨(one_rfl rfl), (one_rd (i := 1) rfl rd_slp), trivial⟩ rfl hw trivial) rfl (fun _ _ => ?_)
 refine l_nil (x_then (e_ret ?_))
 exact x_end (.inl rfl) hsc (!s, v) _ (fun a w hs => res1 hs Tryz.results104 (rv_cell (i := 3) rfl rfl Tryz.isAgg129 Tryz.sizeOf129 rfl)) rfl (sg_neg hs) rfl (give_samee 1 rfl rfl rfl (by rw [Int.natAbs_neg]) give_nil)
theorem num_mul (s t : Bool) (v w : Value) (x y : Int) (hs : sg s x) (ht : sg t y) (hx : bl x.natAbs ≤ 4294967296) (hy : bl y.natAbs ≤ 4294967296) : Cal Tryz.prog 151 #[.agg #[.bool s, v], .agg #[.bool t, w]] [dgp v x.natAbs, dgp w y.natAbs] true (G := Bool × Value) (fun r => sg r.1 (x * y)) (fun r => .agg #[.bool r.1, r.2]) (fun r => [dgp r.2 (x * y).natAbs]) := by
 refine cal_in Tryz.func151 rfl Tryz.ntmps151 rfl ⟨rfl, rfl, trivial⟩ ?_
 intro w0 sc hw hsc
 simp only [enumEnv, enumPre]
 refine e_seq (e_reg (tt (t_box (i := 3) rfl rfl rfl rfl rfl rfl hw) rfl (fun b _ => ?_)))
 refine tt (t_box (i := 4) rfl rfl rfl rfl rfl rfl hw) rfl (fun b_2 _ => ?_)
 refine tt (t_alloc (i := 5) rfl rfl rfl Tryz.zeroValue129 rfl rfl hw) rfl (fun b_3 _ => ?_)
 refine l_nil (x_then (e_seq (e_dreg (fun _ => False) [(0, 0), (1, 0), (2, 0), (3, 0), (4, 0), (5, 0), (6, 0), (7, 0), (8, 0), (9, 1), (10, 0), (11, 3)] (by kernel_rfl) ?_ ?_)))
 ·kernel_rfl
 refine r0' rfl rfl rfl rfl (st0 (d_fa rfl rfl Tryz.underlying129 rfl Tryz.sizeOf4 rfl rfl)) ?_
 refine r0' rfl rfl rfl rfl (st0 (d_lb (i := 3) rfl rfl rfl Tryz.isAgg4 rfl)) ?_
 refine r0' rfl rfl rfl rfl (st0 (d_fa rfl rfl Tryz.underlying129 rfl Tryz.sizeOf4 rfl rfl)) ?_
 refine r0' rfl rfl rfl rfl (st0 (d_lb (i := 4) rfl rfl rfl Tryz.isAgg4 rfl)) ?_
 refine r0' rfl rfl rfl rfl (st0 (d_neb rfl rfl rfl Tryz.underlying4)) ?_
 refine r0' rfl rfl rfl rfl (st0 (d_fa rfl rfl Tryz.underlying129 rfl Tryz.sizeOf127 rfl rfl)) ?_
 refine r0' rfl rfl rfl rfl (st0 (d_lb (i := 3) rfl rfl rfl Tryz.isAgg127 rfl)) ?_
 refine r0' rfl rfl rfl rfl (st0 (d_fa rfl rfl Tryz.underlying129 rfl Tryz.sizeOf127 rfl rfl)) ?_
 refine r0' rfl rfl rfl rfl (st0 (d_lb (i := 4) rfl rfl rfl Tryz.isAgg127 rfl)) ?_
 refine r1' rfl rfl (t_call (n := 6) (nat_mul _ _ _ _ hx hy) rfl rfl rfl ⟨rfl, rfl, trivial⟩ Tryz.call161 (pre_same 1 rfl rfl rfl (pre_same 2 rfl rfl rfl pre_nil)) rfl hw) (fun v _ => ?_)
 refine r0' rfl rfl rfl rfl (st0 (d_bld (ivs := [(0, _), (1, _)]) rfl ⟨rfl, rfl, rfl, rfl, trivial⟩ (fun a w hs => b129_01 ((one_rfl rfl) a w hs) ((one_rd (i := 6) rfl rd_slp) a w hs)))) ?_
 refine r3' rfl rfl (t_stw (i := 5) rfl rfl rfl rfl rfl (by decide) rfl Tryz.sizeOf129 rfl rfl ⟨(one_rfl rfl), (one_rd (i := 6) rfl rd_slp), trivial⟩ rfl hw trivial) (fun _ _ => ?_)
 refine r_end ?_
 refine x_then (e_ret ?_)
 exact x_end (.inl rfl) hsc (_, _) _ (fun a w hs => res1 hs Tryz.results151 (rv_cell (i := 5) rfl rfl Tryz.isAgg129 Tryz.sizeOf129 rfl)) rfl (sg_mul hs ht) rfl (give_samee 6 rfl rfl rfl (by rw [Int.natAbs_mul]) give_nil)
theorem num_sign (s : Bool) (v : Value) (x : Int) (hs : sg s x) (hx : bl x.natAbs ≤ 4294967296) : Cal Tryz.prog 105 #[.agg #[.bool s, v]] [dgp v x.natAbs] true (G := Unit) (fun _ => True) (fun _ => .int .i64 x.sign) (fun _ => []) := by
 refine cal_in Tryz.func105 rfl Tryz.ntmps105 rfl ⟨rfl, trivial⟩ ?_
 intro w0 sc hw hsc
 simp only [enumEnv, enumPre]
 have hX := lenU_bl x.natAbs
 refine e_seq (e_reg (tt (t_box (i := 2) rfl rfl rfl rfl rfl rfl hw) rfl (fun b _ => ?_)))
 refine as_ rfl rfl (l_nil (x_then (e_seq (e_block (e_seq (e_reg (dt (d_fa rfl rfl Tryz.underlying129 rfl Tryz.sizeOf127 rfl rfl) rfl ?_)))))))
 refine dt (d_lb (i := 2) rfl rfl rfl Tryz.isAgg127 rfl) rfl ?_
 refine dt (d_len rfl rfl (i := 1) rfl rd_slp Tryz.underlying127) rfl ?_
 refine dt (d_eql rfl rfl rfl) rfl ?_
 refine as_ rfl rfl (l_nil (x_then (e_cond rfl (fun h245 => ?_) (fun h245 => ?_))))
 ·refine e_seq (e_reg (as_ rfl rfl (l_nil (x_then (e_ret (x_br ?_))))))
  refine x_ret ?_
  exact x_end (.inl rfl) hsc () _ (fun a w hs => res1 hs Tryz.results105 rfl) (sign_zero h245) trivial rfl give_nil
 ·refine e_seq (e_reg (dt (d_fa rfl rfl Tryz.underlying129 rfl Tryz.sizeOf4 rfl rfl) rfl ?_))
  refine dt (d_lb (i := 2) rfl rfl rfl Tryz.isAgg4 rfl) rfl ?_
  refine as_ rfl rfl (l_nil (x_then (e_condb rfl (fun h247 => ?_) (fun h247 => ?_))))
  ·refine e_seq (e_reg (as_ rfl rfl (l_nil (x_then (e_ret (x_br ?_))))))
   refine x_ret ?_
   exact x_end (.inl rfl) hsc () _ (fun a w hs => res1 hs Tryz.results105 rfl) (sign_neg hs h247 h245) trivial rfl give_nil
  ·refine e_skip ?_
   refine x_bn ?_
   refine x_then (e_seq (e_reg (as_ rfl rfl (l_nil (x_then (e_ret ?_))))))
   exact x_end (.inl rfl) hsc () _ (fun a w hs => res1 hs Tryz.results105 rfl) (sign_pos hs h247 h245) trivial rfl give_nil
theorem num_add (s t : Bool) (v w : Value) (x y : Int) (hs : sg s x) (ht : sg t y) (hx : bl x.natAbs ≤ 4294967296) (hy : bl y.natAbs ≤ 4294967296) : Cal Tryz.prog 103 #[.agg #[.bool s, v], .agg #[.bool t, w]] [dgp v x.natAbs, dgp w y.natAbs] true (G := Bool × Value) (fun r => sg r.1 (x + y)) (fun r => .agg #[.bool r.1, r.2]) (fun r => [dgp r.2 (x + y).natAbs]) := by
 refine cal_in Tryz.func103 rfl Tryz.ntmps103 rfl ⟨rfl, rfl, trivial⟩ ?_
 intro w0 sc hw hsc
 simp only [enumEnv, enumPre]
 refine e_seq (e_reg (tt (t_box (i := 3) rfl rfl rfl rfl rfl rfl hw) rfl (fun b _ => ?_)))
 refine tt (t_box (i := 4) rfl rfl rfl rfl rfl rfl hw) rfl (fun b_2 _ => ?_)
 refine tt (t_alloc (i := 5) rfl rfl rfl Tryz.zeroValue129 rfl rfl hw) rfl (fun b_3 _ => ?_)
 refine l_nil (x_then (e_seq (e_block (e_seq (e_reg (dt (d_fa rfl rfl Tryz.underlying129 rfl Tryz.sizeOf4 rfl rfl) rfl ?_))))))
 refine dt (d_lb (i := 3) rfl rfl rfl Tryz.isAgg4 rfl) rfl ?_
 refine dt (d_fa rfl rfl Tryz.underlying129 rfl Tryz.sizeOf4 rfl rfl) rfl ?_
 refine dt (d_lb (i := 4) rfl rfl rfl Tryz.isAgg4 rfl) rfl ?_
 refine dt (d_eqb rfl rfl rfl Tryz.underlying4) rfl ?_
 refine as_ rfl rfl (l_nil (x_then (e_condb rfl (fun h231 => ?_) (fun h231 => ?_))))
 ·have hst : s = t := by simpa using h231
  refine e_seq (e_dreg (fun _ => False) [(0, 0), (1, 0), (2, 0), (3, 0), (4, 0), (5, 0), (6, 1), (7, 0), (8, 3)] (by kernel_rfl) ?_ ?_)
  ·kernel_rfl
  refine r0' rfl rfl rfl rfl (st0 (d_fa rfl rfl Tryz.underlying129 rfl Tryz.sizeOf4 rfl rfl)) ?_
  refine r0' rfl rfl rfl rfl (st0 (d_lb (i := 3) rfl rfl rfl Tryz.isAgg4 rfl)) ?_
  refine r0' rfl rfl rfl rfl (st0 (d_fa rfl rfl Tryz.underlying129 rfl Tryz.sizeOf127 rfl rfl)) ?_
  refine r0' rfl rfl rfl rfl (st0 (d_lb (i := 3) rfl rfl rfl Tryz.isAgg127 rfl)) ?_
  refine r0' rfl rfl rfl rfl (st0 (d_fa rfl rfl Tryz.underlying129 rfl Tryz.sizeOf127 rfl rfl)) ?_
  refine r0' rfl rfl rfl rfl (st0 (d_lb (i := 4) rfl rfl rfl Tryz.isAgg127 rfl)) ?_
  refine r1' rfl rfl (t_call (n := 6) (nat_add _ _ _ _ hx hy) rfl rfl rfl ⟨rfl, rfl, trivial⟩ Tryz.call139 (pre_same 1 rfl rfl rfl (pre_same 2 rfl rfl rfl pre_nil)) rfl hw) (fun v _ => ?_)
  refine r0' rfl rfl rfl rfl (st0 (d_bld (ivs := [(0, _), (1, _)]) rfl ⟨rfl, rfl, rfl, rfl, trivial⟩ (fun a w hs => b129_01 ((one_rfl rfl) a w hs) ((one_rd (i := 6) rfl rd_slp) a w hs)))) ?_
  refine r3' rfl rfl (t_stw (i := 5) rfl rfl rfl rfl rfl (by decide) rfl Tryz.sizeOf129 rfl rfl ⟨(one_rfl rfl), (one_rd (i := 6) rfl rd_slp), trivial⟩ rfl hw trivial) (fun _ _ => ?_)
  refine r_end ?_
  refine x_then (e_ret (x_br ?_))
  refine x_ret ?_
  exact x_end (.inl rfl) hsc (_, _) _ (fun a w hs => res1 hs Tryz.results103 (rv_cell (i := 5) rfl rfl Tryz.isAgg129 Tryz.sizeOf129 rfl)) rfl (sg_add1 hs (hst ▸ ht)) rfl (give_samee 6 rfl rfl rfl (by rw [abs_add1 hs (hst ▸ ht)]) give_nil)
 ·have hst : s ≠ t := by simpa using h231
  refine e_seq (e_reg (dt (d_fa rfl rfl Tryz.underlying129 rfl Tryz.sizeOf127 rfl rfl) rfl ?_))
  refine dt (d_lb (i := 3) rfl rfl rfl Tryz.isAgg127 rfl) rfl ?_
  refine dt (d_fa rfl rfl Tryz.underlying129 rfl Tryz.sizeOf127 rfl rfl) rfl ?_
  refine dt (d_lb (i := 4) rfl rfl rfl Tryz.isAgg127 rfl) rfl ?_
  refine tt (t_call (n := 6) (nat_compare _ _ _ _ hx hy) rfl rfl rfl ⟨rfl, rfl, trivial⟩ Tryz.call140 (pre_same 1 rfl rfl rfl (pre_same 2 rfl rfl rfl pre_nil)) rfl hw) rfl (fun r hr => ?_)
  refine dt (d_geq rfl rfl rfl) rfl ?_
  refine as_ rfl rfl (l_nil (x_then (e_cond rfl (fun h233 => ?_) (fun h233 => ?_))))
  ·have hge : y.natAbs ≤ x.natAbs := by have := hr.1; omega
   refine e_seq (e_dreg (fun _ => False) [(0, 0), (1, 0), (2, 0), (3, 0), (4, 0), (5, 0), (6, 1), (7, 0), (8, 3)] (by kernel_rfl) ?_ ?_)
   ·kernel_rfl
   refine r0' rfl rfl rfl rfl (st0 (d_fa rfl rfl Tryz.underlying129 rfl Tryz.sizeOf4 rfl rfl)) ?_
   refine r0' rfl rfl rfl rfl (st0 (d_lb (i := 3) rfl rfl rfl Tryz.isAgg4 rfl)) ?_
   refine r0' rfl rfl rfl rfl (st0 (d_fa rfl rfl Tryz.underlying129 rfl Tryz.sizeOf127 rfl rfl)) ?_
   refine r0' rfl rfl rfl rfl (st0 (d_lb (i := 3) rfl rfl rfl Tryz.isAgg127 rfl)) ?_
   refine r0' rfl rfl rfl rfl (st0 (d_fa rfl rfl Tryz.underlying129 rfl Tryz.sizeOf127 rfl rfl)) ?_
   refine r0' rfl rfl rfl rfl (st0 (d_lb (i := 4) rfl rfl rfl Tryz.isAgg127 rfl)) ?_
   refine r1' rfl rfl (t_call (n := 7) (nat_sub _ _ _ _ hx (by omega)) rfl rfl rfl ⟨rfl, rfl, trivial⟩ Tryz.call141 (pre_same 1 rfl rfl rfl (pre_same 2 rfl rfl rfl pre_nil)) rfl hw) (fun v_2 _ => ?_)
   refine r0' rfl rfl rfl rfl (st0 (d_bld (ivs := [(0, _), (1, _)]) rfl ⟨rfl, rfl, rfl, rfl, trivial⟩ (fun a w hs => b129_01 ((one_rfl rfl) a w hs) ((one_rd (i := 7) rfl rd_slp) a w hs)))) ?_
   refine r3' rfl rfl (t_stw (i := 5) rfl rfl rfl rfl rfl (by decide) rfl Tryz.sizeOf129 rfl rfl ⟨(one_rfl rfl), (one_rd (i := 7) rfl rd_slp), trivial⟩ rfl hw trivial) (fun _ _ => ?_)
   refine r_end ?_
   refine x_then (e_ret (x_br ?_))
   refine x_ret ?_
   exact x_end (.inl rfl) hsc (_, _) _ (fun a w hs => res1 hs Tryz.results103 (rv_cell (i := 5) rfl rfl Tryz.isAgg129 Tryz.sizeOf129 rfl)) rfl (sg_add2 hs ht hst hge) rfl (give_samee 7 rfl rfl rfl (by rw [abs_add2 hs ht hst hge]) give_nil)
  ·have hge : x.natAbs ≤ y.natAbs := by have := hr.1; omega
   refine e_skip ?_
   refine x_bn ?_
   refine x_then (e_seq (e_dreg (fun _ => False) [(0, 0), (1, 0), (2, 0), (3, 0), (4, 0), (5, 0), (6, 1), (7, 0), (8, 3)] (by kernel_rfl) ?_ ?_))
   ·kernel_rfl
   refine r0' rfl rfl rfl rfl (st0 (d_fa rfl rfl Tryz.underlying129 rfl Tryz.sizeOf4 rfl rfl)) ?_
   refine r0' rfl rfl rfl rfl (st0 (d_lb (i := 4) rfl rfl rfl Tryz.isAgg4 rfl)) ?_
   refine r0' rfl rfl rfl rfl (st0 (d_fa rfl rfl Tryz.underlying129 rfl Tryz.sizeOf127 rfl rfl)) ?_
   refine r0' rfl rfl rfl rfl (st0 (d_lb (i := 4) rfl rfl rfl Tryz.isAgg127 rfl)) ?_
   refine r0' rfl rfl rfl rfl (st0 (d_fa rfl rfl Tryz.underlying129 rfl Tryz.sizeOf127 rfl rfl)) ?_
   refine r0' rfl rfl rfl rfl (st0 (d_lb (i := 3) rfl rfl rfl Tryz.isAgg127 rfl)) ?_
   refine r1' rfl rfl (t_call (n := 8) (nat_sub _ _ _ _ hy (by omega)) rfl rfl rfl ⟨rfl, rfl, trivial⟩ Tryz.call141 (pre_same 2 rfl rfl rfl (pre_same 1 rfl rfl rfl pre_nil)) rfl hw) (fun v_3 _ => ?_)
   refine r0' rfl rfl rfl rfl (st0 (d_bld (ivs := [(0, _), (1, _)]) rfl ⟨rfl, rfl, rfl, rfl, trivial⟩ (fun a w hs => b129_01 ((one_rfl rfl) a w hs) ((one_rd (i := 8) rfl rd_slp) a w hs)))) ?_
   refine r3' rfl rfl (t_stw (i := 5) rfl rfl rfl rfl rfl (by decide) rfl Tryz.sizeOf129 rfl rfl ⟨(one_rfl rfl), (one_rd (i := 8) rfl rd_slp), trivial⟩ rfl hw trivial) (fun _ _ => ?_)
   refine r_end ?_
   refine x_then (e_ret ?_)
   exact x_end (.inl rfl) hsc (_, _) _ (fun a w hs => res1 hs Tryz.results103 (rv_cell (i := 5) rfl rfl Tryz.isAgg129 Tryz.sizeOf129 rfl)) rfl (by rw [Int.add_comm]; exact sg_add2 ht hs (Ne.symm hst) hge) rfl (give_samee 8 rfl rfl rfl (by rw [Int.add_comm, abs_add2 ht hs (Ne.symm hst) hge]) give_nil)
theorem wide_of (s : Bool) (x : Int) (hs : sg s x) (hx : bl x.natAbs ≤ 4294967296) : Cal Tryz.prog 102 #[.agg #[.bool s, .string (bstr x.natAbs)]] [] true (G := Bool × Value) (fun r => sg r.1 x) (fun r => .agg #[.bool r.1, r.2]) (fun r => [dgp r.2 x.natAbs]) := by
 refine cal_in Tryz.func102 rfl Tryz.ntmps102 rfl trivial ?_
 intro w0 sc hw hsc
 simp only [enumEnv, enumPre]
 refine e_seq (e_reg (tt (t_box (i := 1) rfl rfl rfl rfl rfl rfl hw) rfl (fun b _ => ?_)))
 refine tt (t_alloc (i := 2) rfl rfl rfl Tryz.zeroValue129 rfl rfl hw) rfl (fun b_2 _ => ?_)
 refine l_nil (x_then (e_seq (e_dreg (fun _ => False) [(0, 0), (1, 0), (2, 0), (3, 0), (4, 1), (5, 0), (6, 3)] (by kernel_rfl) ?_ ?_)))
 ·kernel_rfl
 refine r0' rfl rfl rfl rfl (st0 (d_fa rfl rfl Tryz.underlying28 rfl Tryz.sizeOf4 rfl rfl)) ?_
 refine r0' rfl rfl rfl rfl (st0 (d_lb (i := 1) rfl rfl rfl Tryz.isAgg4 rfl)) ?_
 refine r0' rfl rfl rfl rfl (st0 (d_fa rfl rfl Tryz.underlying28 rfl Tryz.sizeOf9 rfl rfl)) ?_
 refine r0' rfl rfl rfl rfl (st0 (d_lb (i := 1) rfl rfl rfl Tryz.isAgg9 rfl)) ?_
 refine r1' rfl rfl (t_call (n := 3) (wide_load _ hx) rfl rfl rfl ⟨rfl, trivial⟩ Tryz.call135 pre_nil rfl hw) (fun v _ => ?_)
 refine r0' rfl rfl rfl rfl (st0 (d_bld (ivs := [(0, _), (1, _)]) rfl ⟨rfl, rfl, rfl, rfl, trivial⟩ (fun a w hs => b129_01 ((one_rfl rfl) a w hs) ((one_rd (i := 3) rfl rd_slp) a w hs)))) ?_
 refine r3' rfl rfl (t_stw (i := 2) rfl rfl rfl rfl rfl (by decide) rfl Tryz.sizeOf129 rfl rfl ⟨(one_rfl rfl), (one_rd (i := 3) rfl rd_slp), trivial⟩ rfl hw trivial) (fun _ _ => ?_)
 refine r_end ?_
 refine x_then (e_ret ?_)
 exact x_end (.inl rfl) hsc (_, _) _ (fun a w hs => res1 hs Tryz.results102 (rv_cell (i := 2) rfl rfl Tryz.isAgg129 Tryz.sizeOf129 rfl)) rfl hs rfl (give_samee 3 rfl rfl rfl rfl give_nil)
theorem num_wide (s : Bool) (v : Value) (x : Int) (hs : sg s x) (hx : bl x.natAbs ≤ 4294967296) : Cal Tryz.prog 107 #[.agg #[.bool s, v]] [dgp v x.natAbs] false (G := Unit) (fun _ => True) (fun _ => wideV x) (fun _ => []) := by
 refine cal_in Tryz.func107 rfl Tryz.ntmps107 rfl ⟨rfl, trivial⟩ ?_
 intro w0 sc hw hsc
 simp only [enumEnv, enumPre]
 refine e_seq (e_reg (tt (t_box (i := 2) rfl rfl rfl rfl rfl rfl hw) rfl (fun b _ => ?_)))
 refine tt (t_alloc (i := 3) rfl rfl rfl Tryz.zeroValue28 rfl rfl hw) rfl (fun b_2 _ => ?_)
 refine as_ rfl rfl (l_nil (x_then (e_seq (e_seq (e_reg (dt (d_fa rfl rfl Tryz.underlying129 rfl Tryz.sizeOf127 rfl rfl) rfl ?_))))))
 refine dt (d_lb (i := 2) rfl rfl rfl Tryz.isAgg127 rfl) rfl ?_
 refine tt (t_call (n := 3) (nat_size _ _ (by omega)) rfl rfl rfl ⟨rfl, trivial⟩ Tryz.call136 (pre_same 1 rfl rfl rfl pre_nil) rfl hw) rfl (fun _ _ => ?_)
 refine dt (d_gtr rfl rfl rfl) rfl ?_
 refine l_nil (x_then (e_cond rfl (fun h219 => ?_) (fun h219 => ?_)))
 ·refine e_seq (e_reg (dt (d_bld (ivs := []) rfl trivial (fun a w hs => b28_)) rfl ?_))
  refine tt (t_stw (i := 3) rfl rfl rfl rfl rfl (by decide) rfl Tryz.sizeOf28 rfl rfl ⟨(one_rfl rfl), (one_rfl rfl), trivial⟩ rfl hw trivial) rfl (fun _ _ => ?_)
  refine as_ rfl rfl (l_nil (x_then (e_ret (x_ret ?_))))
  exact x_end (.inl rfl) hsc () _ (fun a w hs => res2 hs Tryz.results107 (rv_cell (i := 3) rfl rfl Tryz.isAgg28 Tryz.sizeOf28 rfl) rfl) (wide_full h219) trivial rfl give_nil
 ·refine e_skip ?_
  refine x_then (e_seq ?_)
  cases s
  ·refine e_dreg (fun _ => False) [(0, 0), (1, 0), (2, 0), (3, 2), (4, 2), (5, 2), (6, 2), (7, 0), (8, 0), (9, 0), (10, 1), (11, 0), (12, 3), (13, 3)] (by kernel_rfl) ?_ ?_
   ·kernel_rfl
   refine r0' rfl rfl rfl rfl (st0 (d_fa rfl rfl Tryz.underlying129 rfl Tryz.sizeOf4 rfl rfl)) ?_
   refine r0' rfl rfl rfl rfl (st0 (d_lb (i := 2) rfl rfl rfl Tryz.isAgg4 rfl)) ?_
   refine r0' rfl rfl rfl rfl (st0 (d_mv rfl rfl)) ?_
   refine r2 rfl rfl rfl rfl rfl rfl rfl rfl ?_
   refine r2 rfl rfl rfl rfl rfl rfl rfl rfl ?_
   refine r2 rfl rfl rfl rfl rfl rfl rfl rfl ?_
   refine r2 rfl rfl rfl rfl rfl rfl rfl rfl ?_
   refine r0' rfl rfl rfl rfl (st0 (d_pickf rfl rfl rfl)) ?_
   refine r0' rfl rfl rfl rfl (st0 (d_fa rfl rfl Tryz.underlying129 rfl Tryz.sizeOf127 rfl rfl)) ?_
   refine r0' rfl rfl rfl rfl (st0 (d_lb (i := 2) rfl rfl rfl Tryz.isAgg127 rfl)) ?_
   refine r1' rfl rfl (t_call (n := 3) (nat_store _ _ (by omega)) rfl rfl rfl ⟨rfl, trivial⟩ Tryz.call143 (pre_same 1 rfl rfl rfl pre_nil) rfl hw) (fun _ _ => ?_)
   refine r0' rfl rfl rfl rfl (st0 (d_bld (ivs := [(0, _), (1, _)]) rfl ⟨rfl, rfl, rfl, rfl, trivial⟩ (fun a w hs => b28_01 ((one_rfl rfl) a w hs) ((one_rfl rfl) a w hs)))) ?_
   refine r3' rfl rfl (t_stw (i := 3) rfl rfl rfl rfl rfl (by decide) rfl Tryz.sizeOf28 rfl rfl ⟨(one_rfl rfl), (one_rfl rfl), trivial⟩ rfl hw trivial) (fun _ _ => ?_)
   refine r3' rfl rfl (t_det (d_as rfl rfl) rfl rfl) (fun _ _ => ?_)
   refine r_end ?_
   refine x_then (e_ret ?_)
   exact x_end (.inl rfl) hsc () _ (fun a w hs => res2 hs Tryz.results107 (rv_cell (i := 3) rfl rfl Tryz.isAgg28 Tryz.sizeOf28 rfl) rfl) (by first | exact wide_okf hs h219 | exact wide_okt hs h219) trivial rfl give_nil
  ·refine e_dreg (fun _ => False) [(0, 0), (1, 0), (2, 0), (3, 0), (4, 0), (5, 0), (6, 0), (7, 0), (8, 0), (9, 0), (10, 1), (11, 0), (12, 3), (13, 3)] (by kernel_rfl) ?_ ?_
   ·kernel_rfl
   refine r0' rfl rfl rfl rfl (st0 (d_fa rfl rfl Tryz.underlying129 rfl Tryz.sizeOf4 rfl rfl)) ?_
   refine r0' rfl rfl rfl rfl (st0 (d_lb (i := 2) rfl rfl rfl Tryz.isAgg4 rfl)) ?_
   refine r0' rfl rfl rfl rfl (st0 (d_mv rfl rfl)) ?_
   refine r0g (st0 (d_fa rfl rfl Tryz.underlying129 rfl Tryz.sizeOf127 rfl rfl)) rfl rfl rfl rfl rfl rfl rfl ?_
   refine r0g (st0 (d_lb (i := 2) rfl rfl rfl Tryz.isAgg127 rfl)) rfl rfl rfl rfl rfl rfl rfl ?_
   refine r0g (st0 (d_len rfl rfl (i := 1) rfl rd_slp Tryz.underlying127)) rfl rfl rfl rfl rfl rfl rfl ?_
   refine r0g (st0 (d_gtr rfl rfl rfl)) rfl rfl rfl rfl rfl rfl rfl ?_
   refine r0' rfl rfl rfl rfl (st0 (d_pickt rfl rfl rfl)) ?_
   refine r0' rfl rfl rfl rfl (st0 (d_fa rfl rfl Tryz.underlying129 rfl Tryz.sizeOf127 rfl rfl)) ?_
   refine r0' rfl rfl rfl rfl (st0 (d_lb (i := 2) rfl rfl rfl Tryz.isAgg127 rfl)) ?_
   refine r1' rfl rfl (t_call (n := 3) (nat_store _ _ (by omega)) rfl rfl rfl ⟨rfl, trivial⟩ Tryz.call143 (pre_same 1 rfl rfl rfl pre_nil) rfl hw) (fun _ _ => ?_)
   refine r0' rfl rfl rfl rfl (st0 (d_bld (ivs := [(0, _), (1, _)]) rfl ⟨rfl, rfl, rfl, rfl, trivial⟩ (fun a w hs => b28_01 ((one_rfl rfl) a w hs) ((one_rfl rfl) a w hs)))) ?_
   refine r3' rfl rfl (t_stw (i := 3) rfl rfl rfl rfl rfl (by decide) rfl Tryz.sizeOf28 rfl rfl ⟨(one_rfl rfl), (one_rfl rfl), trivial⟩ rfl hw trivial) (fun _ _ => ?_)
   refine r3' rfl rfl (t_det (d_as rfl rfl) rfl rfl) (fun _ _ => ?_)
   refine r_end ?_
   refine x_then (e_ret ?_)
   exact x_end (.inl rfl) hsc () _ (fun a w hs => res2 hs Tryz.results107 (rv_cell (i := 3) rfl rfl Tryz.isAgg28 Tryz.sizeOf28 rfl) rfl) (by first | exact wide_okf hs h219 | exact wide_okt hs h219) trivial rfl give_nil
theorem num_div (s t : Bool) (v w : Value) (x y : Int) (hs : sg s x) (ht : sg t y) (hx : bl x.natAbs ≤ 3000000000) (hy : bl y.natAbs ≤ 3000000000) (hy0 : y ≠ 0) : Cal Tryz.prog 106 #[.agg #[.bool s, v], .agg #[.bool t, w]] [dgp v x.natAbs, dgp w y.natAbs] true (G := Bool × Value × Value) (fun r => sg r.1 (x / y)) (fun r => .tuple #[.agg #[.bool r.1, r.2.1], .agg #[.bool false, r.2.2]]) (fun r => [dgp r.2.1 (x / y).natAbs, dgp r.2.2 (x % y).natAbs]) := by
 refine cal_in Tryz.func106 rfl Tryz.ntmps106 rfl ⟨rfl, rfl, trivial⟩ ?_
 intro w0 sc hw hsc
 simp only [enumEnv, enumPre]
 have hX := lenU_bl x.natAbs
 have hY := lenU_bl y.natAbs
 have hyp : 0 < y.natAbs := by omega
 have hrl : x.natAbs % y.natAbs < y.natAbs := Nat.mod_lt _ hyp
 have hrb := bl_mono (Nat.le_of_lt hrl)
 have hqb := bl_mono (Nat.div_le_self x.natAbs y.natAbs)
 refine e_seq (e_reg (tt (t_box (i := 3) rfl rfl rfl rfl rfl rfl hw) rfl (fun b _ => ?_)))
 refine tt (t_box (i := 4) rfl rfl rfl rfl rfl rfl hw) rfl (fun b_2 _ => ?_)
 refine tt (t_alloc (i := 5) rfl rfl rfl Tryz.zeroValue129 rfl rfl hw) rfl (fun b_3 _ => ?_)
 refine tt (t_alloc (i := 6) rfl rfl rfl Tryz.zeroValue129 rfl rfl hw) rfl (fun b_4 _ => ?_)
 refine l_nil (x_then (e_seq (e_reg (dt (d_fa rfl rfl Tryz.underlying129 rfl Tryz.sizeOf127 rfl rfl) rfl ?_))))
 refine dt (d_lb (i := 3) rfl rfl rfl Tryz.isAgg127 rfl) rfl ?_
 refine dt (d_fa rfl rfl Tryz.underlying129 rfl Tryz.sizeOf127 rfl rfl) rfl ?_
 refine dt (d_lb (i := 4) rfl rfl rfl Tryz.isAgg127 rfl) rfl ?_
 refine tt (t_call (n := 7) (nat_div _ _ _ _ (by omega) (by omega) hyp) rfl rfl rfl ⟨rfl, rfl, trivial⟩ Tryz.call142 (pre_same 1 rfl rfl rfl (pre_same 2 rfl rfl rfl pre_nil)) rfl hw) rfl (fun g _ => ?_)
 refine mv rfl rfl (dt (d_ex rfl rfl rfl) rfl ?_)
 refine dt (d_ex rfl rfl rfl) rfl ?_
 refine as_ rfl rfl (as_ rfl rfl (l_nil (x_then (e_seq (e_seq (e_reg (dt (d_fa rfl rfl Tryz.underlying129 rfl Tryz.sizeOf4 rfl rfl) rfl ?_)))))))
 refine dt (d_lb (i := 3) rfl rfl rfl Tryz.isAgg4 rfl) rfl ?_
 refine mv rfl rfl (l_splitb (d := 18) rfl (fun s256 => ?_) (fun s256 => ?_))
 ·refine gdt (d_mv rfl rfl) rfl rfl rfl rfl ?_
  refine gdt (d_len rfl rfl (i := 8) rfl rd_slp Tryz.underlying127) rfl rfl rfl rfl ?_
  refine gdt (d_gtr rfl rfl rfl) rfl rfl rfl rfl ?_
  refine dt (d_pickt rfl rfl rfl) rfl ?_
  refine l_nil (x_then (e_cond rfl (fun h256 => ?_) (fun h256 => ?_)))
  ·subst s256
   have hR0 : 0 < x.natAbs % y.natAbs := by rcases Nat.eq_zero_or_pos (x.natAbs % y.natAbs) with h | h; (rw [h] at h256; simp [dg_zero] at h256); exact h
   have hD := divA hs ht hy0 hR0
   refine e_dreg (fun _ => False) [(0, 0), (3, 0), (4, 0), (5, 0), (1, 1), (2, 1), (6, 1), (7, 0), (8, 3)] (by kernel_rfl) ?_ ?_
   ·kernel_rfl
   refine r0' rfl rfl rfl rfl (st0 (d_mv rfl rfl)) ?_
   refine r0' rfl rfl rfl rfl (st0 (d_fa rfl rfl Tryz.underlying129 rfl Tryz.sizeOf127 rfl rfl)) ?_
   refine r0' rfl rfl rfl rfl (st0 (d_lb (i := 4) rfl rfl rfl Tryz.isAgg127 rfl)) ?_
   refine r0' rfl rfl rfl rfl (st0 (d_mv rfl rfl)) ?_
   refine r1' rfl rfl (t_bsg (i := 9) (ivs := [(0, _)]) (enc := encU) (dg U 1) rfl rfl rfl ⟨rfl, rfl, trivial⟩ Tryz.underlying127 Tryz.ti137 rfl rfl rfl rfl rfl rfl pU.cells rfl rfl hw) (fun v _ => ?_)
   refine r1' rfl rfl (t_call (n := 10) (nat_add _ _ _ _ (by omega) (show bl 1 ≤ 4294967296 by decide)) rfl rfl rfl ⟨rfl, rfl, trivial⟩ Tryz.call139 (pre_same 7 rfl rfl rfl (pre_lend 9 rfl rfl pU pre_nil)) rfl hw) (fun v_2 _ => ?_)
   refine r1' rfl rfl (t_call (n := 11) (nat_sub _ _ _ _ (by omega) (by omega)) rfl rfl rfl ⟨rfl, rfl, trivial⟩ Tryz.call141 (pre_same 2 rfl rfl rfl (pre_same 8 rfl rfl rfl pre_nil)) rfl hw) (fun v_3 _ => ?_)
   refine r0' rfl rfl rfl rfl (st0 (d_as rfl rfl)) ?_
   refine r3' rfl rfl (t_det (d_as rfl rfl) rfl rfl) (fun _ _ => ?_)
   refine r_end ?_
   refine x_then (e_seq (e_reg (dt (d_fa rfl rfl Tryz.underlying129 rfl Tryz.sizeOf4 rfl rfl) rfl ?_)))
   refine dt (d_lb (i := 3) rfl rfl rfl Tryz.isAgg4 rfl) rfl ?_
   refine dt (d_fa rfl rfl Tryz.underlying129 rfl Tryz.sizeOf4 rfl rfl) rfl ?_
   refine dt (d_lb (i := 4) rfl rfl rfl Tryz.isAgg4 rfl) rfl ?_
   refine dt (d_neb rfl rfl rfl Tryz.underlying4) rfl ?_
   refine mv rfl rfl (dt (d_bld (ivs := [(0, _), (1, _)]) rfl ⟨rfl, rfl, rfl, rfl, trivial⟩ (fun a w hs => b129_01 ((one_rfl rfl) a w hs) ((one_rd (i := 10) rfl rd_slp) a w hs))) rfl ?_)
   refine mv rfl rfl (dt (d_bld (ivs := [(0, _), (1, _)]) rfl ⟨rfl, rfl, rfl, rfl, trivial⟩ (fun a w hs => b129_01 ((one_rfl rfl) a w hs) ((one_rd (i := 11) rfl rd_slp) a w hs))) rfl ?_)
   refine tt (t_stw (i := 5) rfl rfl rfl rfl rfl (by decide) rfl Tryz.sizeOf129 rfl rfl ⟨(one_rfl rfl), (one_rd (i := 10) rfl rd_slp), trivial⟩ rfl hw trivial) rfl (fun _ _ => ?_)
   refine tt (t_stw (i := 6) rfl rfl rfl rfl rfl (by decide) rfl Tryz.sizeOf129 rfl rfl ⟨(one_rfl rfl), (one_rd (i := 11) rfl rd_slp), trivial⟩ rfl hw trivial) rfl (fun _ _ => ?_)
   refine l_nil (x_then (e_ret ?_))
   exact x_end (.inl rfl) hsc (_, _, _) _ (fun a w hs => res2 hs Tryz.results106 (rv_cell (i := 5) rfl rfl Tryz.isAgg129 Tryz.sizeOf129 rfl) (rv_cell (i := 6) rfl rfl Tryz.isAgg129 Tryz.sizeOf129 rfl)) rfl hD.1 rfl (give_samee 10 rfl rfl rfl (by rw [hD.2.1] <;> rfl) (give_samee 11 rfl rfl rfl (by rw [hD.2.2] <;> rfl) give_nil))
  ·have hD := divB hs ht hy0 (.inr ((dg_nil_iff two_U _).1 (by omega)))
   refine e_skip ?_
   refine x_then (e_seq (e_reg (dt (d_fa rfl rfl Tryz.underlying129 rfl Tryz.sizeOf4 rfl rfl) rfl ?_)))
   refine dt (d_lb (i := 3) rfl rfl rfl Tryz.isAgg4 rfl) rfl ?_
   refine dt (d_fa rfl rfl Tryz.underlying129 rfl Tryz.sizeOf4 rfl rfl) rfl ?_
   refine dt (d_lb (i := 4) rfl rfl rfl Tryz.isAgg4 rfl) rfl ?_
   refine dt (d_neb rfl rfl rfl Tryz.underlying4) rfl ?_
   refine mv rfl rfl (dt (d_bld (ivs := [(0, _), (1, _)]) rfl ⟨rfl, rfl, rfl, rfl, trivial⟩ (fun a w hs => b129_01 ((one_rfl rfl) a w hs) ((one_rd (i := 7) rfl rd_slp) a w hs))) rfl ?_)
   refine mv rfl rfl (dt (d_bld (ivs := [(0, _), (1, _)]) rfl ⟨rfl, rfl, rfl, rfl, trivial⟩ (fun a w hs => b129_01 ((one_rfl rfl) a w hs) ((one_rd (i := 8) rfl rd_slp) a w hs))) rfl ?_)
   refine tt (t_stw (i := 5) rfl rfl rfl rfl rfl (by decide) rfl Tryz.sizeOf129 rfl rfl ⟨(one_rfl rfl), (one_rd (i := 7) rfl rd_slp), trivial⟩ rfl hw trivial) rfl (fun _ _ => ?_)
   refine tt (t_stw (i := 6) rfl rfl rfl rfl rfl (by decide) rfl Tryz.sizeOf129 rfl rfl ⟨(one_rfl rfl), (one_rd (i := 8) rfl rd_slp), trivial⟩ rfl hw trivial) rfl (fun _ _ => ?_)
   refine l_nil (x_then (e_ret ?_))
   exact x_end (.inl rfl) hsc (_, _, _) _ (fun a w hs => res2 hs Tryz.results106 (rv_cell (i := 5) rfl rfl Tryz.isAgg129 Tryz.sizeOf129 rfl) (rv_cell (i := 6) rfl rfl Tryz.isAgg129 Tryz.sizeOf129 rfl)) rfl hD.1 rfl (give_samee 7 rfl rfl rfl (by rw [hD.2.1] <;> rfl) (give_samee 8 rfl rfl rfl (by rw [hD.2.2] <;> rfl) give_nil))
 ·have hD := divB hs ht hy0 (.inl s256)
  refine gsk rfl rfl rfl rfl rfl (gsk rfl rfl rfl rfl rfl (gsk rfl rfl rfl rfl rfl (dt (d_pickf rfl rfl rfl) rfl ?_)))
  refine l_nil (x_then (e_condf rfl ?_))
  refine e_skip ?_
  refine x_then (e_seq (e_reg (dt (d_fa rfl rfl Tryz.underlying129 rfl Tryz.sizeOf4 rfl rfl) rfl ?_)))
  refine dt (d_lb (i := 3) rfl rfl rfl Tryz.isAgg4 rfl) rfl ?_
  refine dt (d_fa rfl rfl Tryz.underlying129 rfl Tryz.sizeOf4 rfl rfl) rfl ?_
  refine dt (d_lb (i := 4) rfl rfl rfl Tryz.isAgg4 rfl) rfl ?_
  refine dt (d_neb rfl rfl rfl Tryz.underlying4) rfl ?_
  refine mv rfl rfl (dt (d_bld (ivs := [(0, _), (1, _)]) rfl ⟨rfl, rfl, rfl, rfl, trivial⟩ (fun a w hs => b129_01 ((one_rfl rfl) a w hs) ((one_rd (i := 7) rfl rd_slp) a w hs))) rfl ?_)
  refine mv rfl rfl (dt (d_bld (ivs := [(0, _), (1, _)]) rfl ⟨rfl, rfl, rfl, rfl, trivial⟩ (fun a w hs => b129_01 ((one_rfl rfl) a w hs) ((one_rd (i := 8) rfl rd_slp) a w hs))) rfl ?_)
  refine tt (t_stw (i := 5) rfl rfl rfl rfl rfl (by decide) rfl Tryz.sizeOf129 rfl rfl ⟨(one_rfl rfl), (one_rd (i := 7) rfl rd_slp), trivial⟩ rfl hw trivial) rfl (fun _ _ => ?_)
  refine tt (t_stw (i := 6) rfl rfl rfl rfl rfl (by decide) rfl Tryz.sizeOf129 rfl rfl ⟨(one_rfl rfl), (one_rd (i := 8) rfl rd_slp), trivial⟩ rfl hw trivial) rfl (fun _ _ => ?_)
  refine l_nil (x_then (e_ret ?_))
  exact x_end (.inl rfl) hsc (_, _, _) _ (fun a w hs => res2 hs Tryz.results106 (rv_cell (i := 5) rfl rfl Tryz.isAgg129 Tryz.sizeOf129 rfl) (rv_cell (i := 6) rfl rfl Tryz.isAgg129 Tryz.sizeOf129 rfl)) rfl hD.1 rfl (give_samee 7 rfl rfl rfl (by rw [hD.2.1] <;> rfl) (give_samee 8 rfl rfl rfl (by rw [hD.2.2] <;> rfl) give_nil))
end Go.Sky
namespace Go.Sky
open Go.Proofs
set_option maxRecDepth 20000
set_option maxHeartbeats 4000000
set_option linter.unusedVariables false
set_option linter.unusedSimpArgs false
theorem wide_valid (b : Bool) (s : ByteArray) : Cal Tryz.prog 109 #[.agg #[.bool b, .string s]] [] false (G := Unit) (fun _ => True) (fun _ => .bool (okW b s)) (fun _ => []) := by
 refine cal_in Tryz.func109 rfl Tryz.ntmps109 rfl trivial ?_
 intro w0 sc hw hsc
 simp only [enumEnv, enumPre]
 refine e_seq (e_reg (tt (t_box (i := 1) rfl rfl rfl rfl rfl rfl hw) rfl (fun b _ => ?_)))
 refine as_ rfl rfl (l_nil (x_then (e_seq (e_seq (e_reg (dt (d_fa rfl rfl Tryz.underlying28 rfl Tryz.sizeOf9 rfl rfl) rfl ?_))))))
 refine dt (d_lb (i := 1) rfl rfl rfl Tryz.isAgg9 rfl) rfl ?_
 refine dt (d_eqs0 rfl rfl rfl rfl) rfl ?_
 refine l_nil (x_then (e_cond rfl (fun h264 => ?_) (fun h264 => ?_)))
 ·refine e_seq (e_reg (dt (d_fa rfl rfl Tryz.underlying28 rfl Tryz.sizeOf4 rfl rfl) rfl ?_))
  refine dt (d_lb (i := 1) rfl rfl rfl Tryz.isAgg4 rfl) rfl ?_
  refine dt (d_notb rfl rfl) rfl ?_
  refine as_ rfl rfl (l_nil (x_then (e_ret (x_ret ?_))))
  exact x_end (.inl rfl) hsc () _ (fun a w hs => res1 hs Tryz.results109 rfl) (by unfold okW; rw [if_pos h264]) trivial rfl give_nil
 ·refine e_skip ?_
  refine x_then (e_seq (e_reg (dt (d_fa rfl rfl Tryz.underlying28 rfl Tryz.sizeOf9 rfl rfl) rfl ?_)))
  refine dt (d_lb (i := 1) rfl rfl rfl Tryz.isAgg9 rfl) rfl ?_
  refine dt (d_ixs (i := 0) rfl rfl rfl Tryz.underlying9 rfl (by omega)) rfl ?_
  refine dt (d_neq rfl rfl rfl) rfl ?_
  refine mv rfl rfl (l_split (d := 13) rfl (fun s267 => ?_) (fun s267 => ?_))
  ·refine gdt (d_fa rfl rfl Tryz.underlying28 rfl Tryz.sizeOf9 rfl rfl) rfl rfl rfl rfl ?_
   refine gdt (d_lb (i := 1) rfl rfl rfl Tryz.isAgg9 rfl) rfl rfl rfl rfl ?_
   refine gdt (d_lens rfl rfl Tryz.underlying9) rfl rfl rfl rfl ?_
   refine gdt (d_leq rfl rfl rfl) rfl rfl rfl rfl ?_
   refine dt (d_pickt rfl rfl rfl) rfl ?_
   refine as_ rfl rfl (l_nil (x_then (e_ret ?_)))
   exact x_end (.inl rfl) hsc () _ (fun a w hs => res1 hs Tryz.results109 rfl) (by unfold okW; rw [if_neg h264]; simp_all <;> omega) trivial rfl give_nil
  ·refine gsk rfl rfl rfl rfl rfl (gsk rfl rfl rfl rfl rfl (gsk rfl rfl rfl rfl rfl (gsk rfl rfl rfl rfl rfl (dt (d_pickf rfl rfl rfl) rfl ?_))))
   refine as_ rfl rfl (l_nil (x_then (e_ret ?_)))
   exact x_end (.inl rfl) hsc () _ (fun a w hs => res1 hs Tryz.results109 rfl) (by unfold okW; rw [if_neg h264]; simp_all <;> omega) trivial rfl give_nil
theorem wide_valid_ok (x : Int) (hx : bl x.natAbs ≤ 65536) : Cal Tryz.prog 109 #[wv x] [] false (G := Unit) (fun _ => True) (fun _ => .bool true) (fun _ => []) := okW_wv hx ▸ wide_valid _ _
theorem wide_both (b : Bool) (s : ByteArray) (c : Bool) (t : ByteArray) : Cal Tryz.prog 101 #[.agg #[.bool b, .string s], .agg #[.bool c, .string t]] [] false (G := Unit) (fun _ => True) (fun _ => .bool (okW b s && okW c t)) (fun _ => []) := by
 refine cal_in Tryz.func101 rfl Tryz.ntmps101 rfl trivial ?_
 intro w0 sc hw hsc
 simp only [enumEnv, enumPre]
 refine e_seq (e_reg (tt (t_box (i := 1) rfl rfl rfl rfl rfl rfl hw) rfl (fun b _ => ?_)))
 refine tt (t_box (i := 2) rfl rfl rfl rfl rfl rfl hw) rfl (fun b_2 _ => ?_)
 refine as_ rfl rfl (l_nil (x_then (e_seq (e_reg (dt (d_lb2 (i := 1) rfl rfl rfl Tryz.isAgg28 Tryz.sizeOf28 rfl rfl) rfl ?_)))))
 refine tt (t_call (n := 2) (wide_valid _ _) rfl rfl rfl ⟨rfl, trivial⟩ Tryz.call109 pre_nil rfl hw) rfl (fun _ _ => ?_)
 refine mv rfl rfl (l_splitb (d := 7) rfl (fun s271 => ?_) (fun s271 => ?_))
 ·refine gdt (d_lb2 (i := 2) rfl rfl rfl Tryz.isAgg28 Tryz.sizeOf28 rfl rfl) rfl rfl rfl rfl ?_
  refine gtt (t_call (n := 2) (wide_valid _ _) rfl rfl rfl ⟨rfl, trivial⟩ Tryz.call109 pre_nil rfl hw) rfl rfl rfl rfl (fun _ _ => ?_)
  refine dt (d_pickt rfl rfl rfl) rfl ?_
  refine as_ rfl rfl (l_nil (x_then (e_ret ?_)))
  exact x_end (.inl rfl) hsc () _ (fun a w hs => res1 hs Tryz.results101 rfl) (by simp_all) trivial rfl give_nil
 ·refine gsk rfl rfl rfl rfl rfl (gsk rfl rfl rfl rfl rfl (dt (d_pickf rfl rfl rfl) rfl ?_))
  refine as_ rfl rfl (l_nil (x_then (e_ret ?_)))
  exact x_end (.inl rfl) hsc () _ (fun a w hs => res1 hs Tryz.results101 rfl) (by simp_all) trivial rfl give_nil
theorem wide_both_ok (x y : Int) (hx : bl x.natAbs ≤ 65536) (hy : bl y.natAbs ≤ 65536) : Cal Tryz.prog 101 #[wv x, wv y] [] false (G := Unit) (fun _ => True) (fun _ => .bool true) (fun _ => []) := by
 have h := wide_both (decide (x < 0)) (bstr x.natAbs) (decide (y < 0)) (bstr y.natAbs)
 rw [okW_wv hx, okW_wv hy] at h; exact h
theorem wide_sign (x : Int) (hx : bl x.natAbs ≤ 65536) : Cal Tryz.prog 80 #[wv x] [] false (G := Unit) (fun _ => True) (fun _ => .int .i64 x.sign) (fun _ => []) := by
 refine cal_in Tryz.func80 rfl Tryz.ntmps80 rfl trivial ?_
 intro w0 sc hw hsc
 simp only [enumEnv, enumPre]
 refine e_seq (e_reg (tt (t_box (i := 1) rfl rfl rfl rfl rfl rfl hw) rfl (fun b _ => ?_)))
 refine as_ rfl rfl (l_nil (x_then (e_seq (e_seq (e_reg (dt (d_lb2 (i := 1) rfl rfl rfl Tryz.isAgg28 Tryz.sizeOf28 rfl rfl) rfl ?_))))))
 refine tt (t_call (n := 1) (wide_valid_ok _ (by assumption)) rfl rfl rfl ⟨rfl, trivial⟩ Tryz.call109 pre_nil rfl hw) rfl (fun _ _ => ?_)
 refine dt (d_notb rfl rfl) rfl ?_
 refine l_nil (x_then (e_condf rfl ?_))
 refine e_skip ?_
 refine x_then (e_seq (e_reg (dt (d_lb2 (i := 1) rfl rfl rfl Tryz.isAgg28 Tryz.sizeOf28 rfl rfl) rfl ?_)))
 refine tt (t_call (n := 2) (wide_of _ _ (sg_dec _) (by omega)) rfl rfl rfl ⟨rfl, trivial⟩ Tryz.call102 pre_nil rfl hw) rfl (fun g hg => ?_)
 refine tt (t_call (n := 2) (num_sign _ _ _ (by assumption) (by omega)) rfl rfl rfl ⟨rfl, trivial⟩ Tryz.call105 (pre_same 2 rfl rfl rfl pre_nil) rfl hw) rfl (fun _ _ => ?_)
 refine as_ rfl rfl (l_nil (x_then (e_ret ?_)))
 exact x_end (.inl rfl) hsc () _ (fun a w hs => res1 hs Tryz.results80 rfl) rfl trivial rfl give_nil
theorem wide_len (x : Int) (hx : bl x.natAbs ≤ 65536) : Cal Tryz.prog 99 #[wv x] [] false (G := Unit) (fun _ => True) (fun _ => .int .i64 (bl x.natAbs : Int)) (fun _ => []) := by
 refine cal_in Tryz.func99 rfl Tryz.ntmps99 rfl trivial ?_
 intro w0 sc hw hsc
 simp only [enumEnv, enumPre]
 refine e_seq (e_reg (tt (t_box (i := 1) rfl rfl rfl rfl rfl rfl hw) rfl (fun b _ => ?_)))
 refine as_ rfl rfl (l_nil (x_then (e_seq (e_seq (e_reg (dt (d_lb2 (i := 1) rfl rfl rfl Tryz.isAgg28 Tryz.sizeOf28 rfl rfl) rfl ?_))))))
 refine tt (t_call (n := 1) (wide_valid_ok _ (by assumption)) rfl rfl rfl ⟨rfl, trivial⟩ Tryz.call109 pre_nil rfl hw) rfl (fun _ _ => ?_)
 refine dt (d_notb rfl rfl) rfl ?_
 refine l_nil (x_then (e_condf rfl ?_))
 refine e_skip ?_
 refine x_then (e_seq (e_reg (dt (d_fa rfl rfl Tryz.underlying28 rfl Tryz.sizeOf9 rfl rfl) rfl ?_)))
 refine dt (d_lb (i := 1) rfl rfl rfl Tryz.isAgg9 rfl) rfl ?_
 refine tt (t_call (n := 2) (wide_load _ (by omega)) rfl rfl rfl ⟨rfl, trivial⟩ Tryz.call135 pre_nil rfl hw) rfl (fun v _ => ?_)
 refine tt (t_call (n := 2) (nat_size _ _ (by omega)) rfl rfl rfl ⟨rfl, trivial⟩ Tryz.call136 (pre_same 2 rfl rfl rfl pre_nil) rfl hw) rfl (fun _ _ => ?_)
 refine as_ rfl rfl (l_nil (x_then (e_ret ?_)))
 exact x_end (.inl rfl) hsc () _ (fun a w hs => res1 hs Tryz.results99 rfl) rfl trivial rfl give_nil
theorem wide_add (x y : Int) (hx : bl x.natAbs ≤ 65536) (hy : bl y.natAbs ≤ 65536) : Cal Tryz.prog 54 #[wv x, wv y] [] false (G := Unit) (fun _ => True) (fun _ => wideV (x + y)) (fun _ => []) := by
 refine cal_in Tryz.func54 rfl Tryz.ntmps54 rfl trivial ?_
 intro w0 sc hw hsc
 simp only [enumEnv, enumPre]
 have hb := bl_iadd x y
 refine e_seq (e_reg (tt (t_box (i := 1) rfl rfl rfl rfl rfl rfl hw) rfl (fun b _ => ?_)))
 refine tt (t_box (i := 2) rfl rfl rfl rfl rfl rfl hw) rfl (fun b_2 _ => ?_)
 refine tt (t_alloc (i := 3) rfl rfl rfl Tryz.zeroValue28 rfl rfl hw) rfl (fun b_3 _ => ?_)
 refine as_ rfl rfl (l_nil (x_then (e_seq (e_seq (e_reg (dt (d_lb2 (i := 1) rfl rfl rfl Tryz.isAgg28 Tryz.sizeOf28 rfl rfl) rfl ?_))))))
 refine dt (d_lb2 (i := 2) rfl rfl rfl Tryz.isAgg28 Tryz.sizeOf28 rfl rfl) rfl ?_
 refine tt (t_call (n := 3) (wide_both_ok _ _ (by assumption) (by assumption)) rfl rfl rfl ⟨rfl, rfl, trivial⟩ Tryz.call101 pre_nil rfl hw) rfl (fun _ _ => ?_)
 refine dt (d_notb rfl rfl) rfl ?_
 refine l_nil (x_then (e_condf rfl ?_))
 refine e_skip ?_
 refine x_then (e_seq (e_dreg (fun _ => False) [(0, 0), (2, 0), (1, 1), (3, 1), (4, 1), (5, 1), (6, 0), (7, 0), (8, 3), (9, 3)] (by kernel_rfl) ?_ ?_))
 ·kernel_rfl
 refine r0' rfl rfl rfl rfl (st0 (d_lb2 (i := 1) rfl rfl rfl Tryz.isAgg28 Tryz.sizeOf28 rfl rfl)) ?_
 refine r0' rfl rfl rfl rfl (st0 (d_lb2 (i := 2) rfl rfl rfl Tryz.isAgg28 Tryz.sizeOf28 rfl rfl)) ?_
 refine r1' rfl rfl (t_call (n := 4) (wide_of _ _ (sg_dec _) (by omega)) rfl rfl rfl ⟨rfl, trivial⟩ Tryz.call102 pre_nil rfl hw) (fun g hg => ?_)
 refine r1' rfl rfl (t_call (n := 5) (wide_of _ _ (sg_dec _) (by omega)) rfl rfl rfl ⟨rfl, trivial⟩ Tryz.call102 pre_nil rfl hw) (fun g_2 hg_2 => ?_)
 refine r1' rfl rfl (t_call (n := 6) (num_add _ _ _ _ _ _ (by assumption) (by assumption) (by omega) (by omega)) rfl rfl rfl ⟨rfl, rfl, trivial⟩ Tryz.call103 (pre_same 4 rfl rfl rfl (pre_same 5 rfl rfl rfl pre_nil)) rfl hw) (fun g_3 hg_3 => ?_)
 refine r1' rfl rfl (t_call (n := 6) (num_wide _ _ _ (by assumption) (by omega)) rfl rfl rfl ⟨rfl, trivial⟩ Tryz.call107 (pre_same 6 rfl rfl rfl pre_nil) rfl hw) (fun _ _ => ?_)
 refine r0' rfl rfl rfl rfl (st0 (d_ex rfl rfl rfl)) ?_
 refine r0' rfl rfl rfl rfl (st0 (d_ex rfl rfl rfl)) ?_
 refine r3' rfl rfl (t_stw (i := 3) rfl rfl rfl rfl rfl (by decide) rfl Tryz.sizeOf28 rfl rfl ⟨(one_rfl rfl), (one_rfl rfl), trivial⟩ rfl hw trivial) (fun _ _ => ?_)
 refine r3' rfl rfl (t_det (d_as rfl rfl) rfl rfl) (fun _ _ => ?_)
 refine r_end ?_
 refine x_then (e_ret ?_)
 exact x_end (.inl rfl) hsc () _ (fun a w hs => res2 hs Tryz.results54 (rv_cell (i := 3) rfl rfl Tryz.isAgg28 Tryz.sizeOf28 rfl) rfl) rfl trivial rfl give_nil
theorem wide_sub (x y : Int) (hx : bl x.natAbs ≤ 65536) (hy : bl y.natAbs ≤ 65536) : Cal Tryz.prog 146 #[wv x, wv y] [] false (G := Unit) (fun _ => True) (fun _ => wideV (x - y)) (fun _ => []) := by
 refine cal_in Tryz.func146 rfl Tryz.ntmps146 rfl trivial ?_
 intro w0 sc hw hsc
 simp only [enumEnv, enumPre]
 have hb := bl_isub x y
 have hny := bl_neg y
 refine e_seq (e_reg (tt (t_box (i := 1) rfl rfl rfl rfl rfl rfl hw) rfl (fun b _ => ?_)))
 refine tt (t_box (i := 2) rfl rfl rfl rfl rfl rfl hw) rfl (fun b_2 _ => ?_)
 refine tt (t_alloc (i := 3) rfl rfl rfl Tryz.zeroValue28 rfl rfl hw) rfl (fun b_3 _ => ?_)
 refine as_ rfl rfl (l_nil (x_then (e_seq (e_seq (e_reg (dt (d_lb2 (i := 1) rfl rfl rfl Tryz.isAgg28 Tryz.sizeOf28 rfl rfl) rfl ?_))))))
 refine dt (d_lb2 (i := 2) rfl rfl rfl Tryz.isAgg28 Tryz.sizeOf28 rfl rfl) rfl ?_
 refine tt (t_call (n := 3) (wide_both_ok _ _ (by assumption) (by assumption)) rfl rfl rfl ⟨rfl, rfl, trivial⟩ Tryz.call101 pre_nil rfl hw) rfl (fun _ _ => ?_)
 refine dt (d_notb rfl rfl) rfl ?_
 refine l_nil (x_then (e_condf rfl ?_))
 refine e_skip ?_
 refine x_then (e_seq (e_dreg (fun _ => False) [(0, 0), (2, 0), (1, 1), (3, 1), (4, 1), (5, 1), (6, 1), (7, 0), (8, 0), (9, 3), (10, 3)] (by kernel_rfl) ?_ ?_))
 ·kernel_rfl
 refine r0' rfl rfl rfl rfl (st0 (d_lb2 (i := 1) rfl rfl rfl Tryz.isAgg28 Tryz.sizeOf28 rfl rfl)) ?_
 refine r0' rfl rfl rfl rfl (st0 (d_lb2 (i := 2) rfl rfl rfl Tryz.isAgg28 Tryz.sizeOf28 rfl rfl)) ?_
 refine r1' rfl rfl (t_call (n := 4) (wide_of _ _ (sg_dec _) (by omega)) rfl rfl rfl ⟨rfl, trivial⟩ Tryz.call102 pre_nil rfl hw) (fun g hg => ?_)
 refine r1' rfl rfl (t_call (n := 5) (wide_of _ _ (sg_dec _) (by omega)) rfl rfl rfl ⟨rfl, trivial⟩ Tryz.call102 pre_nil rfl hw) (fun g_2 hg_2 => ?_)
 refine r1' rfl rfl (t_call (n := 6) (num_neg _ _ _ (by assumption)) rfl rfl rfl ⟨rfl, trivial⟩ Tryz.call104 (pre_same 5 rfl rfl rfl pre_nil) rfl hw) (fun g_3 hg_3 => ?_)
 refine r1' rfl rfl (t_call (n := 7) (num_add _ _ _ _ _ _ (by assumption) (by assumption) (by omega) (by omega)) rfl rfl rfl ⟨rfl, rfl, trivial⟩ Tryz.call103 (pre_same 4 rfl rfl rfl (pre_same 6 rfl rfl rfl pre_nil)) rfl hw) (fun g_4 hg_4 => ?_)
 refine r1' rfl rfl (t_call (n := 7) (num_wide _ _ _ (by assumption) (by rw [← Int.sub_eq_add_neg]; omega)) rfl rfl rfl ⟨rfl, trivial⟩ Tryz.call107 (pre_same 7 rfl rfl rfl pre_nil) rfl hw) (fun _ _ => ?_)
 refine r0' rfl rfl rfl rfl (st0 (d_ex rfl rfl rfl)) ?_
 refine r0' rfl rfl rfl rfl (st0 (d_ex rfl rfl rfl)) ?_
 refine r3' rfl rfl (t_stw (i := 3) rfl rfl rfl rfl rfl (by decide) rfl Tryz.sizeOf28 rfl rfl ⟨(one_rfl rfl), (one_rfl rfl), trivial⟩ rfl hw trivial) (fun _ _ => ?_)
 refine r3' rfl rfl (t_det (d_as rfl rfl) rfl rfl) (fun _ _ => ?_)
 refine r_end ?_
 refine x_then (e_ret ?_)
 exact x_end (.inl rfl) hsc () _ (fun a w hs => res2 hs Tryz.results146 (rv_cell (i := 3) rfl rfl Tryz.isAgg28 Tryz.sizeOf28 rfl) rfl) (by rw [Int.sub_eq_add_neg] <;> rfl) trivial rfl give_nil
theorem wide_mul (x y : Int) (hx : bl x.natAbs ≤ 65536) (hy : bl y.natAbs ≤ 65536) : Cal Tryz.prog 145 #[wv x, wv y] [] false (G := Unit) (fun _ => True) (fun _ => wideV (x * y)) (fun _ => []) := by
 refine cal_in Tryz.func145 rfl Tryz.ntmps145 rfl trivial ?_
 intro w0 sc hw hsc
 simp only [enumEnv, enumPre]
 have hb := bl_imul x y
 refine e_seq (e_reg (tt (t_box (i := 1) rfl rfl rfl rfl rfl rfl hw) rfl (fun b _ => ?_)))
 refine tt (t_box (i := 2) rfl rfl rfl rfl rfl rfl hw) rfl (fun b_2 _ => ?_)
 refine tt (t_alloc (i := 3) rfl rfl rfl Tryz.zeroValue28 rfl rfl hw) rfl (fun b_3 _ => ?_)
 refine as_ rfl rfl (l_nil (x_then (e_seq (e_seq (e_reg (dt (d_lb2 (i := 1) rfl rfl rfl Tryz.isAgg28 Tryz.sizeOf28 rfl rfl) rfl ?_))))))
 refine dt (d_lb2 (i := 2) rfl rfl rfl Tryz.isAgg28 Tryz.sizeOf28 rfl rfl) rfl ?_
 refine tt (t_call (n := 3) (wide_both_ok _ _ (by assumption) (by assumption)) rfl rfl rfl ⟨rfl, rfl, trivial⟩ Tryz.call101 pre_nil rfl hw) rfl (fun _ _ => ?_)
 refine dt (d_notb rfl rfl) rfl ?_
 refine l_nil (x_then (e_condf rfl ?_))
 refine e_skip ?_
 refine x_then (e_seq (e_dreg (fun _ => False) [(0, 0), (2, 0), (1, 1), (3, 1), (4, 1), (5, 1), (6, 0), (7, 0), (8, 3), (9, 3)] (by kernel_rfl) ?_ ?_))
 ·kernel_rfl
 refine r0' rfl rfl rfl rfl (st0 (d_lb2 (i := 1) rfl rfl rfl Tryz.isAgg28 Tryz.sizeOf28 rfl rfl)) ?_
 refine r0' rfl rfl rfl rfl (st0 (d_lb2 (i := 2) rfl rfl rfl Tryz.isAgg28 Tryz.sizeOf28 rfl rfl)) ?_
 refine r1' rfl rfl (t_call (n := 4) (wide_of _ _ (sg_dec _) (by omega)) rfl rfl rfl ⟨rfl, trivial⟩ Tryz.call102 pre_nil rfl hw) (fun g hg => ?_)
 refine r1' rfl rfl (t_call (n := 5) (wide_of _ _ (sg_dec _) (by omega)) rfl rfl rfl ⟨rfl, trivial⟩ Tryz.call102 pre_nil rfl hw) (fun g_2 hg_2 => ?_)
 refine r1' rfl rfl (t_call (n := 6) (num_mul _ _ _ _ _ _ (by assumption) (by assumption) (by omega) (by omega)) rfl rfl rfl ⟨rfl, rfl, trivial⟩ Tryz.call151 (pre_same 4 rfl rfl rfl (pre_same 5 rfl rfl rfl pre_nil)) rfl hw) (fun g_3 hg_3 => ?_)
 refine r1' rfl rfl (t_call (n := 6) (num_wide _ _ _ (by assumption) (by omega)) rfl rfl rfl ⟨rfl, trivial⟩ Tryz.call107 (pre_same 6 rfl rfl rfl pre_nil) rfl hw) (fun _ _ => ?_)
 refine r0' rfl rfl rfl rfl (st0 (d_ex rfl rfl rfl)) ?_
 refine r0' rfl rfl rfl rfl (st0 (d_ex rfl rfl rfl)) ?_
 refine r3' rfl rfl (t_stw (i := 3) rfl rfl rfl rfl rfl (by decide) rfl Tryz.sizeOf28 rfl rfl ⟨(one_rfl rfl), (one_rfl rfl), trivial⟩ rfl hw trivial) (fun _ _ => ?_)
 refine r3' rfl rfl (t_det (d_as rfl rfl) rfl rfl) (fun _ _ => ?_)
 refine r_end ?_
 refine x_then (e_ret ?_)
 exact x_end (.inl rfl) hsc () _ (fun a w hs => res2 hs Tryz.results145 (rv_cell (i := 3) rfl rfl Tryz.isAgg28 Tryz.sizeOf28 rfl) rfl) rfl trivial rfl give_nil
theorem wide_gcd (x y : Int) (hx : bl x.natAbs ≤ 65536) (hy : bl y.natAbs ≤ 65536) : Cal Tryz.prog 147 #[wv x, wv y] [] false (G := Unit) (fun _ => True) (fun _ => wideV (Int.gcd x y : Int)) (fun _ => []) := by
 refine cal_in Tryz.func147 rfl Tryz.ntmps147 rfl trivial ?_
 intro w0 sc hw hsc
 simp only [enumEnv, enumPre]
 have hb := bl_gcd x.natAbs y.natAbs
 refine e_seq (e_reg (tt (t_box (i := 1) rfl rfl rfl rfl rfl rfl hw) rfl (fun b _ => ?_)))
 refine tt (t_box (i := 2) rfl rfl rfl rfl rfl rfl hw) rfl (fun b_2 _ => ?_)
 refine tt (t_alloc (i := 3) rfl rfl rfl Tryz.zeroValue28 rfl rfl hw) rfl (fun b_3 _ => ?_)
 refine as_ rfl rfl (l_nil (x_then (e_seq (e_seq (e_reg (dt (d_lb2 (i := 1) rfl rfl rfl Tryz.isAgg28 Tryz.sizeOf28 rfl rfl) rfl ?_))))))
 refine dt (d_lb2 (i := 2) rfl rfl rfl Tryz.isAgg28 Tryz.sizeOf28 rfl rfl) rfl ?_
 refine tt (t_call (n := 3) (wide_both_ok _ _ (by assumption) (by assumption)) rfl rfl rfl ⟨rfl, rfl, trivial⟩ Tryz.call101 pre_nil rfl hw) rfl (fun _ _ => ?_)
 refine dt (d_notb rfl rfl) rfl ?_
 refine l_nil (x_then (e_condf rfl ?_))
 refine e_skip ?_
 refine x_then (e_seq (e_dreg (fun _ => False) [(0, 0), (1, 0), (3, 0), (4, 0), (2, 1), (5, 1), (6, 1), (7, 0), (8, 1), (9, 0), (10, 0), (11, 3), (12, 3)] (by kernel_rfl) ?_ ?_))
 ·kernel_rfl
 refine r0' rfl rfl rfl rfl (st0 (d_fa rfl rfl Tryz.underlying28 rfl Tryz.sizeOf9 rfl rfl)) ?_
 refine r0' rfl rfl rfl rfl (st0 (d_lb (i := 1) rfl rfl rfl Tryz.isAgg9 rfl)) ?_
 refine r0' rfl rfl rfl rfl (st0 (d_fa rfl rfl Tryz.underlying28 rfl Tryz.sizeOf9 rfl rfl)) ?_
 refine r0' rfl rfl rfl rfl (st0 (d_lb (i := 2) rfl rfl rfl Tryz.isAgg9 rfl)) ?_
 refine r1' rfl rfl (t_call (n := 4) (wide_load _ (by omega)) rfl rfl rfl ⟨rfl, trivial⟩ Tryz.call135 pre_nil rfl hw) (fun v _ => ?_)
 refine r1' rfl rfl (t_call (n := 5) (wide_load _ (by omega)) rfl rfl rfl ⟨rfl, trivial⟩ Tryz.call135 pre_nil rfl hw) (fun v_2 _ => ?_)
 refine r1' rfl rfl (t_call (n := 6) (nat_gcd _ _ _ _ (by omega) (by omega)) rfl rfl rfl ⟨rfl, rfl, trivial⟩ Tryz.call152 (pre_same 4 rfl rfl rfl (pre_same 5 rfl rfl rfl pre_nil)) rfl hw) (fun v_3 _ => ?_)
 refine r0' rfl rfl rfl rfl (st0 (d_bld (ivs := [(0, _), (1, _)]) rfl ⟨rfl, rfl, rfl, rfl, trivial⟩ (fun a w hs => b129_01 ((one_rfl rfl) a w hs) ((one_rd (i := 6) rfl rd_slp) a w hs)))) ?_
 refine r1' rfl rfl (t_call (n := 6) (num_wide false _ (Int.gcd x y : Int) (by simp [sg]) (by show bl (Nat.gcd x.natAbs y.natAbs) ≤ _; omega)) rfl rfl rfl ⟨rfl, trivial⟩ Tryz.call107 (pre_same 6 rfl rfl rfl pre_nil) rfl hw) (fun _ _ => ?_)
 refine r0' rfl rfl rfl rfl (st0 (d_ex rfl rfl rfl)) ?_
 refine r0' rfl rfl rfl rfl (st0 (d_ex rfl rfl rfl)) ?_
 refine r3' rfl rfl (t_stw (i := 3) rfl rfl rfl rfl rfl (by decide) rfl Tryz.sizeOf28 rfl rfl ⟨(one_rfl rfl), (one_rfl rfl), trivial⟩ rfl hw trivial) (fun _ _ => ?_)
 refine r3' rfl rfl (t_det (d_as rfl rfl) rfl rfl) (fun _ _ => ?_)
 refine r_end ?_
 refine x_then (e_ret ?_)
 exact x_end (.inl rfl) hsc () _ (fun a w hs => res2 hs Tryz.results147 (rv_cell (i := 3) rfl rfl Tryz.isAgg28 Tryz.sizeOf28 rfl) rfl) rfl trivial rfl give_nil
theorem wide_quo (x y : Int) (hx : bl x.natAbs ≤ 65536) (hy : bl y.natAbs ≤ 65536) (hy0 : y ≠ 0) : Cal Tryz.prog 53 #[wv x, wv y] [] false (G := Unit) (fun _ => True) (fun _ => .tuple #[wv (clip (x / y)), wv (clip (x % y)), .int .i64 0]) (fun _ => []) := by
 refine cal_in Tryz.func53 rfl Tryz.ntmps53 rfl trivial ?_
 intro w0 sc hw hsc
 simp only [enumEnv, enumPre]
 have hb := bl_idiv x y
 have hb2 := bl_imod x y hy0
 refine e_seq (e_reg (tt (t_box (i := 1) rfl rfl rfl rfl rfl rfl hw) rfl (fun b _ => ?_)))
 refine tt (t_box (i := 2) rfl rfl rfl rfl rfl rfl hw) rfl (fun b_2 _ => ?_)
 refine tt (t_alloc (i := 3) rfl rfl rfl Tryz.zeroValue28 rfl rfl hw) rfl (fun b_3 _ => ?_)
 refine tt (t_alloc (i := 4) rfl rfl rfl Tryz.zeroValue28 rfl rfl hw) rfl (fun b_4 _ => ?_)
 refine as_ rfl rfl (l_nil (x_then (e_seq (e_seq (e_reg (dt (d_lb2 (i := 1) rfl rfl rfl Tryz.isAgg28 Tryz.sizeOf28 rfl rfl) rfl ?_))))))
 refine dt (d_lb2 (i := 2) rfl rfl rfl Tryz.isAgg28 Tryz.sizeOf28 rfl rfl) rfl ?_
 refine tt (t_call (n := 4) (wide_both_ok _ _ (by assumption) (by assumption)) rfl rfl rfl ⟨rfl, rfl, trivial⟩ Tryz.call101 pre_nil rfl hw) rfl (fun _ _ => ?_)
 refine dt (d_notb rfl rfl) rfl ?_
 refine l_nil (x_then (e_condf rfl ?_))
 refine e_skip ?_
 refine x_then (e_seq (e_seq (e_reg (dt (d_fa rfl rfl Tryz.underlying28 rfl Tryz.sizeOf9 rfl rfl) rfl ?_))))
 refine dt (d_lb (i := 2) rfl rfl rfl Tryz.isAgg9 rfl) rfl ?_
 refine dt (d_eqs0 rfl rfl rfl rfl) rfl ?_
 refine l_nil (x_then (e_cond rfl (fun h337 => ?_) (fun h337 => ?_)))
 ·rw [bstr_size] at h337
  exfalso; exact hy0 (by have := (dg_nil_iff (by omega : 2 ≤ 256) y.natAbs).1 h337; omega)
 ·refine e_skip ?_
  refine x_then (e_jn [(4, _), (5, _)] [(0, _), (1, _), (2, _), (3, _), (4, _)] (fun (q : Bool × Value × Value × Nat × Nat) => [(7, .pointer (some ⟨q.2.2.2.1, 0, none⟩)), (8, .pointer (some ⟨q.2.2.2.2, 0, none⟩))]) (fun (q : Bool × Value × Value × Nat × Nat) => [(84, dgp q.2.1 (x / y).natAbs), (85, dgp q.2.2.1 (x % y).natAbs), (86, box q.2.2.2.1 129 #[.bool q.1, q.2.1]), (87, box q.2.2.2.2 129 #[.bool false, q.2.2.1])]) (fun (q : Bool × Value × Value × Nat × Nat) => (sg q.1 (x / y))) ⟨rfl, rfl, trivial⟩ ⟨rfl, rfl, rfl, rfl, rfl, trivial⟩ ?_ ?_)
  ·refine e_dregf [1, 2] [11] (by kernel_rfl) ?_
   refine a_lin' (n := 10) [(0, 0), (2, 0)] (by kernel_rfl) ?_
   refine r0' rfl rfl rfl rfl (stf (d_lb2 (i := 1) rfl rfl rfl Tryz.isAgg28 Tryz.sizeOf28 rfl rfl) ⟨rfl, rfl, trivial⟩) ?_
   refine r0' rfl rfl rfl rfl (stf (d_lb2 (i := 2) rfl rfl rfl Tryz.isAgg28 Tryz.sizeOf28 rfl rfl) ⟨rfl, rfl, trivial⟩) ?_
   refine r_fin ?_
   refine a_br3 (n := 9) 1 8 9 (by kernel_rfl) ?_ ?_ ?_
   ·refine aact' rfl rfl (t_call (n := 81) (wide_of _ _ (sg_dec _) (by omega)) rfl rfl rfl ⟨rfl, trivial⟩ Tryz.call102 pre_nil rfl hw) (fun g hg => ?_)
    refine a_br3 (n := 8) 3 8 9 (by kernel_rfl) ?_ ?_ ?_
    ·refine aact' rfl rfl (t_call (n := 82) (wide_of _ _ (sg_dec _) (by omega)) rfl rfl rfl ⟨rfl, trivial⟩ Tryz.call102 pre_nil rfl hw) (fun g_2 hg_2 => ?_)
     refine a_br3 (n := 7) 4 8 9 (by kernel_rfl) ?_ ?_ ?_
     ·refine aact' rfl rfl (t_call (n := 84) (num_div _ _ _ _ _ _ (by assumption) (by assumption) (by omega) (by omega) hy0) rfl rfl rfl ⟨rfl, rfl, trivial⟩ Tryz.call106 (pre_same 81 rfl rfl rfl (pre_same 82 rfl rfl rfl pre_nil)) rfl hw) (fun g_3 hg_3 => ?_)
      refine a_lin' (n := 4) [(5, 0), (6, 0), (7, 0)] (by kernel_rfl) ?_
      refine r0' rfl rfl rfl rfl (stf (d_mv rfl rfl) ⟨rfl, rfl, trivial⟩) ?_
      refine r0' rfl rfl rfl rfl (stf (d_ex rfl rfl rfl) ⟨rfl, rfl, trivial⟩) ?_
      refine r0' rfl rfl rfl rfl (stf (d_ex rfl rfl rfl) ⟨rfl, rfl, trivial⟩) ?_
      refine r_fin ?_
      refine a_br2 (n := 3) 8 9 (by kernel_rfl) ?_ ?_
      ·refine aact' rfl rfl (t_allocf (i := 86) rfl rfl rfl Tryz.zeroValue129 rfl rfl hw ⟨rfl, rfl, trivial⟩) (fun b_5 hoff => ?_)
       refine a_lin' (n := 0) [(9, 1), (10, 1), (11, 3)] (by kernel_rfl) ?_
       refine r1' rfl rfl (t_allocf (i := 87) rfl rfl rfl Tryz.zeroValue129 rfl rfl hw ⟨rfl, rfl, trivial⟩) (fun b_6 hoff_2 => ?_)
       refine r1' rfl rfl (t_stw (i := 86) rfl rfl rfl rfl rfl (by decide) rfl Tryz.sizeOf129 rfl rfl ⟨(one_rfl rfl), (one_rd (i := 84) rfl rd_slp), trivial⟩ rfl hw hoff) (fun _ _ => ?_)
       refine r3' rfl rfl (t_stw (i := 87) rfl rfl rfl rfl rfl (by decide) rfl Tryz.sizeOf129 rfl rfl ⟨(one_rfl rfl), (one_rd (i := 85) rfl rd_slp), trivial⟩ rfl hw trivial) (fun _ _ => ?_)
       refine r_fin ?_
       refine a_done (by kernel_rfl) ?_
       exact x_jn (_, _, _, _, _) (by assumption) ⟨rfl, rfl, rfl, rfl, trivial⟩ ⟨rfl, rfl, rfl, rfl, rfl, rfl, rfl, rfl, rfl, trivial⟩
      ·refine aact' rfl rfl (t_allocf (i := 87) rfl rfl rfl Tryz.zeroValue129 rfl rfl hw ⟨rfl, rfl, trivial⟩) (fun b_7 hoff_3 => ?_)
       refine a_lin' (n := 0) [(8, 1), (10, 1), (11, 3)] (by kernel_rfl) ?_
       refine r1' rfl rfl (t_allocf (i := 86) rfl rfl rfl Tryz.zeroValue129 rfl rfl hw ⟨rfl, rfl, trivial⟩) (fun b_8 hoff_4 => ?_)
       refine r1' rfl rfl (t_stw (i := 86) rfl rfl rfl rfl rfl (by decide) rfl Tryz.sizeOf129 rfl rfl ⟨(one_rfl rfl), (one_rd (i := 84) rfl rd_slp), trivial⟩ rfl hw hoff_4) (fun _ _ => ?_)
       refine r3' rfl rfl (t_stw (i := 87) rfl rfl rfl rfl rfl (by decide) rfl Tryz.sizeOf129 rfl rfl ⟨(one_rfl rfl), (one_rd (i := 85) rfl rd_slp), trivial⟩ rfl hw trivial) (fun _ _ => ?_)
       refine r_fin ?_
       refine a_done (by kernel_rfl) ?_
       exact x_jn (_, _, _, _, _) (by assumption) ⟨rfl, rfl, rfl, rfl, trivial⟩ ⟨rfl, rfl, rfl, rfl, rfl, rfl, rfl, rfl, rfl, trivial⟩
     ·refine aact' rfl rfl (t_allocf (i := 86) rfl rfl rfl Tryz.zeroValue129 rfl rfl hw ⟨rfl, rfl, trivial⟩) (fun b_9 hoff_5 => ?_)
      refine a_br2 (n := 6) 4 9 (by kernel_rfl) ?_ ?_
      ·refine aact' rfl rfl (t_call (n := 84) (num_div _ _ _ _ _ _ (by assumption) (by assumption) (by omega) (by omega) hy0) rfl rfl rfl ⟨rfl, rfl, trivial⟩ Tryz.call106 (pre_same 81 rfl rfl rfl (pre_same 82 rfl rfl rfl pre_nil)) rfl hw) (fun g_4 hg_4 => ?_)
       refine a_lin' (n := 0) [(5, 0), (6, 0), (7, 0), (9, 1), (10, 1), (11, 3)] (by kernel_rfl) ?_
       refine r0' rfl rfl rfl rfl (stf (d_mv rfl rfl) ⟨rfl, rfl, trivial⟩) ?_
       refine r0' rfl rfl rfl rfl (stf (d_ex rfl rfl rfl) ⟨rfl, rfl, trivial⟩) ?_
       refine r0' rfl rfl rfl rfl (stf (d_ex rfl rfl rfl) ⟨rfl, rfl, trivial⟩) ?_
       refine r1' rfl rfl (t_allocf (i := 87) rfl rfl rfl Tryz.zeroValue129 rfl rfl hw ⟨rfl, rfl, trivial⟩) (fun b_10 hoff_6 => ?_)
       refine r1' rfl rfl (t_stw (i := 86) rfl rfl rfl rfl rfl (by decide) rfl Tryz.sizeOf129 rfl rfl ⟨(one_rfl rfl), (one_rd (i := 84) rfl rd_slp), trivial⟩ rfl hw hoff_5) (fun _ _ => ?_)
       refine r3' rfl rfl (t_stw (i := 87) rfl rfl rfl rfl rfl (by decide) rfl Tryz.sizeOf129 rfl rfl ⟨(one_rfl rfl), (one_rd (i := 85) rfl rd_slp), trivial⟩ rfl hw trivial) (fun _ _ => ?_)
       refine r_fin ?_
       refine a_done (by kernel_rfl) ?_
       exact x_jn (_, _, _, _, _) (by assumption) ⟨rfl, rfl, rfl, rfl, trivial⟩ ⟨rfl, rfl, rfl, rfl, rfl, rfl, rfl, rfl, rfl, trivial⟩
      ·refine aact' rfl rfl (t_allocf (i := 87) rfl rfl rfl Tryz.zeroValue129 rfl rfl hw ⟨rfl, rfl, trivial⟩) (fun b_11 hoff_7 => ?_)
       refine a_lin' (n := 0) [(4, 1), (5, 0), (6, 0), (7, 0), (10, 1), (11, 3)] (by kernel_rfl) ?_
       refine r1' rfl rfl (t_call (n := 84) (num_div _ _ _ _ _ _ (by assumption) (by assumption) (by omega) (by omega) hy0) rfl rfl rfl ⟨rfl, rfl, trivial⟩ Tryz.call106 (pre_same 81 rfl rfl rfl (pre_same 82 rfl rfl rfl pre_nil)) rfl hw) (fun g_5 hg_5 => ?_)
       refine r0' rfl rfl rfl rfl (stf (d_mv rfl rfl) ⟨rfl, rfl, trivial⟩) ?_
       refine r0' rfl rfl rfl rfl (stf (d_ex rfl rfl rfl) ⟨rfl, rfl, trivial⟩) ?_
       refine r0' rfl rfl rfl rfl (stf (d_ex rfl rfl rfl) ⟨rfl, rfl, trivial⟩) ?_
       refine r1' rfl rfl (t_stw (i := 86) rfl rfl rfl rfl rfl (by decide) rfl Tryz.sizeOf129 rfl rfl ⟨(one_rfl rfl), (one_rd (i := 84) rfl rd_slp), trivial⟩ rfl hw hoff_5) (fun _ _ => ?_)
       refine r3' rfl rfl (t_stw (i := 87) rfl rfl rfl rfl rfl (by decide) rfl Tryz.sizeOf129 rfl rfl ⟨(one_rfl rfl), (one_rd (i := 85) rfl rd_slp), trivial⟩ rfl hw trivial) (fun _ _ => ?_)
       refine r_fin ?_
       refine a_done (by kernel_rfl) ?_
       exact x_jn (_, _, _, _, _) (by assumption) ⟨rfl, rfl, rfl, rfl, trivial⟩ ⟨rfl, rfl, rfl, rfl, rfl, rfl, rfl, rfl, rfl, trivial⟩
     ·refine aact' rfl rfl (t_allocf (i := 87) rfl rfl rfl Tryz.zeroValue129 rfl rfl hw ⟨rfl, rfl, trivial⟩) (fun b_12 hoff_8 => ?_)
      refine a_br2 (n := 6) 4 8 (by kernel_rfl) ?_ ?_
      ·refine aact' rfl rfl (t_call (n := 84) (num_div _ _ _ _ _ _ (by assumption) (by assumption) (by omega) (by omega) hy0) rfl rfl rfl ⟨rfl, rfl, trivial⟩ Tryz.call106 (pre_same 81 rfl rfl rfl (pre_same 82 rfl rfl rfl pre_nil)) rfl hw) (fun g_6 hg_6 => ?_)
       refine a_lin' (n := 0) [(5, 0), (6, 0), (7, 0), (8, 1), (10, 1), (11, 3)] (by kernel_rfl) ?_
       refine r0' rfl rfl rfl rfl (stf (d_mv rfl rfl) ⟨rfl, rfl, trivial⟩) ?_
       refine r0' rfl rfl rfl rfl (stf (d_ex rfl rfl rfl) ⟨rfl, rfl, trivial⟩) ?_
       refine r0' rfl rfl rfl rfl (stf (d_ex rfl rfl rfl) ⟨rfl, rfl, trivial⟩) ?_
       refine r1' rfl rfl (t_allocf (i := 86) rfl rfl rfl Tryz.zeroValue129 rfl rfl hw ⟨rfl, rfl, trivial⟩) (fun b_13 hoff_9 => ?_)
       refine r1' rfl rfl (t_stw (i := 86) rfl rfl rfl rfl rfl (by decide) rfl Tryz.sizeOf129 rfl rfl ⟨(one_rfl rfl), (one_rd (i := 84) rfl rd_slp), trivial⟩ rfl hw hoff_9) (fun _ _ => ?_)
       refine r3' rfl rfl (t_stw (i := 87) rfl rfl rfl rfl rfl (by decide) rfl Tryz.sizeOf129 rfl rfl ⟨(one_rfl rfl), (one_rd (i := 85) rfl rd_slp), trivial⟩ rfl hw trivial) (fun _ _ => ?_)
       refine r_fin ?_
       refine a_done (by kernel_rfl) ?_
       exact x_jn (_, _, _, _, _) (by assumption) ⟨rfl, rfl, rfl, rfl, trivial⟩ ⟨rfl, rfl, rfl, rfl, rfl, rfl, rfl, rfl, rfl, trivial⟩
      ·refine aact' rfl rfl (t_allocf (i := 86) rfl rfl rfl Tryz.zeroValue129 rfl rfl hw ⟨rfl, rfl, trivial⟩) (fun b_14 hoff_10 => ?_)
       refine a_lin' (n := 0) [(4, 1), (5, 0), (6, 0), (7, 0), (10, 1), (11, 3)] (by kernel_rfl) ?_
       refine r1' rfl rfl (t_call (n := 84) (num_div _ _ _ _ _ _ (by assumption) (by assumption) (by omega) (by omega) hy0) rfl rfl rfl ⟨rfl, rfl, trivial⟩ Tryz.call106 (pre_same 81 rfl rfl rfl (pre_same 82 rfl rfl rfl pre_nil)) rfl hw) (fun g_7 hg_7 => ?_)
       refine r0' rfl rfl rfl rfl (stf (d_mv rfl rfl) ⟨rfl, rfl, trivial⟩) ?_
       refine r0' rfl rfl rfl rfl (stf (d_ex rfl rfl rfl) ⟨rfl, rfl, trivial⟩) ?_
       refine r0' rfl rfl rfl rfl (stf (d_ex rfl rfl rfl) ⟨rfl, rfl, trivial⟩) ?_
       refine r1' rfl rfl (t_stw (i := 86) rfl rfl rfl rfl rfl (by decide) rfl Tryz.sizeOf129 rfl rfl ⟨(one_rfl rfl), (one_rd (i := 84) rfl rd_slp), trivial⟩ rfl hw hoff_10) (fun _ _ => ?_)
       refine r3' rfl rfl (t_stw (i := 87) rfl rfl rfl rfl rfl (by decide) rfl Tryz.sizeOf129 rfl rfl ⟨(one_rfl rfl), (one_rd (i := 85) rfl rd_slp), trivial⟩ rfl hw trivial) (fun _ _ => ?_)
       refine r_fin ?_
       refine a_done (by kernel_rfl) ?_
       exact x_jn (_, _, _, _, _) (by assumption) ⟨rfl, rfl, rfl, rfl, trivial⟩ ⟨rfl, rfl, rfl, rfl, rfl, rfl, rfl, rfl, rfl, trivial⟩
    ·refine aact' rfl rfl (t_allocf (i := 86) rfl rfl rfl Tryz.zeroValue129 rfl rfl hw ⟨rfl, rfl, trivial⟩) (fun b_15 hoff_11 => ?_)
     refine a_br2 (n := 7) 3 9 (by kernel_rfl) ?_ ?_
     ·refine aact' rfl rfl (t_call (n := 82) (wide_of _ _ (sg_dec _) (by omega)) rfl rfl rfl ⟨rfl, trivial⟩ Tryz.call102 pre_nil rfl hw) (fun g_8 hg_8 => ?_)
      refine a_br2 (n := 6) 4 9 (by kernel_rfl) ?_ ?_
      ·refine aact' rfl rfl (t_call (n := 84) (num_div _ _ _ _ _ _ (by assumption) (by assumption) (by omega) (by omega) hy0) rfl rfl rfl ⟨rfl, rfl, trivial⟩ Tryz.call106 (pre_same 81 rfl rfl rfl (pre_same 82 rfl rfl rfl pre_nil)) rfl hw) (fun g_9 hg_9 => ?_)
       refine a_lin' (n := 0) [(5, 0), (6, 0), (7, 0), (9, 1), (10, 1), (11, 3)] (by kernel_rfl) ?_
       refine r0' rfl rfl rfl rfl (stf (d_mv rfl rfl) ⟨rfl, rfl, trivial⟩) ?_
       refine r0' rfl rfl rfl rfl (stf (d_ex rfl rfl rfl) ⟨rfl, rfl, trivial⟩) ?_
       refine r0' rfl rfl rfl rfl (stf (d_ex rfl rfl rfl) ⟨rfl, rfl, trivial⟩) ?_
       refine r1' rfl rfl (t_allocf (i := 87) rfl rfl rfl Tryz.zeroValue129 rfl rfl hw ⟨rfl, rfl, trivial⟩) (fun b_16 hoff_12 => ?_)
       refine r1' rfl rfl (t_stw (i := 86) rfl rfl rfl rfl rfl (by decide) rfl Tryz.sizeOf129 rfl rfl ⟨(one_rfl rfl), (one_rd (i := 84) rfl rd_slp), trivial⟩ rfl hw hoff_11) (fun _ _ => ?_)
       refine r3' rfl rfl (t_stw (i := 87) rfl rfl rfl rfl rfl (by decide) rfl Tryz.sizeOf129 rfl rfl ⟨(one_rfl rfl), (one_rd (i := 85) rfl rd_slp), trivial⟩ rfl hw trivial) (fun _ _ => ?_)
       refine r_fin ?_
       refine a_done (by kernel_rfl) ?_
       exact x_jn (_, _, _, _, _) (by assumption) ⟨rfl, rfl, rfl, rfl, trivial⟩ ⟨rfl, rfl, rfl, rfl, rfl, rfl, rfl, rfl, rfl, trivial⟩
      ·refine aact' rfl rfl (t_allocf (i := 87) rfl rfl rfl Tryz.zeroValue129 rfl rfl hw ⟨rfl, rfl, trivial⟩) (fun b_17 hoff_13 => ?_)
       refine a_lin' (n := 0) [(4, 1), (5, 0), (6, 0), (7, 0), (10, 1), (11, 3)] (by kernel_rfl) ?_
       refine r1' rfl rfl (t_call (n := 84) (num_div _ _ _ _ _ _ (by assumption) (by assumption) (by omega) (by omega) hy0) rfl rfl rfl ⟨rfl, rfl, trivial⟩ Tryz.call106 (pre_same 81 rfl rfl rfl (pre_same 82 rfl rfl rfl pre_nil)) rfl hw) (fun g_10 hg_10 => ?_)
       refine r0' rfl rfl rfl rfl (stf (d_mv rfl rfl) ⟨rfl, rfl, trivial⟩) ?_
       refine r0' rfl rfl rfl rfl (stf (d_ex rfl rfl rfl) ⟨rfl, rfl, trivial⟩) ?_
       refine r0' rfl rfl rfl rfl (stf (d_ex rfl rfl rfl) ⟨rfl, rfl, trivial⟩) ?_
       refine r1' rfl rfl (t_stw (i := 86) rfl rfl rfl rfl rfl (by decide) rfl Tryz.sizeOf129 rfl rfl ⟨(one_rfl rfl), (one_rd (i := 84) rfl rd_slp), trivial⟩ rfl hw hoff_11) (fun _ _ => ?_)
       refine r3' rfl rfl (t_stw (i := 87) rfl rfl rfl rfl rfl (by decide) rfl Tryz.sizeOf129 rfl rfl ⟨(one_rfl rfl), (one_rd (i := 85) rfl rd_slp), trivial⟩ rfl hw trivial) (fun _ _ => ?_)
       refine r_fin ?_
       refine a_done (by kernel_rfl) ?_
       exact x_jn (_, _, _, _, _) (by assumption) ⟨rfl, rfl, rfl, rfl, trivial⟩ ⟨rfl, rfl, rfl, rfl, rfl, rfl, rfl, rfl, rfl, trivial⟩
     ·refine aact' rfl rfl (t_allocf (i := 87) rfl rfl rfl Tryz.zeroValue129 rfl rfl hw ⟨rfl, rfl, trivial⟩) (fun b_18 hoff_14 => ?_)
      refine a_lin' (n := 0) [(3, 1), (4, 1), (5, 0), (6, 0), (7, 0), (10, 1), (11, 3)] (by kernel_rfl) ?_
      refine r1' rfl rfl (t_call (n := 82) (wide_of _ _ (sg_dec _) (by omega)) rfl rfl rfl ⟨rfl, trivial⟩ Tryz.call102 pre_nil rfl hw) (fun g_11 hg_11 => ?_)
      refine r1' rfl rfl (t_call (n := 84) (num_div _ _ _ _ _ _ (by assumption) (by assumption) (by omega) (by omega) hy0) rfl rfl rfl ⟨rfl, rfl, trivial⟩ Tryz.call106 (pre_same 81 rfl rfl rfl (pre_same 82 rfl rfl rfl pre_nil)) rfl hw) (fun g_12 hg_12 => ?_)
      refine r0' rfl rfl rfl rfl (stf (d_mv rfl rfl) ⟨rfl, rfl, trivial⟩) ?_
      refine r0' rfl rfl rfl rfl (stf (d_ex rfl rfl rfl) ⟨rfl, rfl, trivial⟩) ?_
      refine r0' rfl rfl rfl rfl (stf (d_ex rfl rfl rfl) ⟨rfl, rfl, trivial⟩) ?_
      refine r1' rfl rfl (t_stw (i := 86) rfl rfl rfl rfl rfl (by decide) rfl Tryz.sizeOf129 rfl rfl ⟨(one_rfl rfl), (one_rd (i := 84) rfl rd_slp), trivial⟩ rfl hw hoff_11) (fun _ _ => ?_)
      refine r3' rfl rfl (t_stw (i := 87) rfl rfl rfl rfl rfl (by decide) rfl Tryz.sizeOf129 rfl rfl ⟨(one_rfl rfl), (one_rd (i := 85) rfl rd_slp), trivial⟩ rfl hw trivial) (fun _ _ => ?_)
      refine r_fin ?_
      refine a_done (by kernel_rfl) ?_
      exact x_jn (_, _, _, _, _) (by assumption) ⟨rfl, rfl, rfl, rfl, trivial⟩ ⟨rfl, rfl, rfl, rfl, rfl, rfl, rfl, rfl, rfl, trivial⟩
    ·refine aact' rfl rfl (t_allocf (i := 87) rfl rfl rfl Tryz.zeroValue129 rfl rfl hw ⟨rfl, rfl, trivial⟩) (fun b_19 hoff_15 => ?_)
     refine a_br2 (n := 7) 3 8 (by kernel_rfl) ?_ ?_
     ·refine aact' rfl rfl (t_call (n := 82) (wide_of _ _ (sg_dec _) (by omega)) rfl rfl rfl ⟨rfl, trivial⟩ Tryz.call102 pre_nil rfl hw) (fun g_13 hg_13 => ?_)
      refine a_br2 (n := 6) 4 8 (by kernel_rfl) ?_ ?_
      ·refine aact' rfl rfl (t_call (n := 84) (num_div _ _ _ _ _ _ (by assumption) (by assumption) (by omega) (by omega) hy0) rfl rfl rfl ⟨rfl, rfl, trivial⟩ Tryz.call106 (pre_same 81 rfl rfl rfl (pre_same 82 rfl rfl rfl pre_nil)) rfl hw) (fun g_14 hg_14 => ?_)
       refine a_lin' (n := 0) [(5, 0), (6, 0), (7, 0), (8, 1), (10, 1), (11, 3)] (by kernel_rfl) ?_
       refine r0' rfl rfl rfl rfl (stf (d_mv rfl rfl) ⟨rfl, rfl, trivial⟩) ?_
       refine r0' rfl rfl rfl rfl (stf (d_ex rfl rfl rfl) ⟨rfl, rfl, trivial⟩) ?_
       refine r0' rfl rfl rfl rfl (stf (d_ex rfl rfl rfl) ⟨rfl, rfl, trivial⟩) ?_
       refine r1' rfl rfl (t_allocf (i := 86) rfl rfl rfl Tryz.zeroValue129 rfl rfl hw ⟨rfl, rfl, trivial⟩) (fun b_20 hoff_16 => ?_)
       refine r1' rfl rfl (t_stw (i := 86) rfl rfl rfl rfl rfl (by decide) rfl Tryz.sizeOf129 rfl rfl ⟨(one_rfl rfl), (one_rd (i := 84) rfl rd_slp), trivial⟩ rfl hw hoff_16) (fun _ _ => ?_)
       refine r3' rfl rfl (t_stw (i := 87) rfl rfl rfl rfl rfl (by decide) rfl Tryz.sizeOf129 rfl rfl ⟨(one_rfl rfl), (one_rd (i := 85) rfl rd_slp), trivial⟩ rfl hw trivial) (fun _ _ => ?_)
       refine r_fin ?_
       refine a_done (by kernel_rfl) ?_
       exact x_jn (_, _, _, _, _) (by assumption) ⟨rfl, rfl, rfl, rfl, trivial⟩ ⟨rfl, rfl, rfl, rfl, rfl, rfl, rfl, rfl, rfl, trivial⟩
      ·refine aact' rfl rfl (t_allocf (i := 86) rfl rfl rfl Tryz.zeroValue129 rfl rfl hw ⟨rfl, rfl, trivial⟩) (fun b_21 hoff_17 => ?_)
       refine a_lin' (n := 0) [(4, 1), (5, 0), (6, 0), (7, 0), (10, 1), (11, 3)] (by kernel_rfl) ?_
       refine r1' rfl rfl (t_call (n := 84) (num_div _ _ _ _ _ _ (by assumption) (by assumption) (by omega) (by omega) hy0) rfl rfl rfl ⟨rfl, rfl, trivial⟩ Tryz.call106 (pre_same 81 rfl rfl rfl (pre_same 82 rfl rfl rfl pre_nil)) rfl hw) (fun g_15 hg_15 => ?_)
       refine r0' rfl rfl rfl rfl (stf (d_mv rfl rfl) ⟨rfl, rfl, trivial⟩) ?_
       refine r0' rfl rfl rfl rfl (stf (d_ex rfl rfl rfl) ⟨rfl, rfl, trivial⟩) ?_
       refine r0' rfl rfl rfl rfl (stf (d_ex rfl rfl rfl) ⟨rfl, rfl, trivial⟩) ?_
       refine r1' rfl rfl (t_stw (i := 86) rfl rfl rfl rfl rfl (by decide) rfl Tryz.sizeOf129 rfl rfl ⟨(one_rfl rfl), (one_rd (i := 84) rfl rd_slp), trivial⟩ rfl hw hoff_17) (fun _ _ => ?_)
       refine r3' rfl rfl (t_stw (i := 87) rfl rfl rfl rfl rfl (by decide) rfl Tryz.sizeOf129 rfl rfl ⟨(one_rfl rfl), (one_rd (i := 85) rfl rd_slp), trivial⟩ rfl hw trivial) (fun _ _ => ?_)
       refine r_fin ?_
       refine a_done (by kernel_rfl) ?_
       exact x_jn (_, _, _, _, _) (by assumption) ⟨rfl, rfl, rfl, rfl, trivial⟩ ⟨rfl, rfl, rfl, rfl, rfl, rfl, rfl, rfl, rfl, trivial⟩
     ·refine aact' rfl rfl (t_allocf (i := 86) rfl rfl rfl Tryz.zeroValue129 rfl rfl hw ⟨rfl, rfl, trivial⟩) (fun b_22 hoff_18 => ?_)
      refine a_lin' (n := 0) [(3, 1), (4, 1), (5, 0), (6, 0), (7, 0), (10, 1), (11, 3)] (by kernel_rfl) ?_
      refine r1' rfl rfl (t_call (n := 82) (wide_of _ _ (sg_dec _) (by omega)) rfl rfl rfl ⟨rfl, trivial⟩ Tryz.call102 pre_nil rfl hw) (fun g_16 hg_16 => ?_)
      refine r1' rfl rfl (t_call (n := 84) (num_div _ _ _ _ _ _ (by assumption) (by assumption) (by omega) (by omega) hy0) rfl rfl rfl ⟨rfl, rfl, trivial⟩ Tryz.call106 (pre_same 81 rfl rfl rfl (pre_same 82 rfl rfl rfl pre_nil)) rfl hw) (fun g_17 hg_17 => ?_)
      refine r0' rfl rfl rfl rfl (stf (d_mv rfl rfl) ⟨rfl, rfl, trivial⟩) ?_
      refine r0' rfl rfl rfl rfl (stf (d_ex rfl rfl rfl) ⟨rfl, rfl, trivial⟩) ?_
      refine r0' rfl rfl rfl rfl (stf (d_ex rfl rfl rfl) ⟨rfl, rfl, trivial⟩) ?_
      refine r1' rfl rfl (t_stw (i := 86) rfl rfl rfl rfl rfl (by decide) rfl Tryz.sizeOf129 rfl rfl ⟨(one_rfl rfl), (one_rd (i := 84) rfl rd_slp), trivial⟩ rfl hw hoff_18) (fun _ _ => ?_)
      refine r3' rfl rfl (t_stw (i := 87) rfl rfl rfl rfl rfl (by decide) rfl Tryz.sizeOf129 rfl rfl ⟨(one_rfl rfl), (one_rd (i := 85) rfl rd_slp), trivial⟩ rfl hw trivial) (fun _ _ => ?_)
      refine r_fin ?_
      refine a_done (by kernel_rfl) ?_
      exact x_jn (_, _, _, _, _) (by assumption) ⟨rfl, rfl, rfl, rfl, trivial⟩ ⟨rfl, rfl, rfl, rfl, rfl, rfl, rfl, rfl, rfl, trivial⟩
   ·refine aact' rfl rfl (t_allocf (i := 86) rfl rfl rfl Tryz.zeroValue129 rfl rfl hw ⟨rfl, rfl, trivial⟩) (fun b_23 hoff_19 => ?_)
    refine a_br2 (n := 8) 1 9 (by kernel_rfl) ?_ ?_
    ·refine aact' rfl rfl (t_call (n := 81) (wide_of _ _ (sg_dec _) (by omega)) rfl rfl rfl ⟨rfl, trivial⟩ Tryz.call102 pre_nil rfl hw) (fun g_18 hg_18 => ?_)
     refine a_br2 (n := 7) 3 9 (by kernel_rfl) ?_ ?_
     ·refine aact' rfl rfl (t_call (n := 82) (wide_of _ _ (sg_dec _) (by omega)) rfl rfl rfl ⟨rfl, trivial⟩ Tryz.call102 pre_nil rfl hw) (fun g_19 hg_19 => ?_)
      refine a_br2 (n := 6) 4 9 (by kernel_rfl) ?_ ?_
      ·refine aact' rfl rfl (t_call (n := 84) (num_div _ _ _ _ _ _ (by assumption) (by assumption) (by omega) (by omega) hy0) rfl rfl rfl ⟨rfl, rfl, trivial⟩ Tryz.call106 (pre_same 81 rfl rfl rfl (pre_same 82 rfl rfl rfl pre_nil)) rfl hw) (fun g_20 hg_20 => ?_)
       refine a_lin' (n := 0) [(5, 0), (6, 0), (7, 0), (9, 1), (10, 1), (11, 3)] (by kernel_rfl) ?_
       refine r0' rfl rfl rfl rfl (stf (d_mv rfl rfl) ⟨rfl, rfl, trivial⟩) ?_
       refine r0' rfl rfl rfl rfl (stf (d_ex rfl rfl rfl) ⟨rfl, rfl, trivial⟩) ?_
       refine r0' rfl rfl rfl rfl (stf (d_ex rfl rfl rfl) ⟨rfl, rfl, trivial⟩) ?_
       refine r1' rfl rfl (t_allocf (i := 87) rfl rfl rfl Tryz.zeroValue129 rfl rfl hw ⟨rfl, rfl, trivial⟩) (fun b_24 hoff_20 => ?_)
       refine r1' rfl rfl (t_stw (i := 86) rfl rfl rfl rfl rfl (by decide) rfl Tryz.sizeOf129 rfl rfl ⟨(one_rfl rfl), (one_rd (i := 84) rfl rd_slp), trivial⟩ rfl hw hoff_19) (fun _ _ => ?_)
       refine r3' rfl rfl (t_stw (i := 87) rfl rfl rfl rfl rfl (by decide) rfl Tryz.sizeOf129 rfl rfl ⟨(one_rfl rfl), (one_rd (i := 85) rfl rd_slp), trivial⟩ rfl hw trivial) (fun _ _ => ?_)
       refine r_fin ?_
       refine a_done (by kernel_rfl) ?_
       exact x_jn (_, _, _, _, _) (by assumption) ⟨rfl, rfl, rfl, rfl, trivial⟩ ⟨rfl, rfl, rfl, rfl, rfl, rfl, rfl, rfl, rfl, trivial⟩
      ·refine aact' rfl rfl (t_allocf (i := 87) rfl rfl rfl Tryz.zeroValue129 rfl rfl hw ⟨rfl, rfl, trivial⟩) (fun b_25 hoff_21 => ?_)
       refine a_lin' (n := 0) [(4, 1), (5, 0), (6, 0), (7, 0), (10, 1), (11, 3)] (by kernel_rfl) ?_
       refine r1' rfl rfl (t_call (n := 84) (num_div _ _ _ _ _ _ (by assumption) (by assumption) (by omega) (by omega) hy0) rfl rfl rfl ⟨rfl, rfl, trivial⟩ Tryz.call106 (pre_same 81 rfl rfl rfl (pre_same 82 rfl rfl rfl pre_nil)) rfl hw) (fun g_21 hg_21 => ?_)
       refine r0' rfl rfl rfl rfl (stf (d_mv rfl rfl) ⟨rfl, rfl, trivial⟩) ?_
       refine r0' rfl rfl rfl rfl (stf (d_ex rfl rfl rfl) ⟨rfl, rfl, trivial⟩) ?_
       refine r0' rfl rfl rfl rfl (stf (d_ex rfl rfl rfl) ⟨rfl, rfl, trivial⟩) ?_
       refine r1' rfl rfl (t_stw (i := 86) rfl rfl rfl rfl rfl (by decide) rfl Tryz.sizeOf129 rfl rfl ⟨(one_rfl rfl), (one_rd (i := 84) rfl rd_slp), trivial⟩ rfl hw hoff_19) (fun _ _ => ?_)
       refine r3' rfl rfl (t_stw (i := 87) rfl rfl rfl rfl rfl (by decide) rfl Tryz.sizeOf129 rfl rfl ⟨(one_rfl rfl), (one_rd (i := 85) rfl rd_slp), trivial⟩ rfl hw trivial) (fun _ _ => ?_)
       refine r_fin ?_
       refine a_done (by kernel_rfl) ?_
       exact x_jn (_, _, _, _, _) (by assumption) ⟨rfl, rfl, rfl, rfl, trivial⟩ ⟨rfl, rfl, rfl, rfl, rfl, rfl, rfl, rfl, rfl, trivial⟩
     ·refine aact' rfl rfl (t_allocf (i := 87) rfl rfl rfl Tryz.zeroValue129 rfl rfl hw ⟨rfl, rfl, trivial⟩) (fun b_26 hoff_22 => ?_)
      refine a_lin' (n := 0) [(3, 1), (4, 1), (5, 0), (6, 0), (7, 0), (10, 1), (11, 3)] (by kernel_rfl) ?_
      refine r1' rfl rfl (t_call (n := 82) (wide_of _ _ (sg_dec _) (by omega)) rfl rfl rfl ⟨rfl, trivial⟩ Tryz.call102 pre_nil rfl hw) (fun g_22 hg_22 => ?_)
      refine r1' rfl rfl (t_call (n := 84) (num_div _ _ _ _ _ _ (by assumption) (by assumption) (by omega) (by omega) hy0) rfl rfl rfl ⟨rfl, rfl, trivial⟩ Tryz.call106 (pre_same 81 rfl rfl rfl (pre_same 82 rfl rfl rfl pre_nil)) rfl hw) (fun g_23 hg_23 => ?_)
      refine r0' rfl rfl rfl rfl (stf (d_mv rfl rfl) ⟨rfl, rfl, trivial⟩) ?_
      refine r0' rfl rfl rfl rfl (stf (d_ex rfl rfl rfl) ⟨rfl, rfl, trivial⟩) ?_
      refine r0' rfl rfl rfl rfl (stf (d_ex rfl rfl rfl) ⟨rfl, rfl, trivial⟩) ?_
      refine r1' rfl rfl (t_stw (i := 86) rfl rfl rfl rfl rfl (by decide) rfl Tryz.sizeOf129 rfl rfl ⟨(one_rfl rfl), (one_rd (i := 84) rfl rd_slp), trivial⟩ rfl hw hoff_19) (fun _ _ => ?_)
      refine r3' rfl rfl (t_stw (i := 87) rfl rfl rfl rfl rfl (by decide) rfl Tryz.sizeOf129 rfl rfl ⟨(one_rfl rfl), (one_rd (i := 85) rfl rd_slp), trivial⟩ rfl hw trivial) (fun _ _ => ?_)
      refine r_fin ?_
      refine a_done (by kernel_rfl) ?_
      exact x_jn (_, _, _, _, _) (by assumption) ⟨rfl, rfl, rfl, rfl, trivial⟩ ⟨rfl, rfl, rfl, rfl, rfl, rfl, rfl, rfl, rfl, trivial⟩
    ·refine aact' rfl rfl (t_allocf (i := 87) rfl rfl rfl Tryz.zeroValue129 rfl rfl hw ⟨rfl, rfl, trivial⟩) (fun b_27 hoff_23 => ?_)
     refine a_lin' (n := 0) [(1, 1), (3, 1), (4, 1), (5, 0), (6, 0), (7, 0), (10, 1), (11, 3)] (by kernel_rfl) ?_
     refine r1' rfl rfl (t_call (n := 81) (wide_of _ _ (sg_dec _) (by omega)) rfl rfl rfl ⟨rfl, trivial⟩ Tryz.call102 pre_nil rfl hw) (fun g_24 hg_24 => ?_)
     refine r1' rfl rfl (t_call (n := 82) (wide_of _ _ (sg_dec _) (by omega)) rfl rfl rfl ⟨rfl, trivial⟩ Tryz.call102 pre_nil rfl hw) (fun g_25 hg_25 => ?_)
     refine r1' rfl rfl (t_call (n := 84) (num_div _ _ _ _ _ _ (by assumption) (by assumption) (by omega) (by omega) hy0) rfl rfl rfl ⟨rfl, rfl, trivial⟩ Tryz.call106 (pre_same 81 rfl rfl rfl (pre_same 82 rfl rfl rfl pre_nil)) rfl hw) (fun g_26 hg_26 => ?_)
     refine r0' rfl rfl rfl rfl (stf (d_mv rfl rfl) ⟨rfl, rfl, trivial⟩) ?_
     refine r0' rfl rfl rfl rfl (stf (d_ex rfl rfl rfl) ⟨rfl, rfl, trivial⟩) ?_
     refine r0' rfl rfl rfl rfl (stf (d_ex rfl rfl rfl) ⟨rfl, rfl, trivial⟩) ?_
     refine r1' rfl rfl (t_stw (i := 86) rfl rfl rfl rfl rfl (by decide) rfl Tryz.sizeOf129 rfl rfl ⟨(one_rfl rfl), (one_rd (i := 84) rfl rd_slp), trivial⟩ rfl hw hoff_19) (fun _ _ => ?_)
     refine r3' rfl rfl (t_stw (i := 87) rfl rfl rfl rfl rfl (by decide) rfl Tryz.sizeOf129 rfl rfl ⟨(one_rfl rfl), (one_rd (i := 85) rfl rd_slp), trivial⟩ rfl hw trivial) (fun _ _ => ?_)
     refine r_fin ?_
     refine a_done (by kernel_rfl) ?_
     exact x_jn (_, _, _, _, _) (by assumption) ⟨rfl, rfl, rfl, rfl, trivial⟩ ⟨rfl, rfl, rfl, rfl, rfl, rfl, rfl, rfl, rfl, trivial⟩
   ·refine aact' rfl rfl (t_allocf (i := 87) rfl rfl rfl Tryz.zeroValue129 rfl rfl hw ⟨rfl, rfl, trivial⟩) (fun b_28 hoff_24 => ?_)
    refine a_br2 (n := 8) 1 8 (by kernel_rfl) ?_ ?_
    ·refine aact' rfl rfl (t_call (n := 81) (wide_of _ _ (sg_dec _) (by omega)) rfl rfl rfl ⟨rfl, trivial⟩ Tryz.call102 pre_nil rfl hw) (fun g_27 hg_27 => ?_)
     refine a_br2 (n := 7) 3 8 (by kernel_rfl) ?_ ?_
     ·refine aact' rfl rfl (t_call (n := 82) (wide_of _ _ (sg_dec _) (by omega)) rfl rfl rfl ⟨rfl, trivial⟩ Tryz.call102 pre_nil rfl hw) (fun g_28 hg_28 => ?_)
      refine a_br2 (n := 6) 4 8 (by kernel_rfl) ?_ ?_
      ·refine aact' rfl rfl (t_call (n := 84) (num_div _ _ _ _ _ _ (by assumption) (by assumption) (by omega) (by omega) hy0) rfl rfl rfl ⟨rfl, rfl, trivial⟩ Tryz.call106 (pre_same 81 rfl rfl rfl (pre_same 82 rfl rfl rfl pre_nil)) rfl hw) (fun g_29 hg_29 => ?_)
       refine a_lin' (n := 0) [(5, 0), (6, 0), (7, 0), (8, 1), (10, 1), (11, 3)] (by kernel_rfl) ?_
       refine r0' rfl rfl rfl rfl (stf (d_mv rfl rfl) ⟨rfl, rfl, trivial⟩) ?_
       refine r0' rfl rfl rfl rfl (stf (d_ex rfl rfl rfl) ⟨rfl, rfl, trivial⟩) ?_
       refine r0' rfl rfl rfl rfl (stf (d_ex rfl rfl rfl) ⟨rfl, rfl, trivial⟩) ?_
       refine r1' rfl rfl (t_allocf (i := 86) rfl rfl rfl Tryz.zeroValue129 rfl rfl hw ⟨rfl, rfl, trivial⟩) (fun b_29 hoff_25 => ?_)
       refine r1' rfl rfl (t_stw (i := 86) rfl rfl rfl rfl rfl (by decide) rfl Tryz.sizeOf129 rfl rfl ⟨(one_rfl rfl), (one_rd (i := 84) rfl rd_slp), trivial⟩ rfl hw hoff_25) (fun _ _ => ?_)
       refine r3' rfl rfl (t_stw (i := 87) rfl rfl rfl rfl rfl (by decide) rfl Tryz.sizeOf129 rfl rfl ⟨(one_rfl rfl), (one_rd (i := 85) rfl rd_slp), trivial⟩ rfl hw trivial) (fun _ _ => ?_)
       refine r_fin ?_
       refine a_done (by kernel_rfl) ?_
       exact x_jn (_, _, _, _, _) (by assumption) ⟨rfl, rfl, rfl, rfl, trivial⟩ ⟨rfl, rfl, rfl, rfl, rfl, rfl, rfl, rfl, rfl, trivial⟩
      ·refine aact' rfl rfl (t_allocf (i := 86) rfl rfl rfl Tryz.zeroValue129 rfl rfl hw ⟨rfl, rfl, trivial⟩) (fun b_30 hoff_26 => ?_)
       refine a_lin' (n := 0) [(4, 1), (5, 0), (6, 0), (7, 0), (10, 1), (11, 3)] (by kernel_rfl) ?_
       refine r1' rfl rfl (t_call (n := 84) (num_div _ _ _ _ _ _ (by assumption) (by assumption) (by omega) (by omega) hy0) rfl rfl rfl ⟨rfl, rfl, trivial⟩ Tryz.call106 (pre_same 81 rfl rfl rfl (pre_same 82 rfl rfl rfl pre_nil)) rfl hw) (fun g_30 hg_30 => ?_)
       refine r0' rfl rfl rfl rfl (stf (d_mv rfl rfl) ⟨rfl, rfl, trivial⟩) ?_
       refine r0' rfl rfl rfl rfl (stf (d_ex rfl rfl rfl) ⟨rfl, rfl, trivial⟩) ?_
       refine r0' rfl rfl rfl rfl (stf (d_ex rfl rfl rfl) ⟨rfl, rfl, trivial⟩) ?_
       refine r1' rfl rfl (t_stw (i := 86) rfl rfl rfl rfl rfl (by decide) rfl Tryz.sizeOf129 rfl rfl ⟨(one_rfl rfl), (one_rd (i := 84) rfl rd_slp), trivial⟩ rfl hw hoff_26) (fun _ _ => ?_)
       refine r3' rfl rfl (t_stw (i := 87) rfl rfl rfl rfl rfl (by decide) rfl Tryz.sizeOf129 rfl rfl ⟨(one_rfl rfl), (one_rd (i := 85) rfl rd_slp), trivial⟩ rfl hw trivial) (fun _ _ => ?_)
       refine r_fin ?_
       refine a_done (by kernel_rfl) ?_
       exact x_jn (_, _, _, _, _) (by assumption) ⟨rfl, rfl, rfl, rfl, trivial⟩ ⟨rfl, rfl, rfl, rfl, rfl, rfl, rfl, rfl, rfl, trivial⟩
     ·refine aact' rfl rfl (t_allocf (i := 86) rfl rfl rfl Tryz.zeroValue129 rfl rfl hw ⟨rfl, rfl, trivial⟩) (fun b_31 hoff_27 => ?_)
      refine a_lin' (n := 0) [(3, 1), (4, 1), (5, 0), (6, 0), (7, 0), (10, 1), (11, 3)] (by kernel_rfl) ?_
      refine r1' rfl rfl (t_call (n := 82) (wide_of _ _ (sg_dec _) (by omega)) rfl rfl rfl ⟨rfl, trivial⟩ Tryz.call102 pre_nil rfl hw) (fun g_31 hg_31 => ?_)
      refine r1' rfl rfl (t_call (n := 84) (num_div _ _ _ _ _ _ (by assumption) (by assumption) (by omega) (by omega) hy0) rfl rfl rfl ⟨rfl, rfl, trivial⟩ Tryz.call106 (pre_same 81 rfl rfl rfl (pre_same 82 rfl rfl rfl pre_nil)) rfl hw) (fun g_32 hg_32 => ?_)
      refine r0' rfl rfl rfl rfl (stf (d_mv rfl rfl) ⟨rfl, rfl, trivial⟩) ?_
      refine r0' rfl rfl rfl rfl (stf (d_ex rfl rfl rfl) ⟨rfl, rfl, trivial⟩) ?_
      refine r0' rfl rfl rfl rfl (stf (d_ex rfl rfl rfl) ⟨rfl, rfl, trivial⟩) ?_
      refine r1' rfl rfl (t_stw (i := 86) rfl rfl rfl rfl rfl (by decide) rfl Tryz.sizeOf129 rfl rfl ⟨(one_rfl rfl), (one_rd (i := 84) rfl rd_slp), trivial⟩ rfl hw hoff_27) (fun _ _ => ?_)
      refine r3' rfl rfl (t_stw (i := 87) rfl rfl rfl rfl rfl (by decide) rfl Tryz.sizeOf129 rfl rfl ⟨(one_rfl rfl), (one_rd (i := 85) rfl rd_slp), trivial⟩ rfl hw trivial) (fun _ _ => ?_)
      refine r_fin ?_
      refine a_done (by kernel_rfl) ?_
      exact x_jn (_, _, _, _, _) (by assumption) ⟨rfl, rfl, rfl, rfl, trivial⟩ ⟨rfl, rfl, rfl, rfl, rfl, rfl, rfl, rfl, rfl, trivial⟩
    ·refine aact' rfl rfl (t_allocf (i := 86) rfl rfl rfl Tryz.zeroValue129 rfl rfl hw ⟨rfl, rfl, trivial⟩) (fun b_32 hoff_28 => ?_)
     refine a_lin' (n := 0) [(1, 1), (3, 1), (4, 1), (5, 0), (6, 0), (7, 0), (10, 1), (11, 3)] (by kernel_rfl) ?_
     refine r1' rfl rfl (t_call (n := 81) (wide_of _ _ (sg_dec _) (by omega)) rfl rfl rfl ⟨rfl, trivial⟩ Tryz.call102 pre_nil rfl hw) (fun g_33 hg_33 => ?_)
     refine r1' rfl rfl (t_call (n := 82) (wide_of _ _ (sg_dec _) (by omega)) rfl rfl rfl ⟨rfl, trivial⟩ Tryz.call102 pre_nil rfl hw) (fun g_34 hg_34 => ?_)
     refine r1' rfl rfl (t_call (n := 84) (num_div _ _ _ _ _ _ (by assumption) (by assumption) (by omega) (by omega) hy0) rfl rfl rfl ⟨rfl, rfl, trivial⟩ Tryz.call106 (pre_same 81 rfl rfl rfl (pre_same 82 rfl rfl rfl pre_nil)) rfl hw) (fun g_35 hg_35 => ?_)
     refine r0' rfl rfl rfl rfl (stf (d_mv rfl rfl) ⟨rfl, rfl, trivial⟩) ?_
     refine r0' rfl rfl rfl rfl (stf (d_ex rfl rfl rfl) ⟨rfl, rfl, trivial⟩) ?_
     refine r0' rfl rfl rfl rfl (stf (d_ex rfl rfl rfl) ⟨rfl, rfl, trivial⟩) ?_
     refine r1' rfl rfl (t_stw (i := 86) rfl rfl rfl rfl rfl (by decide) rfl Tryz.sizeOf129 rfl rfl ⟨(one_rfl rfl), (one_rd (i := 84) rfl rd_slp), trivial⟩ rfl hw hoff_28) (fun _ _ => ?_)
     refine r3' rfl rfl (t_stw (i := 87) rfl rfl rfl rfl rfl (by decide) rfl Tryz.sizeOf129 rfl rfl ⟨(one_rfl rfl), (one_rd (i := 85) rfl rd_slp), trivial⟩ rfl hw trivial) (fun _ _ => ?_)
     refine r_fin ?_
     refine a_done (by kernel_rfl) ?_
     exact x_jn (_, _, _, _, _) (by assumption) ⟨rfl, rfl, rfl, rfl, trivial⟩ ⟨rfl, rfl, rfl, rfl, rfl, rfl, rfl, rfl, rfl, trivial⟩
  ·rintro ⟨qb, qv, rv, b7, b8⟩ hq
   dsimp only at hq
   simp only [List.cons_append, List.nil_append]
   refine e_seq (e_reg (dt (d_lb2 (i := 86) rfl rfl rfl Tryz.isAgg129 Tryz.sizeOf129 rfl rfl) rfl ?_))
   refine tt (t_call (n := 4) (num_wide _ _ _ (by assumption) (by omega)) rfl rfl rfl ⟨rfl, trivial⟩ Tryz.call107 (pre_same 84 rfl rfl rfl pre_nil) rfl hw) rfl (fun _ _ => ?_)
   refine mv rfl rfl (dt (d_ex rfl rfl rfl) rfl ?_)
   refine dt (d_ex rfl rfl rfl) rfl ?_
   refine tt (t_stw (i := 3) rfl rfl rfl rfl rfl (by decide) rfl Tryz.sizeOf28 rfl rfl ⟨(one_rfl rfl), (one_rfl rfl), trivial⟩ rfl hw trivial) rfl (fun _ _ => ?_)
   refine l_nil (x_then (e_seq (e_reg (dt (d_lb2 (i := 87) rfl rfl rfl Tryz.isAgg129 Tryz.sizeOf129 rfl rfl) rfl ?_))))
   refine tt (t_call (n := 4) (num_wide _ _ _ (sg_emod x hy0) (by omega)) rfl rfl rfl ⟨rfl, trivial⟩ Tryz.call107 (pre_same 85 rfl rfl rfl pre_nil) rfl hw) rfl (fun _ _ => ?_)
   refine mv rfl rfl (dt (d_ex rfl rfl rfl) rfl ?_)
   refine dt (d_ex rfl rfl rfl) rfl ?_
   refine tt (t_stw (i := 4) rfl rfl rfl rfl rfl (by decide) rfl Tryz.sizeOf28 rfl rfl ⟨(one_rfl rfl), (one_rfl rfl), trivial⟩ rfl hw trivial) rfl (fun _ _ => ?_)
   refine l_nil (x_then (e_seq (e_dregf [4] [3, 4] (by kernel_rfl) ?_)))
   refine a_lin' (n := 0) [(1, 0), (0, 1), (2, 1), (3, 3), (4, 3)] (by kernel_rfl) ?_
   refine r0' rfl rfl rfl rfl (stf (d_lb2 (i := 4) rfl rfl rfl Tryz.isAgg28 Tryz.sizeOf28 rfl rfl) ⟨rfl, trivial⟩) ?_
   refine r1' rfl rfl (t_det (d_lb2 (i := 3) rfl rfl rfl Tryz.isAgg28 Tryz.sizeOf28 rfl rfl) rfl rfl) (fun _ _ => ?_)
   refine r1' rfl rfl (t_off 3 rfl rfl ⟨rfl, trivial⟩ (fun hoffb => (t_stw (i := 3) rfl rfl rfl rfl rfl (by decide) rfl Tryz.sizeOf28 rfl rfl ⟨(one_rfl rfl), (one_rfl rfl), trivial⟩ rfl hw hoffb))) (fun _ _ => ?_)
   refine r3' rfl rfl (t_stw (i := 4) rfl rfl rfl rfl rfl (by decide) rfl Tryz.sizeOf28 rfl rfl ⟨(one_rfl rfl), (one_rfl rfl), trivial⟩ rfl hw trivial) (fun _ _ => ?_)
   refine r3' rfl rfl (t_det (d_as rfl rfl) rfl rfl) (fun _ _ => ?_)
   refine r_fin ?_
   refine a_done (by kernel_rfl) ?_
   refine x_then (e_ret ?_)
   exact x_end (.inl rfl) hsc () _ (fun a w hs => res3 hs Tryz.results53 (rv_cell (i := 3) rfl rfl Tryz.isAgg28 Tryz.sizeOf28 rfl) (rv_cell (i := 4) rfl rfl Tryz.isAgg28 Tryz.sizeOf28 rfl) rfl) rfl trivial rfl give_nil
theorem wide_lowest (s t : Bool) (v w : Value) (x y : Int) (hs : sg s x) (ht : sg t y) (hx : bl x.natAbs ≤ 1000000000) (hy : bl y.natAbs ≤ 1000000000) (hy0 : y ≠ 0) : Cal Tryz.prog 132 #[.agg #[.bool s, v], .agg #[.bool t, w]] [dgp v x.natAbs, dgp w y.natAbs] false (G := Unit) (fun _ => True) (fun _ => ratioV x y) (fun _ => []) := by
 refine cal_in Tryz.func132 rfl Tryz.ntmps132 rfl ⟨rfl, rfl, trivial⟩ ?_
 intro w0 sc hw hsc
 simp only [enumEnv, enumPre]
 have hb := bl_gcd x.natAbs y.natAbs
 have hg0 : lgcd x y ≠ 0 := lgcd_ne hy0
 have hgs : sg t (lgcd x y) := sg_lgcd ht hy0
 have hga := lgcd_abs x y
 have hq1 := bl_idiv x (lgcd x y)
 have hq2 := bl_idiv y (lgcd x y)
 refine e_seq (e_reg (tt (t_box (i := 3) rfl rfl rfl rfl rfl rfl hw) rfl (fun b _ => ?_)))
 refine tt (t_box (i := 4) rfl rfl rfl rfl rfl rfl hw) rfl (fun b_2 _ => ?_)
 refine tt (t_alloc (i := 5) rfl rfl rfl Tryz.zeroValue49 rfl rfl hw) rfl (fun b_3 _ => ?_)
 refine as_ rfl rfl (l_nil (x_then (e_seq (e_drega (fun _ => False) [9] (by kernel_rfl) ?_))))
 refine a_lin' (n := 4) [(0, 0), (1, 0), (2, 0), (3, 0), (4, 0), (5, 0)] (by kernel_rfl) ?_
 refine r0' rfl rfl rfl rfl (st0 (d_fa rfl rfl Tryz.underlying129 rfl Tryz.sizeOf4 rfl rfl)) ?_
 refine r0' rfl rfl rfl rfl (st0 (d_lb (i := 4) rfl rfl rfl Tryz.isAgg4 rfl)) ?_
 refine r0' rfl rfl rfl rfl (st0 (d_fa rfl rfl Tryz.underlying129 rfl Tryz.sizeOf127 rfl rfl)) ?_
 refine r0' rfl rfl rfl rfl (st0 (d_lb (i := 3) rfl rfl rfl Tryz.isAgg127 rfl)) ?_
 refine r0' rfl rfl rfl rfl (st0 (d_fa rfl rfl Tryz.underlying129 rfl Tryz.sizeOf127 rfl rfl)) ?_
 refine r0' rfl rfl rfl rfl (st0 (d_lb (i := 4) rfl rfl rfl Tryz.isAgg127 rfl)) ?_
 refine r_fin ?_
 refine a_br2 (n := 3) 6 8 (by kernel_rfl) ?_ ?_
 ·refine aact' rfl rfl (t_call (n := 81) (nat_gcd _ _ _ _ (by omega) (by omega)) rfl rfl rfl ⟨rfl, rfl, trivial⟩ Tryz.call152 (pre_same 1 rfl rfl rfl (pre_same 2 rfl rfl rfl pre_nil)) rfl hw) (fun v _ => ?_)
  refine a_lin' (n := 0) [(7, 0), (8, 1), (9, 3)] (by kernel_rfl) ?_
  refine r0' rfl rfl rfl rfl (st0 (d_bld (ivs := [(0, _), (1, _)]) rfl ⟨rfl, rfl, rfl, rfl, trivial⟩ (fun a w hs => b129_01 ((one_rfl rfl) a w hs) ((one_rd (i := 81) rfl rd_slp) a w hs)))) ?_
  refine r1' rfl rfl (t_alloc (i := 82) rfl rfl rfl Tryz.zeroValue129 rfl rfl hw) (fun b_4 _ => ?_)
  refine r3' rfl rfl (t_stw (i := 82) rfl rfl rfl rfl rfl (by decide) rfl Tryz.sizeOf129 rfl rfl ⟨(one_rfl rfl), (one_rd (i := 81) rfl rd_slp), trivial⟩ rfl hw trivial) (fun _ _ => ?_)
  refine r_fin ?_
  refine a_done (by kernel_rfl) ?_
  refine x_then (e_seq (e_imp (s_eqp 81 (lgcd_pc _ x y) rfl rfl) ?_))
  refine e_reg (dt (d_lb2 (i := 3) rfl rfl rfl Tryz.isAgg129 Tryz.sizeOf129 rfl rfl) rfl ?_)
  refine dt (d_lb2 (i := 82) rfl rfl rfl Tryz.isAgg129 Tryz.sizeOf129 rfl rfl) rfl ?_
  refine tt (t_call (n := 6) (num_div _ _ _ _ x (lgcd x y) hs hgs (by omega) (by rw [hga]; omega) hg0) rfl rfl rfl ⟨rfl, rfl, trivial⟩ Tryz.call106 (pre_same 1 rfl rfl rfl (pre_same 81 rfl rfl rfl pre_nil)) rfl hw) rfl (fun g hg => ?_)
  refine mv rfl rfl (dt (d_ex rfl rfl rfl) rfl ?_)
  refine dt (d_ex rfl rfl rfl) rfl ?_
  refine tt (t_stw (i := 3) rfl rfl rfl rfl rfl (by decide) rfl Tryz.sizeOf129 rfl rfl ⟨(one_rfl rfl), (one_rd (i := 6) rfl rd_slp), trivial⟩ rfl hw trivial) rfl (fun _ _ => ?_)
  refine l_nil (x_then (e_seq (e_reg (dt (d_lb2 (i := 4) rfl rfl rfl Tryz.isAgg129 Tryz.sizeOf129 rfl rfl) rfl ?_))))
  refine dt (d_lb2 (i := 82) rfl rfl rfl Tryz.isAgg129 Tryz.sizeOf129 rfl rfl) rfl ?_
  refine tt (t_call (n := 8) (num_div _ _ _ _ y (lgcd x y) ht hgs (by omega) (by rw [hga]; omega) hg0) rfl rfl rfl ⟨rfl, rfl, trivial⟩ Tryz.call106 (pre_same 2 rfl rfl rfl (pre_same 81 rfl rfl rfl pre_nil)) rfl hw) rfl (fun g_2 hg_2 => ?_)
  refine mv rfl rfl (dt (d_ex rfl rfl rfl) rfl ?_)
  refine dt (d_ex rfl rfl rfl) rfl ?_
  refine tt (t_stw (i := 4) rfl rfl rfl rfl rfl (by decide) rfl Tryz.sizeOf129 rfl rfl ⟨(one_rfl rfl), (one_rd (i := 8) rfl rd_slp), trivial⟩ rfl hw trivial) rfl (fun _ _ => ?_)
  refine l_nil (x_then (e_seq (e_reg (dt (d_lb2 (i := 3) rfl rfl rfl Tryz.isAgg129 Tryz.sizeOf129 rfl rfl) rfl ?_))))
  refine tt (t_call (n := 9) (num_wide _ _ _ (by assumption) (by omega)) rfl rfl rfl ⟨rfl, trivial⟩ Tryz.call107 (pre_same 6 rfl rfl rfl pre_nil) rfl hw) rfl (fun _ _ => ?_)
  refine mv rfl rfl (dt (d_ex rfl rfl rfl) rfl ?_)
  refine dt (d_ex rfl rfl rfl) rfl ?_
  refine tt (t_alloc (i := 10) rfl rfl rfl Tryz.zeroValue28 rfl rfl hw) rfl (fun b_5 _ => ?_)
  refine tt (t_stw (i := 10) rfl rfl rfl rfl rfl (by decide) rfl Tryz.sizeOf28 rfl rfl ⟨(one_rfl rfl), (one_rfl rfl), trivial⟩ rfl hw trivial) rfl (fun _ _ => ?_)
  refine as_ rfl rfl (l_nil (x_then (e_seq (e_reg (dt (d_lb2 (i := 4) rfl rfl rfl Tryz.isAgg129 Tryz.sizeOf129 rfl rfl) rfl ?_)))))
  refine tt (t_call (n := 10) (num_wide _ _ _ (by assumption) (by omega)) rfl rfl rfl ⟨rfl, trivial⟩ Tryz.call107 (pre_same 8 rfl rfl rfl pre_nil) rfl hw) rfl (fun _ _ => ?_)
  refine mv rfl rfl (dt (d_ex rfl rfl rfl) rfl ?_)
  refine dt (d_ex rfl rfl rfl) rfl ?_
  refine tt (t_alloc (i := 11) rfl rfl rfl Tryz.zeroValue28 rfl rfl hw) rfl (fun b_6 _ => ?_)
  refine tt (t_stw (i := 11) rfl rfl rfl rfl rfl (by decide) rfl Tryz.sizeOf28 rfl rfl ⟨(one_rfl rfl), (one_rfl rfl), trivial⟩ rfl hw trivial) rfl (fun _ _ => ?_)
  refine as_ rfl rfl (l_nil (x_then (e_seq (e_seq (e_reg (mv rfl rfl (dt (d_neq rfl rfl rfl) rfl ?_)))))))
  refine mv rfl rfl (l_split (d := 43) rfl (fun s460 => ?_) (fun s460 => ?_))
  ·refine gsk rfl rfl rfl rfl rfl (gsk rfl rfl rfl rfl rfl (dt (d_pickt rfl rfl rfl) rfl ?_))
   refine l_nil (x_then (e_condt rfl ?_))
   refine e_seq (e_reg (dt (d_bld (ivs := []) rfl trivial (fun a w hs => b49_)) rfl ?_))
   refine tt (t_stw (i := 5) rfl rfl rfl rfl rfl (by decide) rfl Tryz.sizeOf49 rfl rfl ⟨(one_rfl rfl), (one_rfl rfl), (one_rfl rfl), (one_rfl rfl), trivial⟩ rfl hw trivial) rfl (fun _ _ => ?_)
   refine as_ rfl rfl (l_nil (x_then (e_ret (x_ret ?_))))
   exact x_end (.inl rfl) hsc () _ (fun a w hs => res2 hs Tryz.results132 (rv_cell (i := 5) rfl rfl Tryz.isAgg49 Tryz.sizeOf49 rfl) rfl) (ratio_full (by unfold rfull; first | exact .inl (full_ne (by assumption)) | exact .inr (full_ne (by assumption)))) trivial rfl give_nil
  ·refine gdt (d_mv rfl rfl) rfl rfl rfl rfl ?_
   refine gdt (d_neq rfl rfl rfl) rfl rfl rfl rfl ?_
   refine dt (d_pickf rfl rfl rfl) rfl ?_
   refine l_nil (x_then (e_cond rfl (fun h460 => ?_) (fun h460 => ?_)))
   ·refine e_seq (e_reg (dt (d_bld (ivs := []) rfl trivial (fun a w hs => b49_)) rfl ?_))
    refine tt (t_stw (i := 5) rfl rfl rfl rfl rfl (by decide) rfl Tryz.sizeOf49 rfl rfl ⟨(one_rfl rfl), (one_rfl rfl), (one_rfl rfl), (one_rfl rfl), trivial⟩ rfl hw trivial) rfl (fun _ _ => ?_)
    refine as_ rfl rfl (l_nil (x_then (e_ret (x_ret ?_))))
    exact x_end (.inl rfl) hsc () _ (fun a w hs => res2 hs Tryz.results132 (rv_cell (i := 5) rfl rfl Tryz.isAgg49 Tryz.sizeOf49 rfl) rfl) (ratio_full (by unfold rfull; first | exact .inl (full_ne (by assumption)) | exact .inr (full_ne (by assumption)))) trivial rfl give_nil
   ·refine e_skip ?_
    refine x_then (e_seq (e_reg (dt (d_lb2 (i := 10) rfl rfl rfl Tryz.isAgg28 Tryz.sizeOf28 rfl rfl) rfl ?_)))
    refine dt (d_lb2 (i := 11) rfl rfl rfl Tryz.isAgg28 Tryz.sizeOf28 rfl rfl) rfl ?_
    refine dt (d_bld (ivs := [(0, _), (1, _)]) rfl ⟨rfl, rfl, rfl, rfl, trivial⟩ (fun a w hs => b49_01)) rfl ?_
    refine tt (t_stw (i := 5) rfl rfl rfl rfl rfl (by decide) rfl Tryz.sizeOf49 rfl rfl ⟨(one_rfl rfl), (one_rfl rfl), (one_rfl rfl), (one_rfl rfl), trivial⟩ rfl hw trivial) rfl (fun _ _ => ?_)
    refine as_ rfl rfl (l_nil (x_then (e_ret ?_)))
    exact x_end (.inl rfl) hsc () _ (fun a w hs => res2 hs Tryz.results132 (rv_cell (i := 5) rfl rfl Tryz.isAgg49 Tryz.sizeOf49 rfl) rfl) (ratio_ok (Decidable.byContradiction (by assumption)) (Decidable.byContradiction (by assumption))) trivial rfl give_nil
 ·refine aact' rfl rfl (t_alloc (i := 82) rfl rfl rfl Tryz.zeroValue129 rfl rfl hw) (fun b_7 _ => ?_)
  refine a_lin' (n := 0) [(6, 1), (7, 0), (9, 3)] (by kernel_rfl) ?_
  refine r1' rfl rfl (t_call (n := 81) (nat_gcd _ _ _ _ (by omega) (by omega)) rfl rfl rfl ⟨rfl, rfl, trivial⟩ Tryz.call152 (pre_same 1 rfl rfl rfl (pre_same 2 rfl rfl rfl pre_nil)) rfl hw) (fun v_2 _ => ?_)
  refine r0' rfl rfl rfl rfl (st0 (d_bld (ivs := [(0, _), (1, _)]) rfl ⟨rfl, rfl, rfl, rfl, trivial⟩ (fun a w hs => b129_01 ((one_rfl rfl) a w hs) ((one_rd (i := 81) rfl rd_slp) a w hs)))) ?_
  refine r3' rfl rfl (t_stw (i := 82) rfl rfl rfl rfl rfl (by decide) rfl Tryz.sizeOf129 rfl rfl ⟨(one_rfl rfl), (one_rd (i := 81) rfl rd_slp), trivial⟩ rfl hw trivial) (fun _ _ => ?_)
  refine r_fin ?_
  refine a_done (by kernel_rfl) ?_
  refine x_then (e_seq (e_imp (s_eqp 81 (lgcd_pc _ x y) rfl rfl) ?_))
  refine e_reg (dt (d_lb2 (i := 3) rfl rfl rfl Tryz.isAgg129 Tryz.sizeOf129 rfl rfl) rfl ?_)
  refine dt (d_lb2 (i := 82) rfl rfl rfl Tryz.isAgg129 Tryz.sizeOf129 rfl rfl) rfl ?_
  refine tt (t_call (n := 12) (num_div _ _ _ _ x (lgcd x y) hs hgs (by omega) (by rw [hga]; omega) hg0) rfl rfl rfl ⟨rfl, rfl, trivial⟩ Tryz.call106 (pre_same 1 rfl rfl rfl (pre_same 81 rfl rfl rfl pre_nil)) rfl hw) rfl (fun g_3 hg_3 => ?_)
  refine mv rfl rfl (dt (d_ex rfl rfl rfl) rfl ?_)
  refine dt (d_ex rfl rfl rfl) rfl ?_
  refine tt (t_stw (i := 3) rfl rfl rfl rfl rfl (by decide) rfl Tryz.sizeOf129 rfl rfl ⟨(one_rfl rfl), (one_rd (i := 12) rfl rd_slp), trivial⟩ rfl hw trivial) rfl (fun _ _ => ?_)
  refine l_nil (x_then (e_seq (e_reg (dt (d_lb2 (i := 4) rfl rfl rfl Tryz.isAgg129 Tryz.sizeOf129 rfl rfl) rfl ?_))))
  refine dt (d_lb2 (i := 82) rfl rfl rfl Tryz.isAgg129 Tryz.sizeOf129 rfl rfl) rfl ?_
  refine tt (t_call (n := 14) (num_div _ _ _ _ y (lgcd x y) ht hgs (by omega) (by rw [hga]; omega) hg0) rfl rfl rfl ⟨rfl, rfl, trivial⟩ Tryz.call106 (pre_same 2 rfl rfl rfl (pre_same 81 rfl rfl rfl pre_nil)) rfl hw) rfl (fun g_4 hg_4 => ?_)
  refine mv rfl rfl (dt (d_ex rfl rfl rfl) rfl ?_)
  refine dt (d_ex rfl rfl rfl) rfl ?_
  refine tt (t_stw (i := 4) rfl rfl rfl rfl rfl (by decide) rfl Tryz.sizeOf129 rfl rfl ⟨(one_rfl rfl), (one_rd (i := 14) rfl rd_slp), trivial⟩ rfl hw trivial) rfl (fun _ _ => ?_)
  refine l_nil (x_then (e_seq (e_reg (dt (d_lb2 (i := 3) rfl rfl rfl Tryz.isAgg129 Tryz.sizeOf129 rfl rfl) rfl ?_))))
  refine tt (t_call (n := 15) (num_wide _ _ _ (by assumption) (by omega)) rfl rfl rfl ⟨rfl, trivial⟩ Tryz.call107 (pre_same 12 rfl rfl rfl pre_nil) rfl hw) rfl (fun _ _ => ?_)
  refine mv rfl rfl (dt (d_ex rfl rfl rfl) rfl ?_)
  refine dt (d_ex rfl rfl rfl) rfl ?_
  refine tt (t_alloc (i := 16) rfl rfl rfl Tryz.zeroValue28 rfl rfl hw) rfl (fun b_8 _ => ?_)
  refine tt (t_stw (i := 16) rfl rfl rfl rfl rfl (by decide) rfl Tryz.sizeOf28 rfl rfl ⟨(one_rfl rfl), (one_rfl rfl), trivial⟩ rfl hw trivial) rfl (fun _ _ => ?_)
  refine as_ rfl rfl (l_nil (x_then (e_seq (e_reg (dt (d_lb2 (i := 4) rfl rfl rfl Tryz.isAgg129 Tryz.sizeOf129 rfl rfl) rfl ?_)))))
  refine tt (t_call (n := 16) (num_wide _ _ _ (by assumption) (by omega)) rfl rfl rfl ⟨rfl, trivial⟩ Tryz.call107 (pre_same 14 rfl rfl rfl pre_nil) rfl hw) rfl (fun _ _ => ?_)
  refine mv rfl rfl (dt (d_ex rfl rfl rfl) rfl ?_)
  refine dt (d_ex rfl rfl rfl) rfl ?_
  refine tt (t_alloc (i := 17) rfl rfl rfl Tryz.zeroValue28 rfl rfl hw) rfl (fun b_9 _ => ?_)
  refine tt (t_stw (i := 17) rfl rfl rfl rfl rfl (by decide) rfl Tryz.sizeOf28 rfl rfl ⟨(one_rfl rfl), (one_rfl rfl), trivial⟩ rfl hw trivial) rfl (fun _ _ => ?_)
  refine as_ rfl rfl (l_nil (x_then (e_seq (e_seq (e_reg (mv rfl rfl (dt (d_neq rfl rfl rfl) rfl ?_)))))))
  refine mv rfl rfl (l_split (d := 43) rfl (fun s460_2 => ?_) (fun s460_2 => ?_))
  ·refine gsk rfl rfl rfl rfl rfl (gsk rfl rfl rfl rfl rfl (dt (d_pickt rfl rfl rfl) rfl ?_))
   refine l_nil (x_then (e_condt rfl ?_))
   refine e_seq (e_reg (dt (d_bld (ivs := []) rfl trivial (fun a w hs => b49_)) rfl ?_))
   refine tt (t_stw (i := 5) rfl rfl rfl rfl rfl (by decide) rfl Tryz.sizeOf49 rfl rfl ⟨(one_rfl rfl), (one_rfl rfl), (one_rfl rfl), (one_rfl rfl), trivial⟩ rfl hw trivial) rfl (fun _ _ => ?_)
   refine as_ rfl rfl (l_nil (x_then (e_ret (x_ret ?_))))
   exact x_end (.inl rfl) hsc () _ (fun a w hs => res2 hs Tryz.results132 (rv_cell (i := 5) rfl rfl Tryz.isAgg49 Tryz.sizeOf49 rfl) rfl) (ratio_full (by unfold rfull; first | exact .inl (full_ne (by assumption)) | exact .inr (full_ne (by assumption)))) trivial rfl give_nil
  ·refine gdt (d_mv rfl rfl) rfl rfl rfl rfl ?_
   refine gdt (d_neq rfl rfl rfl) rfl rfl rfl rfl ?_
   refine dt (d_pickf rfl rfl rfl) rfl ?_
   refine l_nil (x_then (e_cond rfl (fun h460_2 => ?_) (fun h460_2 => ?_)))
   ·refine e_seq (e_reg (dt (d_bld (ivs := []) rfl trivial (fun a w hs => b49_)) rfl ?_))
    refine tt (t_stw (i := 5) rfl rfl rfl rfl rfl (by decide) rfl Tryz.sizeOf49 rfl rfl ⟨(one_rfl rfl), (one_rfl rfl), (one_rfl rfl), (one_rfl rfl), trivial⟩ rfl hw trivial) rfl (fun _ _ => ?_)
    refine as_ rfl rfl (l_nil (x_then (e_ret (x_ret ?_))))
    exact x_end (.inl rfl) hsc () _ (fun a w hs => res2 hs Tryz.results132 (rv_cell (i := 5) rfl rfl Tryz.isAgg49 Tryz.sizeOf49 rfl) rfl) (ratio_full (by unfold rfull; first | exact .inl (full_ne (by assumption)) | exact .inr (full_ne (by assumption)))) trivial rfl give_nil
   ·refine e_skip ?_
    refine x_then (e_seq (e_reg (dt (d_lb2 (i := 16) rfl rfl rfl Tryz.isAgg28 Tryz.sizeOf28 rfl rfl) rfl ?_)))
    refine dt (d_lb2 (i := 17) rfl rfl rfl Tryz.isAgg28 Tryz.sizeOf28 rfl rfl) rfl ?_
    refine dt (d_bld (ivs := [(0, _), (1, _)]) rfl ⟨rfl, rfl, rfl, rfl, trivial⟩ (fun a w hs => b49_01)) rfl ?_
    refine tt (t_stw (i := 5) rfl rfl rfl rfl rfl (by decide) rfl Tryz.sizeOf49 rfl rfl ⟨(one_rfl rfl), (one_rfl rfl), (one_rfl rfl), (one_rfl rfl), trivial⟩ rfl hw trivial) rfl (fun _ _ => ?_)
    refine as_ rfl rfl (l_nil (x_then (e_ret ?_)))
    exact x_end (.inl rfl) hsc () _ (fun a w hs => res2 hs Tryz.results132 (rv_cell (i := 5) rfl rfl Tryz.isAgg49 Tryz.sizeOf49 rfl) rfl) (ratio_ok (Decidable.byContradiction (by assumption)) (Decidable.byContradiction (by assumption))) trivial rfl give_nil
theorem wide_ratio (x y : Int) (hx : bl x.natAbs ≤ 65536) (hy : bl y.natAbs ≤ 65536) (hy0 : y ≠ 0) : Cal Tryz.prog 87 #[wv x, wv y] [] false (G := Unit) (fun _ => True) (fun _ => ratioV x y) (fun _ => []) := by
 refine cal_in Tryz.func87 rfl Tryz.ntmps87 rfl trivial ?_
 intro w0 sc hw hsc
 simp only [enumEnv, enumPre]
 refine e_seq (e_reg (tt (t_box (i := 1) rfl rfl rfl rfl rfl rfl hw) rfl (fun b _ => ?_)))
 refine tt (t_box (i := 2) rfl rfl rfl rfl rfl rfl hw) rfl (fun b_2 _ => ?_)
 refine tt (t_alloc (i := 3) rfl rfl rfl Tryz.zeroValue49 rfl rfl hw) rfl (fun b_3 _ => ?_)
 refine as_ rfl rfl (l_nil (x_then (e_seq (e_seq (e_reg (dt (d_lb2 (i := 1) rfl rfl rfl Tryz.isAgg28 Tryz.sizeOf28 rfl rfl) rfl ?_))))))
 refine dt (d_lb2 (i := 2) rfl rfl rfl Tryz.isAgg28 Tryz.sizeOf28 rfl rfl) rfl ?_
 refine tt (t_call (n := 3) (wide_both_ok _ _ (by assumption) (by assumption)) rfl rfl rfl ⟨rfl, rfl, trivial⟩ Tryz.call101 pre_nil rfl hw) rfl (fun _ _ => ?_)
 refine dt (d_notb rfl rfl) rfl ?_
 refine l_nil (x_then (e_condf rfl ?_))
 refine e_skip ?_
 refine x_then (e_seq (e_seq (e_reg (dt (d_fa rfl rfl Tryz.underlying28 rfl Tryz.sizeOf9 rfl rfl) rfl ?_))))
 refine dt (d_lb (i := 2) rfl rfl rfl Tryz.isAgg9 rfl) rfl ?_
 refine dt (d_eqs0 rfl rfl rfl rfl) rfl ?_
 refine l_nil (x_then (e_cond rfl (fun h471 => ?_) (fun h471 => ?_)))
 ·rw [bstr_size] at h471
  exfalso; exact hy0 (by have := (dg_nil_iff (by omega : 2 ≤ 256) y.natAbs).1 h471; omega)
 ·refine e_skip ?_
  refine x_then (e_seq (e_dreg (fun _ => False) [(0, 0), (2, 0), (1, 1), (3, 1), (4, 1), (5, 0), (6, 0), (7, 3), (8, 3)] (by kernel_rfl) ?_ ?_))
  ·kernel_rfl
  refine r0' rfl rfl rfl rfl (st0 (d_lb2 (i := 1) rfl rfl rfl Tryz.isAgg28 Tryz.sizeOf28 rfl rfl)) ?_
  refine r0' rfl rfl rfl rfl (st0 (d_lb2 (i := 2) rfl rfl rfl Tryz.isAgg28 Tryz.sizeOf28 rfl rfl)) ?_
  refine r1' rfl rfl (t_call (n := 4) (wide_of _ _ (sg_dec _) (by omega)) rfl rfl rfl ⟨rfl, trivial⟩ Tryz.call102 pre_nil rfl hw) (fun g hg => ?_)
  refine r1' rfl rfl (t_call (n := 5) (wide_of _ _ (sg_dec _) (by omega)) rfl rfl rfl ⟨rfl, trivial⟩ Tryz.call102 pre_nil rfl hw) (fun g_2 hg_2 => ?_)
  refine r1' rfl rfl (t_call (n := 5) (wide_lowest _ _ _ _ _ _ (by assumption) (by assumption) (by omega) (by omega) hy0) rfl rfl rfl ⟨rfl, rfl, trivial⟩ Tryz.call132 (pre_same 4 rfl rfl rfl (pre_same 5 rfl rfl rfl pre_nil)) rfl hw) (fun _ _ => ?_)
  refine r0' rfl rfl rfl rfl (st0 (d_ex rfl rfl rfl)) ?_
  refine r0' rfl rfl rfl rfl (st0 (d_ex rfl rfl rfl)) ?_
  refine r3' rfl rfl (t_stw (i := 3) rfl rfl rfl rfl rfl (by decide) rfl Tryz.sizeOf49 rfl rfl ⟨(one_rfl rfl), (one_rfl rfl), (one_rfl rfl), (one_rfl rfl), trivial⟩ rfl hw trivial) (fun _ _ => ?_)
  refine r3' rfl rfl (t_det (d_as rfl rfl) rfl rfl) (fun _ _ => ?_)
  refine r_end ?_
  refine x_then (e_ret ?_)
  exact x_end (.inl rfl) hsc () _ (fun a w hs => res2 hs Tryz.results87 (rv_cell (i := 3) rfl rfl Tryz.isAgg49 Tryz.sizeOf49 rfl) rfl) rfl trivial rfl give_nil
theorem wide_validratio (b : Bool) (s : ByteArray) (c : Bool) (t : ByteArray) : Cal Tryz.prog 98 #[.agg #[.bool b, .string s, .bool c, .string t]] [] false (G := Unit) (fun _ => True) (fun _ => .bool (okR b s c t)) (fun _ => []) := by
 refine cal_in Tryz.func98 rfl Tryz.ntmps98 rfl trivial ?_
 intro w0 sc hw hsc
 simp only [enumEnv, enumPre]
 refine e_seq (e_reg (tt (t_box (i := 1) rfl rfl rfl rfl rfl rfl hw) rfl (fun b _ => ?_)))
 refine as_ rfl rfl (l_nil (x_then (e_seq (e_reg (dt (d_fa rfl rfl Tryz.underlying49 rfl Tryz.sizeOf28 rfl rfl) rfl ?_)))))
 refine dt (d_lb2 (i := 1) rfl rfl rfl Tryz.isAgg28 Tryz.sizeOf28 rfl rfl) rfl ?_
 refine dt (d_fa rfl rfl Tryz.underlying49 rfl Tryz.sizeOf28 rfl rfl) rfl ?_
 refine dt (d_lb2 (i := 1) rfl rfl rfl Tryz.isAgg28 Tryz.sizeOf28 rfl rfl) rfl ?_
 refine tt (t_call (n := 1) (wide_both _ _ _ _) rfl rfl rfl ⟨rfl, rfl, trivial⟩ Tryz.call101 pre_nil rfl hw) rfl (fun _ _ => ?_)
 refine mv rfl rfl (l_splitb (d := 8) rfl (fun s451 => ?_) (fun s451 => ?_))
 ·have hcc : okW c t = true := by simp_all
  have hok := okW_ex hcc
  obtain ⟨hk1, hk2, hk3⟩ := Classical.choose_spec hok
  generalize Classical.choose hok = z at hk1 hk2 hk3 ⊢
  subst hk2; subst hk3
  try clear hok
  refine gdt (d_fa rfl rfl Tryz.underlying49 rfl Tryz.sizeOf28 rfl rfl) rfl rfl rfl rfl ?_
  refine gdt (d_lb2 (i := 1) rfl rfl rfl Tryz.isAgg28 Tryz.sizeOf28 rfl rfl) rfl rfl rfl rfl ?_
  refine gtt (t_call (n := 1) (wide_sign z hk1) rfl rfl rfl ⟨rfl, trivial⟩ Tryz.call80 pre_nil rfl hw) rfl rfl rfl rfl (fun _ _ => ?_)
  refine gdt (d_gtr rfl rfl rfl) rfl rfl rfl rfl ?_
  refine dt (d_pickt rfl rfl rfl) rfl ?_
  refine as_ rfl rfl (l_nil (x_then (e_ret ?_)))
  exact x_end (.inl rfl) hsc () _ (fun a w hs => res1 hs Tryz.results98 rfl) (by first | rw [okR_sign (by simp_all) hk1] | (unfold okR; simp_all)) trivial rfl give_nil
 ·refine gsk rfl rfl rfl rfl rfl (gsk rfl rfl rfl rfl rfl (gsk rfl rfl rfl rfl rfl (gsk rfl rfl rfl rfl rfl (dt (d_pickf rfl rfl rfl) rfl ?_))))
  refine as_ rfl rfl (l_nil (x_then (e_ret ?_)))
  exact x_end (.inl rfl) hsc () _ (fun a w hs => res1 hs Tryz.results98 rfl) (by first | rw [okR_sign (by simp_all) hk1] | (unfold okR; simp_all)) trivial rfl give_nil
theorem wide_validratio_ok (x y : Int) (hx : bl x.natAbs ≤ 65536) (hy : bl y.natAbs ≤ 65536) (hy0 : 0 < y) : Cal Tryz.prog 98 #[.agg #[.bool (decide (x < 0)), .string (bstr x.natAbs), .bool (decide (y < 0)), .string (bstr y.natAbs)]] [] false (G := Unit) (fun _ => True) (fun _ => .bool true) (fun _ => []) := okR_wv hx hy hy0 ▸ wide_validratio _ _ _ _
theorem wide_of_int (x : Int) (hx : inI x) : Cal Tryz.prog 55 #[.int .i64 x] [] false (G := Unit) (fun _ => True) (fun _ => wv x) (fun _ => []) := by
 refine cal_in Tryz.func55 rfl Tryz.ntmps55 rfl trivial ?_
 intro w0 sc hw hsc
 simp only [enumEnv, enumPre]
 have hxa := hx.1
 have hxb := hx.2
 have hxU : x.natAbs < U := by simp only [U]; omega
 have hxl : bl x.natAbs ≤ 64 := (bl_le 64 _).2 (by rw [← U_eq]; exact hxU)
 refine e_seq (e_reg (tt (t_alloc (i := 1) rfl rfl rfl Tryz.zeroValue28 rfl rfl hw) rfl (fun b _ => ?_)))
 refine l_nil (x_then (e_seq (e_reg (mv rfl rfl (dt (cv_u64i (r := x % 18446744073709551616) rfl rfl Tryz.underlying3 Tryz.underlying137 rfl) rfl ?_)))))
 refine as_ rfl rfl (l_nil (x_then (e_jn [(0, _), (2, _)] [(0, _), (1, _)] (fun (_ : Unit) => [(3, .int .u64 ((x.natAbs : Nat) : Int))]) (fun (_ : Unit) => []) (fun (_ : Unit) => True) ⟨rfl, rfl, trivial⟩ ⟨rfl, rfl, trivial⟩ ?_ ?_)))
 ·refine e_seq (e_reg (mv rfl rfl (dt (d_lss rfl rfl rfl) rfl ?_)))
  refine l_nil (x_then (e_cond rfl (fun h276 => ?_) (fun h276 => ?_)))
  ·refine e_reg (mv rfl rfl (dt (u_negm (r := x.natAbs) rfl rfl (by omega)) rfl ?_))
   refine as_ rfl rfl (l_nil ?_)
   exact x_jn () trivial ⟨by first | rfl | (rw [show x % 18446744073709551616 = ((x.natAbs : Nat) : Int) by omega]; rfl), rfl, rfl, trivial⟩ ⟨rfl, rfl, trivial⟩
  ·refine e_skip ?_
   exact x_jn () trivial ⟨by first | rfl | (rw [show x % 18446744073709551616 = ((x.natAbs : Nat) : Int) by omega]; rfl), rfl, rfl, trivial⟩ ⟨rfl, rfl, trivial⟩
 ·rintro _ -
  simp only [List.cons_append, List.nil_append]
  refine e_seq (e_reg (mv rfl rfl (dt (d_lss rfl rfl rfl) rfl ?_)))
  refine mv rfl rfl (tt (t_bsg (i := 2) (ivs := [(0, _)]) (enc := encU) [x.natAbs] rfl rfl rfl ⟨rfl, rfl, trivial⟩ Tryz.underlying127 Tryz.ti137 rfl rfl rfl rfl rfl rfl pU.cells rfl rfl hw) rfl (fun v _ => ?_))
  refine tt (t_call (n := 2) (nat_trim_own _ _) rfl rfl rfl ⟨rfl, trivial⟩ Tryz.call108 (pre_lend 2 rfl rfl pU pre_nil) rfl hw) rfl (fun _ _ => ?_)
  refine l_imp (s_tz 2 rfl rfl pU) ?_
  refine l_imp (s_oeq 2 (tz_single hxU) rfl rfl) ?_
  refine dt (d_bld (ivs := [(0, _), (1, _)]) rfl ⟨rfl, rfl, rfl, rfl, trivial⟩ (fun a w hs => b129_01 ((one_rfl rfl) a w hs) ((one_rd (i := 2) rfl (rd_osl pU)) a w hs))) rfl ?_
  refine tt (t_call (n := 2) (num_wide _ _ x (sg_dec _) (by omega)) rfl rfl rfl ⟨rfl, trivial⟩ Tryz.call107 (pre_lend 2 rfl rfl pU pre_nil) rfl hw) rfl (fun _ _ => ?_)
  refine mv rfl rfl (dt (d_ex rfl rfl rfl) rfl ?_)
  refine dt (d_ex rfl rfl rfl) rfl ?_
  refine tt (t_alloc (i := 3) rfl rfl rfl Tryz.zeroValue28 rfl rfl hw) rfl (fun b_2 _ => ?_)
  refine tt (t_stw (i := 3) rfl rfl rfl rfl rfl (by decide) rfl Tryz.sizeOf28 rfl rfl ⟨(one_rfl rfl), (one_rfl rfl), trivial⟩ rfl hw trivial) rfl (fun _ _ => ?_)
  refine as_ rfl rfl (l_nil (x_then (e_seq (e_reg (dt (d_lb2 (i := 3) rfl rfl rfl Tryz.isAgg28 Tryz.sizeOf28 rfl rfl) rfl ?_)))))
  refine tt (t_stw (i := 1) rfl rfl rfl rfl rfl (by decide) rfl Tryz.sizeOf28 rfl rfl ⟨(one_rfl rfl), (one_rfl rfl), trivial⟩ rfl hw trivial) rfl (fun _ _ => ?_)
  refine l_nil (x_then (e_ret ?_))
  exact x_end (.inl rfl) hsc () _ (fun a w hs => res1 hs Tryz.results55 (rv_cell (i := 1) rfl rfl Tryz.isAgg28 Tryz.sizeOf28 rfl)) (by rw [clip_ok (by omega)] <;> rfl) trivial rfl give_nil
end Go.Sky

