/- rules, arithmetic and contracts: part 5
   Proved without conditions of its own: each theorem bears its own. -/
import Derived.Test.YtcegclhbeflgbaaGreatSl02
import Derived.Test.YtcegclhbeflgbaaGreatSl01
import Derived.Test.YtcegclhbeflgbaaGreatSl03
set_option linter.all false
namespace Go.Sky
open Go.Proofs
set_option maxRecDepth 20000
set_option maxHeartbeats 4000000
set_option linter.unusedVariables false
set_option linter.unusedSimpArgs false
theorem clone_nat (v : Value) (xs : List Nat) (hx : xs.length * 8 ≤ 140737488355328) : CalO Tryz.prog 166 #[v] [slp 1 encU v xs] (G := Value) (fun r => True) (fun r => r) (fun r => osl 1 137 encU r xs) := by
 refine calo_in Tryz.func166 J Tryz.ntmps166 J K1 ?_
 intro w0 sc hw hsc
 simp only [Zq, Zo]
 refine Qn (f_nil (i := 1) J Zi) fun hnil => Zb <|Ze <|Zm J J <|Zd <|Za <|Zb <|Zb <|Ze <|mv J J <|dt (d_isnil J J J (i := 1) J Zi uT127) J <|Zd <|Za <|Qq J (fun h357 => ?_) (fun h357 => ?_)
 ·refine Zb <|Ze <|Zm J J <|Zd <|Za <|Zr <|Yw ?_
  obtain rfl : xs = [] := hnil (by simpa using h357)
  exact Qe (Qa 9 1 137 encU) <|x_endo (.inl J) (.slice none 0 0) _ (fun a w hs => Yt hs Tryz.results166 J) J trivial J 9 J J J
 ·exact Zk <|Za <|Zb <|Ze <|tt (t_bs0 (i := 2) (enc := encU) J J J uT127 pU J hw) J fun v _ => mv J J <|tt (t_appa (i := 2) (j := 1) (by_ := 8) J J J J J J (by decide) J Zi uT127 Tryz.ti137 J pU J J J (by simp; omega) (by decide) J hw) J fun v_2 _ => Zm J J <|Zd <|Za <|Zr <|x_endo (.inl J) _ _ (fun a w hs => Yt hs Tryz.results166 J) J trivial J 2 J (by rfl) J
set_option maxHeartbeats 1600000 in
theorem bits_div (h l y : Nat) (hl : l < U) (hy : y < U) (hh : h < y) : Cal Tryz.prog 160 #[.int .u64 (h : Int), .int .u64 (l : Int), .int .u64 (y : Int)] [] false (G := Unit) (fun _ => True) (fun _ => .tuple #[.int .u64 (((h * U + l) / y : Nat) : Int), .int .u64 (((h * U + l) % y : Nat) : Int)]) (fun _ => []) := by
 refine Ye Tryz.func160 J Tryz.ntmps160 J trivial ?_
 intro w0 sc hw hsc
 simp only [Zq, Zo]
 have hUe : U = 18446744073709551616 := rfl
 have hp : 0 < y := by omega
 have hbl : bl y ≤ 64 := (bl_le 64 y).2 hy
 obtain ⟨s, hs⟩ : ∃ s, s = 64 - bl y := ⟨_, rfl⟩
 obtain ⟨Y, hYe⟩ : ∃ Y, Y = y * 2 ^ s := ⟨_, rfl⟩
 obtain ⟨hY1, hY2⟩ := norm_top hp hy hs
 rw [← hYe] at hY1 hY2
 have hYU := hY2
 obtain ⟨D, hD⟩ : ∃ D, D = (h * U + l) * 2 ^ s := ⟨_, rfl⟩
 obtain ⟨u, hue⟩ : ∃ u, u = D / U := ⟨_, rfl⟩
 obtain ⟨v, hve⟩ : ∃ v, v = D % U := ⟨_, rfl⟩
 obtain ⟨v1, hv1e⟩ : ∃ x, x = v / 4294967296 := ⟨_, rfl⟩
 obtain ⟨v0, hv0e⟩ : ∃ x, x = v % 4294967296 := ⟨_, rfl⟩
 obtain ⟨y1, hy1e⟩ : ∃ x, x = Y / 4294967296 := ⟨_, rfl⟩
 obtain ⟨y0, hy0e⟩ : ∃ x, x = Y % 4294967296 := ⟨_, rfl⟩
 have hYs : Y = y1 * 4294967296 + y0 := by omega
 have hhs := shl_lt hh (show y * 2 ^ s < U by rw [← hYe]; exact hY2)
 have huY : u < Y := by rw [hue, hD, hYe]; exact top_lt hl hh
 have hu : u < y1 * 4294967296 + y0 := by omega
 have hvU : v < U := by rw [hve]; exact Nat.mod_lt _ U_pos
 have hy1 : 2147483648 ≤ y1 := by omega
 have hy1l : y1 < 4294967296 := by omega
 have hy0 : y0 < 4294967296 := by omega
 have hv1 : v1 < 4294967296 := by omega
 have hv0 : v0 < 4294967296 := by omega
 obtain ⟨Q1, hQ1⟩ : ∃ x, x = (u * 4294967296 + v1) / Y := ⟨_, rfl⟩
 obtain ⟨t, hte⟩ : ∃ x, x = (u * 4294967296 + v1) % Y := ⟨_, rfl⟩
 have htY : t < Y := by rw [hte]; exact Nat.mod_lt _ (by omega)
 have ht : t < y1 * 4294967296 + y0 := by omega
 obtain ⟨Q0, hQ0⟩ : ∃ x, x = (t * 4294967296 + v0) / Y := ⟨_, rfl⟩
 have hY0 : 0 < Y := by omega
 obtain ⟨hd1, hd2⟩ := dv_two (D := D) hY0 hue hve hv1e hv0e
 rw [← hQ1, ← hte, ← hQ0] at hd1
 rw [← hte] at hd2
 have hQ0l : Q0 < 4294967296 := by rw [hQ0, hYs]; exact dv_Q hv0 ht
 have hQ1l : Q1 < 4294967296 := by rw [hQ1, hYs]; exact dv_Q hv1 hu
 refine Zb <|Ze <|Zm J J <|Zm J J <|Zd <|Za <|Zb <|Zb <|Ze <|mv J J <|dt (Xh J J J) J <|Zd <|Za <|Zn J (fun h519 => ?_) (fun h519 => ?_)
 ·exfalso; omega
 ·refine Zk <|Za <|Zb <|Zb <|Ze <|mv J J <|mv J J <|dt (d_leq J J J) J <|Zd <|Za <|Zn J (fun h522 => ?_) (fun h522 => ?_)
  ·exfalso; omega
  ·refine Zk <|Za <|Zb <|Zb <|Ze <|mv J J <|dt (Xh J J J) J <|Zd <|Za <|Zn J (fun h527 => ?_) (fun h527 => ?_)
   ·refine Zb <|Xd (fun _ => False) [(0, 0), (1, 0), (2, 0), (3, 0), (4, 0), (5, 0), (6, 0), (7, 3)] (by kernel_rfl) ?_ ?_
    ·kernel_rfl
    exact r0' J J J J (st0 (Zw J J)) <|r0' J J J J (st0 (Zw J J)) <|r0' J J J J (st0 (u_quo J J J (by omega) (by omega))) <|r0' J J J J (st0 (Zw J J)) <|r0' J J J J (st0 (Zw J J)) <|r0' J J J J (st0 (u_rem J J J (by omega))) <|r0' J J J J (st0 (Qb J J)) <|r3' J J (Xw (Qb J J) J J) fun _ _ => Xo <|Za <|Zr <|Yw <|Zx (.inl J) hsc () _ (fun a w hs => Xn hs Tryz.results160 J J) (by have h0 : h = 0 := (by omega); rw [h0]; simp) trivial J Zj
   ·refine Zk <|Za <|Zb <|Ze <|mv J J <|tt (Zh (n := 0) (bits_lz _ hy) J J J K1 cF155 Zf J hw) J fun _ _ => dt (cv_u64 J J uT3 uT178 (by simp only [U]; omega)) J <|Zm J J <|Zd <|Za <|Zb <|Yk (Qi 8 (v' := .int .u64 (s : Int)) J (by rw [hs])) <|Ze <|mv J J <|mv J J <|dt (u_shl J J J J (by omega)) J <|Zm J J <|Zd <|Za <|Zb <|Yk (Qi 2 (v' := .int .u64 (Y : Int)) J (by rw [hYe, Nat.mod_eq_of_lt (by rw [← hYe]; exact hYU)])) <|Ze <|mv J J <|dt (Qs (n := 32) (n' := 4294967296) J J J J J) J <|Zm J J <|Zd <|Za <|Zb <|Ze <|mv J J <|dt (u_and J J J (by omega) (by decide)) J <|Zm J J <|Zd <|Za <|Zb <|Ze <|mv J J <|mv J J <|dt (u_shl J J J J (by omega)) J <|mv J J <|mv J J <|dt (u_sub J J J (by first | exact Nat.mod_lt _ U_pos | omega)) J <|dt (u_shr J J (n := 64 - s) J (by simp only [U]; omega) (by omega)) J <|dt (u_or J J J (Nat.mod_lt _ U_pos) (Nat.lt_of_le_of_lt (Nat.div_le_self _ _) hl)) J <|Zm J J <|Zd <|Za <|Zb <|Yk (Qi 11 (v' := .int .u64 (u : Int)) J (by rw [hue, hD, or_shift (by omega) hhs hl])) <|Ze <|mv J J <|mv J J <|dt (u_shl J J J J (by omega)) J <|Zm J J <|Zd <|Za <|Zb <|Yk (Qi 12 (v' := .int .u64 (v : Int)) J (by rw [hve, hD, mod_shift h l s])) <|Ze <|mv J J <|dt (Qs (n := 32) (n' := 4294967296) J J J J J) J <|Zm J J <|Zd ?_
    refine Za <|Zb <|Yk (Qi 13 (v' := .int .u64 (v1 : Int)) J (by rw [hv1e])) <|Ze <|mv J J <|dt (u_and J J J (by omega) (by decide)) J <|Zm J J <|Zd <|Za <|Zb <|Yk (Qi 14 (v' := .int .u64 (v0 : Int)) J (by rw [and_mask, hv0e])) <|Yk (Qi 9 (v' := .int .u64 (y1 : Int)) J (by rw [hy1e])) <|Yk (Qi 10 (v' := .int .u64 (y0 : Int)) J (by rw [and_mask, hy0e])) <|Ze <|mv J J <|mv J J <|dt (u_quo J J J (by omega) (by omega)) J <|Zm J J <|Zd <|Za <|Zb <|Ze <|mv J J <|mv J J <|mv J J <|dt (u_mul J J J) J <|dt (u_sub J J J (by first | exact Nat.mod_lt _ U_pos | omega)) J <|Zm J J <|Zd <|Za <|Qm [(2, _), (8, _), (9, _), (10, _), (11, _), (13, _), (14, _)] [(0, _)] (fun (_ : Unit) => [(15, .int .u64 ((Q1 : Nat) : Int))]) (fun (_ : Unit) => []) (fun (_ : Unit) => True) K7 K1 ?_ ?_
    ·refine Zv <|Yk (Qi 16 (v' := .int .u64 ((u % y1 : Nat) : Int)) J (by rw [rsub (by omega) (by omega)])) <|Qc [(2, _), (8, _), (9, _), (10, _), (11, _), (13, _), (14, _)] [(0, _)] (fun (q : Nat × Nat) => [(15, .int .u64 (q.1 : Int)), (16, .int .u64 (q.2 : Int))]) (fun (q : Nat × Nat) => []) (fun (q : Nat × Nat) => (dvI u v1 y1 y0 q.1 q.2) ∧ (q.2 < 4294967296)) (fun (q : Nat × Nat) => q.1) (u / y1, u % y1) ⟨dv0 hy1 hy1l hy0 hv1 hu, Nat.lt_trans (Nat.mod_lt _ (by omega)) hy1l⟩ K9 K1 ?_
     rintro ⟨a, r⟩ ⟨hI, hr⟩
     dsimp only at hI hr
     simp only [List.cons_append, List.nil_append]
     have hI1 := hI.1
     have hI2 := hI.2.1
     refine Zb <|Zb <|Ze <|mv J J <|dt (Qd J J J) J <|mv J J <|Xu (d := 69) J (fun s547 => ?_) (fun s547 => ?_)
     ·refine Xm J J J J J <|Xm J J J J J <|Xm J J J J J <|Xm J J J J J <|Xm J J J J J <|Xm J J J J J <|Xm J J J J J <|Xm J J J J J <|dt (Yp J J J) J <|Zd <|Za <|Ql J <|Zk <|Za <|Zv <|Zb ?_
      have hst := dv_step (by omega) hI hv1 hu (by omega)
      have hst1 := hst.1
      refine Ze <|mv J J <|dt (u_sub (n := 1) J J J (by decide)) J <|Zm J J <|Zd <|Za <|Zb <|Yk (Qi 15 (v' := .int .u64 ((a - 1 : Nat) : Int)) J (u64_eq (dec_u hst1 (by omega)))) <|Ze <|mv J J <|mv J J <|dt (u_add J J J) J <|Zm J J <|Zd <|Za <|Zb <|Yk (Qi 16 (v' := .int .u64 ((r + y1 : Nat) : Int)) J (u64_eq (Nat.mod_eq_of_lt (by omega)))) <|Ze <|mv J J <|dt (Qd J J J) J <|Zd <|Za <|Zn J (fun h550 => ?_) (fun h550 => ?_)
      ·refine Yv <|x_bo (by decide) <|Zz <|Xz ?_
       have hq : Q1 = a - 1 := by rw [hQ1, hYs]; exact (dv_break (by omega) hy0 hst.2 (by omega) (by omega)).symm
       exact Yx () trivial ⟨by rw [hq]; rfl, rfl, rfl, rfl, rfl, rfl, rfl, rfl, trivial⟩ K1
      ·exact Zk <|Xq <|Xe (a - 1, r + y1) ⟨hst.2, by dsimp only; omega⟩ (by first | omega | (dsimp only <;> omega)) K9 K1
     ·have hm1 := mul32_lt (show a < 4294967296 by omega) hy0
      have e1 := Nat.mod_eq_of_lt (show a * y0 < U from hm1)
      have e2 := Nat.mod_eq_of_lt (show 4294967296 * r < U by omega)
      have e3 := Nat.mod_eq_of_lt (show 4294967296 * r + v1 < U by omega)
      refine Yr (Zw J J) J J J J <|Yr (Zw J J) J J J J <|Yr (u_mul J J J) J J J J <|Yr (Zw J J) J J J J <|Yr (u_mul J J J) J J J J <|Yr (Zw J J) J J J J <|Yr (u_add J J J) J J J J <|Yr (Xv J J J) J J J J <|dt (Yd J J J) J <|Zd <|Za <|Zn J (fun h547 => ?_) (fun h547 => ?_)
      ·rw [e1, e2, e3] at h547
       refine Zk <|Za <|Zv <|Zb ?_
       have hst := dv_step (by omega) hI hv1 hu (by omega)
       have hst1 := hst.1
       refine Ze <|mv J J <|dt (u_sub (n := 1) J J J (by decide)) J <|Zm J J <|Zd <|Za <|Zb <|Yk (Qi 15 (v' := .int .u64 ((a - 1 : Nat) : Int)) J (u64_eq (dec_u hst1 (by omega)))) <|Ze <|mv J J <|mv J J <|dt (u_add J J J) J <|Zm J J <|Zd <|Za <|Zb <|Yk (Qi 16 (v' := .int .u64 ((r + y1 : Nat) : Int)) J (u64_eq (Nat.mod_eq_of_lt (by omega)))) <|Ze <|mv J J <|dt (Qd J J J) J <|Zd <|Za <|Zn J (fun h550_2 => ?_) (fun h550_2 => ?_)
       ·refine Yv <|x_bo (by decide) <|Zz <|Xz ?_
        have hq : Q1 = a - 1 := by rw [hQ1, hYs]; exact (dv_break (by omega) hy0 hst.2 (by omega) (by omega)).symm
        exact Yx () trivial ⟨by rw [hq]; rfl, rfl, rfl, rfl, rfl, rfl, rfl, rfl, trivial⟩ K1
       ·exact Zk <|Xq <|Xe (a - 1, r + y1) ⟨hst.2, by dsimp only; omega⟩ (by first | omega | (dsimp only <;> omega)) K9 K1
      ·rw [e1, e2, e3] at h547
       refine Yv <|Zz <|Zz <|Xz ?_
       have hq : Q1 = a := by rw [hQ1, hYs]; exact (dv_stop (by omega) hI (by omega)).symm
       exact Yx () trivial ⟨by rw [hq]; rfl, rfl, rfl, rfl, rfl, rfl, rfl, rfl, trivial⟩ K1
    ·rintro _ -
     simp only [List.cons_append, List.nil_append]
     refine Zb <|Ze <|mv J J <|dt (u_mul J J J) J <|mv J J <|dt (u_add J J J) J <|mv J J <|mv J J <|dt (u_mul J J J) J <|dt (u_sub J J J (by first | exact Nat.mod_lt _ U_pos | omega)) J <|Zm J J <|Zd <|Za <|Zb <|Yk (Qi 17 (v' := .int .u64 (t : Int)) J (by rw [hte, hQ1, dv_rem' hY0 hYU])) <|Ze <|mv J J <|mv J J <|dt (u_quo J J J (by omega) (by omega)) J <|Zm J J <|Zd <|Za <|Zb <|Ze <|mv J J <|mv J J <|mv J J <|dt (u_mul J J J) J <|dt (u_sub J J J (by first | exact Nat.mod_lt _ U_pos | omega)) J <|Zm J J <|Zd <|Za <|Qm [(2, _), (8, _), (14, _), (15, _), (17, _)] [(0, _)] (fun (_ : Unit) => [(18, .int .u64 ((Q0 : Nat) : Int))]) (fun (_ : Unit) => []) (fun (_ : Unit) => True) K5 K1 ?_ ?_
     ·refine Zv <|Yk (Qi 16 (v' := .int .u64 ((t % y1 : Nat) : Int)) J (by rw [rsub (by omega) (by omega)])) <|Qc [(2, _), (8, _), (9, _), (10, _), (14, _), (15, _), (17, _)] [(0, _)] (fun (q : Nat × Nat) => [(18, .int .u64 (q.1 : Int)), (16, .int .u64 (q.2 : Int))]) (fun (q : Nat × Nat) => []) (fun (q : Nat × Nat) => (dvI t v0 y1 y0 q.1 q.2) ∧ (q.2 < 4294967296)) (fun (q : Nat × Nat) => q.1) (t / y1, t % y1) ⟨dv0 hy1 hy1l hy0 hv0 ht, Nat.lt_trans (Nat.mod_lt _ (by omega)) hy1l⟩ K9 K1 ?_
      rintro ⟨a, r⟩ ⟨hI, hr⟩
      dsimp only at hI hr
      simp only [List.cons_append, List.nil_append]
      have hI1 := hI.1
      have hI2 := hI.2.1
      refine Zb <|Zb <|Ze <|mv J J <|dt (Qd J J J) J <|mv J J <|Xu (d := 104) J (fun s559 => ?_) (fun s559 => ?_)
      ·refine Xm J J J J J <|Xm J J J J J <|Xm J J J J J <|Xm J J J J J <|Xm J J J J J <|Xm J J J J J <|Xm J J J J J <|Xm J J J J J <|dt (Yp J J J) J <|Zd <|Za <|Ql J <|Zk <|Za <|Zv <|Zb ?_
       have hst := dv_step (by omega) hI hv0 ht (by omega)
       have hst1 := hst.1
       refine Ze <|mv J J <|dt (u_sub (n := 1) J J J (by decide)) J <|Zm J J <|Zd <|Za <|Zb <|Yk (Qi 18 (v' := .int .u64 ((a - 1 : Nat) : Int)) J (u64_eq (dec_u hst1 (by omega)))) <|Ze <|mv J J <|mv J J <|dt (u_add J J J) J <|Zm J J <|Zd <|Za <|Zb <|Yk (Qi 16 (v' := .int .u64 ((r + y1 : Nat) : Int)) J (u64_eq (Nat.mod_eq_of_lt (by omega)))) <|Ze <|mv J J <|dt (Qd J J J) J <|Zd <|Za <|Zn J (fun h562 => ?_) (fun h562 => ?_)
       ·refine Yv <|x_bo (by decide) <|Zz <|Xz ?_
        have hq : Q0 = a - 1 := by rw [hQ0, hYs]; exact (dv_break (by omega) hy0 hst.2 (by omega) (by omega)).symm
        exact Yx () trivial ⟨by rw [hq]; rfl, rfl, rfl, rfl, rfl, rfl, trivial⟩ K1
       ·exact Zk <|Xq <|Xe (a - 1, r + y1) ⟨hst.2, by dsimp only; omega⟩ (by first | omega | (dsimp only <;> omega)) K9 K1
      ·have hm1 := mul32_lt (show a < 4294967296 by omega) hy0
       have e1 := Nat.mod_eq_of_lt (show a * y0 < U from hm1)
       have e2 := Nat.mod_eq_of_lt (show 4294967296 * r < U by omega)
       have e3 := Nat.mod_eq_of_lt (show 4294967296 * r + v0 < U by omega)
       refine Yr (Zw J J) J J J J <|Yr (Zw J J) J J J J <|Yr (u_mul J J J) J J J J <|Yr (Zw J J) J J J J <|Yr (u_mul J J J) J J J J <|Yr (Zw J J) J J J J <|Yr (u_add J J J) J J J J <|Yr (Xv J J J) J J J J <|dt (Yd J J J) J <|Zd <|Za <|Zn J (fun h559 => ?_) (fun h559 => ?_)
       ·rw [e1, e2, e3] at h559
        refine Zk <|Za <|Zv <|Zb ?_
        have hst := dv_step (by omega) hI hv0 ht (by omega)
        have hst1 := hst.1
        refine Ze <|mv J J <|dt (u_sub (n := 1) J J J (by decide)) J <|Zm J J <|Zd <|Za <|Zb <|Yk (Qi 18 (v' := .int .u64 ((a - 1 : Nat) : Int)) J (u64_eq (dec_u hst1 (by omega)))) <|Ze <|mv J J <|mv J J <|dt (u_add J J J) J <|Zm J J <|Zd <|Za <|Zb <|Yk (Qi 16 (v' := .int .u64 ((r + y1 : Nat) : Int)) J (u64_eq (Nat.mod_eq_of_lt (by omega)))) <|Ze <|mv J J <|dt (Qd J J J) J <|Zd <|Za <|Zn J (fun h562_2 => ?_) (fun h562_2 => ?_)
        ·refine Yv <|x_bo (by decide) <|Zz <|Xz ?_
         have hq : Q0 = a - 1 := by rw [hQ0, hYs]; exact (dv_break (by omega) hy0 hst.2 (by omega) (by omega)).symm
         exact Yx () trivial ⟨by rw [hq]; rfl, rfl, rfl, rfl, rfl, rfl, trivial⟩ K1
        ·exact Zk <|Xq <|Xe (a - 1, r + y1) ⟨hst.2, by dsimp only; omega⟩ (by first | omega | (dsimp only <;> omega)) K9 K1
       ·rw [e1, e2, e3] at h559
        refine Yv <|Zz <|Zz <|Xz ?_
        have hq : Q0 = a := by rw [hQ0, hYs]; exact (dv_stop (by omega) hI (by omega)).symm
        exact Yx () trivial ⟨by rw [hq]; rfl, rfl, rfl, rfl, rfl, rfl, trivial⟩ K1
     ·rintro _ -
      simp only [List.cons_append, List.nil_append]
      refine Zb <|Ze <|mv J J <|dt (u_mul J J J) J <|mv J J <|dt (u_add J J J) J <|mv J J <|dt (u_mul J J J) J <|mv J J <|dt (u_add J J J) J <|mv J J <|mv J J <|dt (u_mul J J J) J <|dt (u_sub J J J (by first | exact Nat.mod_lt _ U_pos | omega)) J <|mv J J <|dt (u_shr J J J J (by omega)) J <|Zm J J <|Zm J J <|Zd <|Za <|Zr ?_
      have hA : (Q1 * 4294967296 % U + Q0) % U = (h * U + l) / y := by rw [← shift_div _ y s, ← hD, ← hYe, hd1]; simp only [U]; omega
      have hB : ((t * 4294967296 % U + v0) % U + (U - (Q0 * Y) % U)) % U / 2 ^ s = (h * U + l) % y := by rw [← shift_mod _ y s, ← hD, ← hYe, hd2, hQ0, dv_rem' hY0 hYU]
      exact Zx (.inl J) hsc () _ (fun a w hs => Xn hs Tryz.results160 J J) (by rw [hA, hB]) trivial J Zj
theorem nat_small (v : Value) (x d : Nat) (hx : bl x ≤ 8589934592) (hd : 0 < d) (hdU : d < U) : Cal Tryz.prog 158 #[v, .int .u64 (d : Int)] [dgp v x] false (G := Value) (fun r => True) (fun r => .tuple #[r, .int .u64 ((x % d : Nat) : Int)]) (fun r => [dgp r (x / d)]) := by
 refine Ye Tryz.func158 J Tryz.ntmps158 J K1 ?_
 intro w0 sc hw hsc
 simp only [Zq, Zo]
 have hX := lenU_bl x
 refine Zb <|Ze <|Zm J J <|Zm J J <|Zd <|Za <|Zb <|Ze <|mv J J <|dt (Zy J J (i := 1) J Zi uT127) J <|tt (Qt (i := 2) (n := (dg U x).length) (by_ := 8) (enc := encU) 0 J J J J J (by omega) uT127 Tryz.ti137 J pU.cells pU.pos J J (by omega) (by decide) J hw) J fun v _ => Zm J J <|Zd <|Za <|Zb <|Ze <|Zm J J <|Zd <|Za <|Zb <|Zb <|Ze <|mv J J <|dt (Zy J J (i := 1) J Zi uT127) J <|dt (Yz J J J ⟨by omega, by omega⟩) J <|Zm J J <|Zd <|Za <|Zv <|Qc [(0, _), (1, _), (6, _)] [(0, _), (1, _)] (fun (q : Nat × List Nat × Nat) => [(8, .int .i64 ((q.1 : Int) - 1)), (7, .int .u64 (q.2.2 : Int))]) (fun (q : Nat × List Nat × Nat) => [(2, osl 1 137 encU v q.2.1)]) (fun (q : Nat × List Nat × Nat) => (q.1 ≤ (dg U x).length) ∧ (q.2.1.length = (dg U x).length) ∧ (q.2.2 < d) ∧ (∀ d ∈ q.2.1, d < U) ∧ (val U (q.2.1.drop q.1) * d + q.2.2 = val U ((dg U x).drop q.1))) (fun (q : Nat × List Nat × Nat) => q.1) ((dg U x).length, List.replicate (dg U x).length 0, 0) ⟨Nat.le_refl _, by simp, by first | omega | (dsimp only <;> omega), all_replicate _ U_pos, by simp [val]⟩ K5 K3 ?_
 rintro ⟨k, o, r⟩ ⟨hk, hol, hr, hall, hv⟩
 dsimp only at hk hol hr hall hv
 simp only [List.cons_append, List.nil_append]
 refine Zb <|Zb <|Ze <|mv J J <|dt (Qd J J J) J <|Zd <|Za <|Zn J (fun h158 => ?_) (fun h158 => ?_)
 ·exact Zk <|Za <|Zb <|Zv <|Ze <|mv J J <|mv J J <|mv J J <|mv J J <|mv J J <|dt (Yn (ii := 1) (i := k - 1) J J J J Zi uT127 zT137 (by omega) (by omega)) J <|dt (Ys (ii := 1) 0 J J J Zi pU (by first | omega | (simp only [List.length_set]; omega))) J <|mv J J <|tt (Zh (n := 2) (bits_div _ _ _ (getD_lt U_pos (dg_lt two_U _) _) hdU hr) J J J K3 cF160 Zf J hw) J fun _ _ => mv J J <|dt (Zt J J J) J <|dt (Zt J J J) J <|dt (Yn (ii := 2) (i := k - 1) J J J J (Yi pU) uT127 zT137 (by omega) (by omega)) J <|tt (Qj (i := 2) (enc := encU) _ J J J J J J (by decide) pU (by first | omega | (simp only [List.length_set]; omega)) J hw) J fun _ _ => Zm J J <|Zd <|Xq <|Za <|Ze <|mv J J <|dt (Yz J J J ⟨by omega, by omega⟩) J <|Zm J J <|Zd <|Xe (k - 1, _, _) ⟨by first | omega | (dsimp only <;> omega), by simp; omega, Nat.mod_lt _ hd, all_set hall _ _ (dv_digit (getD_lt U_pos (dg_lt two_U x) _) hr), small_step hd (by omega) (by omega) (by rw [show k - 1 + 1 = k by omega]; exact hv)⟩ (by first | omega | (dsimp only <;> omega)) ⟨by rw [show (((k - 1 : Nat) : Int) - 1) = (k : Int) - 1 - 1 by omega]; rfl, rfl, rfl, rfl, rfl, trivial⟩ K3
 ·refine Yv <|Zz <|Zz <|Xz <|Za <|Zb <|Ze <|mv J J <|tt (Zh (n := 2) (nat_trim_own _ _) J J J K1 cF108 (Xl 2 J J pU Zf) J hw) J fun _ _ => Xi (s_tz 2 J J pU) <|mv J J <|Zm J J <|Zm J J <|Zd <|Za <|Zr ?_
  obtain rfl : k = 0 := by omega
  rw [List.drop_zero, List.drop_zero, val_dg two_U] at hv
  have hq : tz o = dg U (x / d) := by
   rw [← dg_val two_U _ hall, ← hv, Nat.mul_comm, Nat.mul_add_div hd, Nat.div_eq_of_lt hr, Nat.add_zero]
  have hm : r = x % d := by rw [← hv, Nat.mul_comm, Nat.mul_add_mod, Nat.mod_eq_of_lt hr]
  exact Zx (.inl J) hsc _ _ (fun a w hs => Xn hs Tryz.results158 J J) (by rw [hm]) trivial J (Xs 2 J J pU hq Zj)
theorem nat_shl (v : Value) (x s : Nat) (hx : bl x ≤ 4294967296) (hs : s ≤ 4294967296) : Cal Tryz.prog 159 #[v, .int .i64 (s : Int)] [dgp v x] false (G := Value) (fun r => True) (fun r => r) (fun r => [dgp r (x * 2 ^ s)]) := by
 refine Ye Tryz.func159 J Tryz.ntmps159 J K1 ?_
 intro w0 sc hw hsc
 simp only [Zq, Zo]
 obtain ⟨w, hwe⟩ : ∃ w, w = s / 64 := ⟨_, rfl⟩
 obtain ⟨b, hbe⟩ : ∃ b, b = s % 64 := ⟨_, rfl⟩
 have hX := lenU_bl x
 refine Zb <|Ze <|Zm J J <|Zd <|Za <|Zb <|Zb <|Ze <|mv J J <|dt (Zy J J (i := 1) J Zi uT127) J <|dt (Xh J J J) J <|Zd <|Za <|Zn J (fun h122 => ?_) (fun h122 => ?_)
 ·refine Zb <|Ze <|Zm J J <|Zd <|Za <|Zr <|Yw <|Qe (Qa 9 1 137 encU) ?_
  have hx0 : x = 0 := (dg_nil_iff two_U x).1 (by omega)
  exact Zx (.inl J) hsc (.slice none 0 0) _ (fun a w hs => Yt hs Tryz.results159 J) J trivial J (Xs 9 J J pU (by rw [hx0, Nat.zero_mul]; rfl) Zj)
 ·refine Zk <|Za <|Zb <|Ze <|mv J J <|dt (d_quo J J J (by omega) (by omega) (by omega)) J <|mv J J <|dt (d_rem J J J (by omega) (by omega)) J <|Zm J J <|Zm J J <|Zd <|Za <|Zb <|Yk (Qi 5 (v' := .int .i64 (w : Int)) J (by congr 1; omega)) <|Yk (Qi 6 (v' := .int .i64 (b : Int)) J (by congr 1; omega)) <|Ze <|mv J J <|dt (Zy J J (i := 1) J Zi uT127) J <|mv J J <|dt (Yl J J J ⟨by omega, by omega⟩) J <|dt (Yl J J J ⟨by omega, by omega⟩) J <|tt (Qt (i := 2) (n := (dg U x).length + w + 1) (by_ := 8) (enc := encU) 0 J J J J J (by omega) uT127 Tryz.ti137 J pU.cells pU.pos J J (by omega) (by decide) J hw) J fun v _ => Zm J J <|Zd <|Za <|Zb <|Zb <|Ze <|mv J J <|dt (Zy J J (i := 1) J Zi uT127) J <|mv J J <|Zd <|Za <|Zv ?_
  refine Qc [(5, _), (6, _), (7, _), (23, _), (24, _)] [(0, _), (1, _)] (fun (q : Nat × List Nat) => [(25, .int .i64 (q.1 : Int))]) (fun (q : Nat × List Nat) => [(2, osl 1 137 encU v q.2)]) (fun (q : Nat × List Nat) => (q.1 ≤ (dg U x).length) ∧ (q.2.length = (dg U x).length + w + 1) ∧ (q.2.getD (w + q.1) 0 < 2 ^ b) ∧ (∀ j, w + q.1 < j → q.2.getD j 0 = 0) ∧ (∀ d ∈ q.2, d < U) ∧ (val U (q.2.take ((dg U x).length + w + 1)) = val U ((dg U x).take q.1) * 2 ^ b * U ^ w)) (fun (q : Nat × List Nat) => (dg U x).length - q.1) (0, List.replicate ((dg U x).length + w + 1) 0) ⟨by first | omega | (dsimp only <;> omega), by simp, by rw [getD_replicate]; exact Nat.two_pow_pos b, fun j _ => getD_replicate _ j, all_replicate _ U_pos, by rw [List.take_replicate, val_replicate]; simp [val]⟩ K6 K3 ?_
  rintro ⟨i, o⟩ ⟨hi, hol, hc, hz, hall, hv⟩
  dsimp only at hi hol hc hz hall hv
  simp only [List.cons_append, List.nil_append]
  have hst : i < (dg U x).length → _ := fun hlt => shl_step (xs := dg U x) (show b ≤ 63 by omega) hol.symm (show w + i + 1 < _ by omega) hc (hz (w + i + 1) (by omega)) (getD_lt U_pos (dg_lt two_U x) i) hv
  refine Zb <|Ze <|dt (Xj J J J) J <|Zd <|Za <|Zb <|Zn J (fun h127 => ?_) (fun h127 => ?_)
  ·refine Zk <|Za <|Zb <|Zv <|Zb <|Ze <|mv J J <|dt (Yn (ii := 1) J J J J Zi uT127 zT137 J (by first | omega | (simp only [List.length_set]; omega))) J <|dt (Ys (ii := 1) 0 J J J Zi pU (by first | omega | (simp only [List.length_set]; omega))) J <|Zm J J <|Zm J J <|Zd <|Za <|Zb ?_
   have hX1 := getD_lt U_pos (dg_lt two_U x) i
   refine Xd (fun _ => False) [(0, 0), (1, 0), (2, 0), (3, 0), (4, 0), (5, 0), (6, 0), (7, 0), (8, 0), (9, 0), (10, 0), (11, 3)] (by kernel_rfl) ?_ ?_
   ·kernel_rfl
   refine r0' J J J J (st0 (Zw J J)) <|r0' J J J J (st0 (Zw J J)) <|r0' J J J J (st0 (Zw J J)) <|r0' J J J J (st0 (Yl J J J ⟨by omega, by omega⟩)) <|r0' J J J J (st0 (Yn (ii := 2) (i := w + i) J J J J (Yi pU) uT127 zT137 (by omega) (by omega))) <|r0' J J J J (st0 (Ys (ii := 2) 0 J J J (Yi pU) pU (by first | omega | (simp only [List.length_set]; omega)))) <|r0' J J J J (st0 (Zw J J)) <|r0' J J J J (st0 (Zw J J)) <|r0' J J J J (st0 (u_shl J J (n := b) J J (by omega))) <|r0' J J J J (st0 (u_or J J J (getD_lt U_pos hall _) (Nat.mod_lt _ U_pos))) <|r0' J J J J (st0 (Yn (ii := 2) (i := w + i) J J J J (Yi pU) uT127 zT137 (by omega) (by omega))) <|r3' J J (Qj (i := 2) (enc := encU) _ J J J J J J (by decide) pU (by first | omega | (simp only [List.length_set]; omega)) J hw) fun _ _ => Xo <|Za <|Zb <|Ze <|mv J J <|dt (Xv J J J) J <|Zd <|Za <|Zn J (fun h129 => ?_) (fun h129 => ?_)
   ·have hal2 := all_set (all_set hall (w + i) (o.getD (w + i) 0 ||| (dg U x).getD i 0 * 2 ^ b % U) (Nat.or_lt_two_pow (n := 64) (getD_lt U_pos hall _) (Nat.mod_lt _ U_pos))) (w + i + 1) ((dg U x).getD i 0 / 2 ^ (64 - b)) (Nat.lt_of_le_of_lt (Nat.div_le_self _ _) hX1)
    have hc2 : ((o.set (w + i) (o.getD (w + i) 0 ||| (dg U x).getD i 0 * 2 ^ b % U)).set (w + i + 1) ((dg U x).getD i 0 / 2 ^ (64 - b))).getD (w + i + 1) 0 < 2 ^ b := by
     rw [getD_set _ _ _ _ _ (by simp; omega), if_pos rfl]; exact div_pow_lt (by omega) hX1
    have hz2 : ∀ j, w + i + 1 < j → ((o.set (w + i) (o.getD (w + i) 0 ||| (dg U x).getD i 0 * 2 ^ b % U)).set (w + i + 1) ((dg U x).getD i 0 / 2 ^ (64 - b))).getD j 0 = 0 := fun j hj => by
     rw [getD_set _ _ _ _ _ (by simp; omega), if_neg (by omega), getD_set _ _ _ _ _ (by omega), if_neg (by omega)]; exact hz j (by omega)
    have hv2 := hst (by omega)
    exact Ze <|mv J J <|mv J J <|mv J J <|dt (Yl J J J ⟨by omega, by omega⟩) J <|dt (Yl J J J ⟨by omega, by omega⟩) J <|mv J J <|mv J J <|dt (Yz J J J ⟨by omega, by omega⟩) J <|dt (u_shr J J (n := 64 - b) J (by omega) (by omega)) J <|dt (Yn (ii := 2) (i := w + i + 1) J J J J (Yi pU) uT127 zT137 (by omega) (by simp only [List.length_set]; omega)) J <|tt (Qj (i := 2) (enc := encU) _ J J J J J J (by decide) pU (by simp only [List.length_set]; omega) J hw) J fun _ _ => Zd <|Xq <|Za <|Ze <|dt (Yl J J J ⟨by omega, by omega⟩) J <|mv J J <|Zd <|Xe (i + 1, _) ⟨by first | omega | (dsimp only <;> omega), by simp; omega, by dsimp only; rw [show w + (i + 1) = w + i + 1 by omega]; exact hc2, fun j hj => by have hj2 : w + (i + 1) < j := hj; dsimp only; exact hz2 j (by omega), hal2, hv2⟩ (by first | omega | (dsimp only <;> omega)) K6 K3
   ·obtain rfl : b = 0 := by omega
    have hal2 := all_set hall (w + i) (o.getD (w + i) 0 ||| (dg U x).getD i 0 * 2 ^ 0 % U) (Nat.or_lt_two_pow (n := 64) (getD_lt U_pos hall _) (Nat.mod_lt _ U_pos))
    have hc2 : (o.set (w + i) (o.getD (w + i) 0 ||| (dg U x).getD i 0 * 2 ^ 0 % U)).getD (w + i + 1) 0 < 2 ^ 0 := by
     rw [getD_set _ _ _ _ _ (by omega), if_neg (by omega), hz _ (by omega)]; exact Nat.two_pow_pos 0
    have hz2 : ∀ j, w + i + 1 < j → (o.set (w + i) (o.getD (w + i) 0 ||| (dg U x).getD i 0 * 2 ^ 0 % U)).getD j 0 = 0 := fun j hj => by
     rw [getD_set _ _ _ _ _ (by omega), if_neg (by omega)]; exact hz j (by omega)
    have hv2 := hst (by omega)
    rw [show (dg U x).getD i 0 / 2 ^ (64 - 0) = 0 from Nat.div_eq_of_lt hX1] at hv2
    have hsame := set_getD_zero (o.set (w + i) (o.getD (w + i) 0 ||| (dg U x).getD i 0 * 2 ^ 0 % U)) (w + i + 1) (by rw [getD_set _ _ _ _ _ (by omega), if_neg (by omega), hz _ (by omega)])
    rw [hsame] at hv2
    exact Zk <|Xq <|Za <|Ze <|dt (Yl J J J ⟨by omega, by omega⟩) J <|mv J J <|Zd <|Xe (i + 1, _) ⟨by first | omega | (dsimp only <;> omega), by simp; omega, by dsimp only; rw [show w + (i + 1) = w + i + 1 by omega]; exact hc2, fun j hj => by have hj2 : w + (i + 1) < j := hj; dsimp only; exact hz2 j (by omega), hal2, hv2⟩ (by first | omega | (dsimp only <;> omega)) K6 K3
  ·refine Yv <|Zz <|Zz <|Xz <|Za <|Zb <|Ze <|mv J J <|tt (Zh (n := 2) (nat_trim_own _ _) J J J K1 cF108 (Xl 2 J J pU Zf) J hw) J fun _ _ => Xi (s_tz 2 J J pU) <|Zm J J <|Zd <|Za <|Zr ?_
   obtain rfl : i = (dg U x).length := by omega
   have hx2 : tz o = dg U (x * 2 ^ s) := by
    rw [← dg_val two_U _ hall]
    congr 1
    rw [val_take_all U o _ (by omega), List.take_of_length_le (Nat.le_refl _), val_dg two_U, U_pow2, Nat.mul_assoc, ← Nat.pow_add, show b + 64 * w = s by omega] at hv
    exact hv
   exact Zx (.inl J) hsc _ _ (fun a w hs => Yt hs Tryz.results159 J) J trivial J (Xs 2 J J pU hx2 Zj)
theorem nat_shr (v : Value) (x s : Nat) (hx : bl x ≤ 8589934592) (hs : s ≤ 8589934592) : Cal Tryz.prog 162 #[v, .int .i64 (s : Int)] [dgp v x] false (G := Value) (fun r => True) (fun r => r) (fun r => [dgp r (x / 2 ^ s)]) := by
 refine Ye Tryz.func162 J Tryz.ntmps162 J K1 ?_
 intro w0 sc hw hsc
 simp only [Zq, Zo]
 obtain ⟨w, hwe⟩ : ∃ w, w = s / 64 := ⟨_, rfl⟩
 obtain ⟨b, hbe⟩ : ∃ b, b = s % 64 := ⟨_, rfl⟩
 have hX := lenU_bl x
 have hdl : ((dg U x).drop w).length = (dg U x).length - w := List.length_drop
 refine Zb <|Ze <|Zm J J <|Zd <|Za <|Zb <|Ze <|mv J J <|dt (d_quo J J J (by omega) (by omega) (by omega)) J <|mv J J <|dt (d_rem J J J (by omega) (by omega)) J <|Zm J J <|Zm J J <|Zd <|Za <|Zb <|Zb <|Yk (Qi 5 (v' := .int .i64 (w : Int)) J (by congr 1; omega)) <|Yk (Qi 6 (v' := .int .i64 (b : Int)) J (by congr 1; omega)) <|Ze <|mv J J <|mv J J <|dt (Zy J J (i := 1) J Zi uT127) J <|dt (Qd J J J) J <|Zd <|Za <|Zn J (fun h139 => ?_) (fun h139 => ?_)
 ·refine Zb <|Ze <|Zm J J <|Zd <|Za <|Zr <|Yw <|Qe (Qa 9 1 137 encU) ?_
  have hx0 : x / 2 ^ s = 0 := by
   rw [shr_split hwe hbe, Nat.div_eq_of_lt ((dg_length_le two_U w x).1 (by omega)), Nat.zero_div]
  exact Zx (.inl J) hsc (.slice none 0 0) _ (fun a w hs => Yt hs Tryz.results162 J) J trivial J (Xs 9 J J pU (by rw [hx0]; rfl) Zj)
 ·refine Zk <|Za <|Zb <|Ze <|mv J J <|mv J J <|dt (d_suf (ii := 1) (i := w) J J J J Zi uT127 zT137 (by omega) (by omega)) J <|Xi (s_suf 1 2 (w) J J (by omega)) <|tt (t_callo (n := 3) (clone_nat _ _ (by simp only [List.length_drop]; omega)) J J J K1 cF166 (Zg 2 J J J Zf) J hw) J fun v _ => Zm J J <|Zd <|Za <|Qm [(7, _)] [(0, _), (1, _), (2, _)] (fun (o : List Nat) => []) (fun (o : List Nat) => [(3, osl 1 137 encU v o)]) (fun (o : List Nat) => (o.length = (dg U x).length - w) ∧ (∀ j, j < o.length → o.getD j 0 = x / 2 ^ s / U ^ j % U)) K1 K3 ?_ ?_
  ·refine Zb <|Ze <|mv J J <|dt (Xv J J J) J <|Zd <|Za <|Zn J (fun h143 => ?_) (fun h143 => ?_)
   ·refine Zb <|Ze <|mv J J <|dt (Zy J J (i := 3) J (Yi pU) uT127) J <|mv J J <|Zd <|Za <|Zv <|Qc [(0, _), (5, _), (6, _), (7, _), (24, _)] [(0, _), (1, _), (2, _)] (fun (q : Nat × List Nat) => [(25, .int .i64 (q.1 : Int))]) (fun (q : Nat × List Nat) => [(3, osl 1 137 encU v q.2)]) (fun (q : Nat × List Nat) => (q.1 ≤ (dg U x).length - w) ∧ (q.2.length = (dg U x).length - w) ∧ (∀ j, j < q.1 → q.2.getD j 0 = x / 2 ^ s / U ^ j % U) ∧ (∀ j, q.1 ≤ j → q.2.getD j 0 = x / U ^ w / U ^ j % U) ∧ (∀ d ∈ q.2, d < U)) (fun (q : Nat × List Nat) => (dg U x).length - w - q.1) (0, (dg U x).drop w) ⟨Nat.zero_le _, by simp, fun j hj => absurd hj (Nat.not_lt_zero j), fun j _ => drop_dg x w j, fun d hd => dg_lt two_U x d (List.mem_of_mem_drop hd)⟩ K6 K4 ?_
    rintro ⟨i, o⟩ ⟨hi, hol, hlo, hhi, hall⟩
    dsimp only at hi hol hlo hhi hall
    simp only [List.cons_append, List.nil_append]
    refine Zb <|Ze <|dt (Xj J J J) J <|Zd <|Za <|Zb <|Zn J (fun h144 => ?_) (fun h144 => ?_)
    ·refine Zk <|Za <|Zb <|Zv <|Zb <|Ze <|mv J J <|Zm J J <|Zd <|Za <|Zb <|Ze <|mv J J <|mv J J <|dt (Yn (ii := 3) J J J J (Yi pU) uT127 zT137 J (by first | omega | (simp only [List.length_set]; omega))) J <|dt (Ys (ii := 3) 0 J J J (Yi pU) pU (by first | omega | (simp only [List.length_set]; omega))) J <|mv J J <|dt (u_shr J J (n := b) J J (by omega)) J <|dt (Yn (ii := 3) J J J J (Yi pU) uT127 zT137 J (by first | omega | (simp only [List.length_set]; omega))) J <|tt (Qj (i := 3) (enc := encU) _ J J J J J J (by decide) pU (by first | omega | (simp only [List.length_set]; omega)) J hw) J fun _ _ => Zd <|Za <|Zb <|Ze <|mv J J <|dt (Yl J J J ⟨by omega, by omega⟩) J <|mv J J <|dt (Zy J J (i := 3) J (Yi pU) uT127) J <|dt (Xj J J J) J <|Zd <|Za <|Zn J (fun h146 => ?_) (fun h146 => ?_)
     ·simp only [List.length_set] at h146
      have hnew : ∀ j, ((o.set i (o.getD i 0 / 2 ^ b)).set i ((o.set i (o.getD i 0 / 2 ^ b)).getD i 0 ||| ((dg U x).getD (w + i + 1) 0 * 2 ^ (64 - b)) % U)).getD j 0 = if i = j then x / 2 ^ s / U ^ i % U else o.getD j 0 := fun j => by
       rw [getD_set _ _ _ _ _ (by simp; omega), getD_set _ _ _ _ _ (by omega), getD_set _ _ _ _ _ (by omega)]
       split
       ·rw [if_pos rfl, hhi i (Nat.le_refl _), dg_getD two_U, shr_split hwe hbe, div_swap, show x / U ^ (w + i + 1) = x / U ^ w / U ^ i / U by rw [Nat.div_div_eq_div_mul, Nat.div_div_eq_div_mul, ← Nat.pow_succ, ← Nat.pow_add]; rfl, shr_word _ _ (by omega)]
       ·rfl
      have hal2 := all_set (all_set hall i (o.getD i 0 / 2 ^ b) (Nat.lt_of_le_of_lt (Nat.div_le_self _ _) (getD_lt U_pos hall _))) i ((o.set i (o.getD i 0 / 2 ^ b)).getD i 0 ||| ((dg U x).getD (w + i + 1) 0 * 2 ^ (64 - b)) % U) (Nat.or_lt_two_pow (n := 64) (getD_lt U_pos (all_set hall _ _ (Nat.lt_of_le_of_lt (Nat.div_le_self _ _) (getD_lt U_pos hall _))) _) (Nat.mod_lt _ U_pos))
      refine Xd (fun _ => False) [(0, 0), (1, 0), (2, 0), (3, 0), (4, 0), (5, 0), (6, 0), (7, 0), (8, 0), (9, 0), (10, 0), (11, 0), (12, 0), (13, 0), (14, 0), (15, 0), (16, 3)] (by kernel_rfl) ?_ ?_
      ·kernel_rfl
      refine r0' J J J J (st0 (Zw J J)) <|r0' J J J J (st0 (Zw J J)) <|r0' J J J J (st0 (Yn (ii := 3) J J J J (Yi pU) uT127 zT137 J (by first | omega | (simp only [List.length_set]; omega)))) <|r0' J J J J (st0 (Ys (ii := 3) 0 J J J (Yi pU) pU (by first | omega | (simp only [List.length_set]; omega)))) <|r0' J J J J (st0 (Zw J J)) <|r0' J J J J (st0 (Zw J J)) <|r0' J J J J (st0 (Zw J J)) <|r0' J J J J (st0 (Yl J J J ⟨by omega, by omega⟩)) <|r0' J J J J (st0 (Yl J J J ⟨by omega, by omega⟩)) <|r0' J J J J (st0 (Yn (ii := 1) (i := w + i + 1) J J J J Zi uT127 zT137 (by omega) (by first | omega | (simp only [List.length_set]; omega)))) <|r0' J J J J (st0 (Ys (ii := 1) 0 J J J Zi pU (by first | omega | (simp only [List.length_set]; omega)))) <|r0' J J J J (st0 (Zw J J)) <|r0' J J J J (st0 (Yz J J J ⟨by omega, by omega⟩)) <|r0' J J J J (st0 (u_shl J J (n := 64 - b) J (by omega) (by omega))) <|r0' J J J J (st0 (u_or J J J (getD_lt U_pos (all_set hall _ _ (Nat.lt_of_le_of_lt (Nat.div_le_self _ _) (getD_lt U_pos hall _))) _) (Nat.mod_lt _ U_pos))) <|r0' J J J J (st0 (Yn (ii := 3) J J J J (Yi pU) uT127 zT137 J (by first | omega | (simp only [List.length_set]; omega)))) <|r3' J J (Qj (i := 3) (enc := encU) _ J J J J J J (by decide) pU (by first | omega | (simp only [List.length_set]; omega)) J hw) fun _ _ => Xo <|Xq <|Za ?_
      exact Ze <|dt (Yl J J J ⟨by omega, by omega⟩) J <|mv J J <|Zd <|Xe (i + 1, _) ⟨by first | omega | (dsimp only <;> omega), by simp; omega, fun j hj => by dsimp only; rw [hnew j]; split; (· rename_i e; rw [← e]); exact hlo j (by have : j < i + 1 := hj; omega), fun j hj => by dsimp only; rw [hnew j, if_neg (by have : i + 1 ≤ j := hj; omega)]; exact hhi j (by have : i + 1 ≤ j := hj; omega), hal2⟩ (by first | omega | (dsimp only <;> omega)) K6 K4
     ·have hnew : ∀ j, (o.set i (o.getD i 0 / 2 ^ b)).getD j 0 = if i = j then x / 2 ^ s / U ^ i % U else o.getD j 0 := fun j => by
       rw [getD_set _ _ _ _ _ (by omega)]
       split
       ·rw [hhi i (Nat.le_refl _), shr_split hwe hbe, div_swap, shr_word0 _ _ (by omega)]
        rw [Nat.div_div_eq_div_mul, ← Nat.pow_succ]
        exact Nat.div_eq_of_lt (len_top (by simp only [List.length_set] at h146; omega))
       ·rfl
      have hal2 := all_set hall i (o.getD i 0 / 2 ^ b) (Nat.lt_of_le_of_lt (Nat.div_le_self _ _) (getD_lt U_pos hall _))
      exact Zk <|Xq <|Za <|Ze <|dt (Yl J J J ⟨by omega, by omega⟩) J <|mv J J <|Zd <|Xe (i + 1, _) ⟨by first | omega | (dsimp only <;> omega), by simp; omega, fun j hj => by dsimp only; rw [hnew j]; split; (· rename_i e; rw [← e]); exact hlo j (by have : j < i + 1 := hj; omega), fun j hj => by dsimp only; rw [hnew j, if_neg (by have : i + 1 ≤ j := hj; omega)]; exact hhi j (by have : i + 1 ≤ j := hj; omega), hal2⟩ (by first | omega | (dsimp only <;> omega)) K6 K4
    ·exact Yv <|Zz <|Zz <|Xz <|Yx _ ⟨by omega, by intro j hj; rw [hlo j (by omega)]⟩ K1 K4
   ·exact Zk <|Yx _ ⟨by simp, by intro j hj; rw [drop_dg, shr_split hwe hbe, show b = 0 by omega, Nat.pow_zero, Nat.div_one]⟩ K1 K4
  ·rintro o ⟨hol, hv⟩
   simp only [List.cons_append, List.nil_append]
   refine Zb <|Ze <|mv J J <|tt (Zh (n := 3) (nat_trim_own _ _) J J J K1 cF108 (Xl 3 J J pU Zf) J hw) J fun _ _ => Xi (s_tz 3 J J pU) <|Zm J J <|Zd <|Za <|Zr ?_
   have hx2 : tz o = dg U (x / 2 ^ s) := tz_of_getD two_U hv (by rw [hol, shr_split hwe hbe]; exact Nat.lt_of_le_of_lt (Nat.div_le_self _ _) (len_top (by omega)))
   exact Zx (.inl J) hsc _ _ (fun a w hs => Yt hs Tryz.results162 J) J trivial J (Xs 3 J J pU hx2 Zj)
theorem nat_store (v : Value) (x : Nat) (hx : bl x ≤ 4294967296) : Cal Tryz.prog 143 #[v] [dgp v x] false (G := Unit) (fun _ => True) (fun _ => .string (bstr x)) (fun _ => []) := by
 refine Ye Tryz.func143 J Tryz.ntmps143 J K1 ?_
 intro w0 sc hw hsc
 simp only [Zq, Zo]
 have hX := lenU_bl x
 have hL := len256 x
 have hW := lenU x
 have hrl : (List.replicate (dg 256 x).length (0 : Nat)).length = (dg 256 x).length := List.length_replicate
 refine Zb <|Ze <|Zm J J <|Zd <|Za <|Zb <|Ze <|mv J J <|tt (Zh (n := 1) (nat_size _ _ (by omega)) J J J K1 cF136 (Zg 1 J J J Zf) J hw) J fun _ _ => dt (Yl J J J ⟨by omega, by omega⟩) J <|dt (d_quo J J J (by omega) (by omega) (by omega)) J <|tt (Qt (i := 2) (n := (dg 256 x).length) (by_ := 1) (enc := encB) 0 J J J J J (by omega) uT26 Tryz.ti5 J pB.cells pB.pos J J (by omega) (by decide) J hw) J fun v _ => Zm J J <|Zd <|Za <|Zb <|Zb <|Ze <|mv J J <|dt (Zy J J (i := 2) J (Yi pB) uT26) J <|mv J J <|Zd <|Za <|Zv <|Qc [(0, _), (3, _), (12, _)] [(0, _), (1, _)] (fun (q : Nat × List Nat) => [(13, .int .i64 (q.1 : Int))]) (fun (q : Nat × List Nat) => [(2, osl 1 5 encB v q.2)]) (fun (q : Nat × List Nat) => (q.1 ≤ (dg 256 x).length) ∧ (q.2.length = (dg 256 x).length) ∧ (∀ j, j < q.1 → q.2.getD j 0 = x / 256 ^ ((dg 256 x).length - 1 - j) % 256)) (fun (q : Nat × List Nat) => (dg 256 x).length - q.1) (0, List.replicate (dg 256 x).length 0) ⟨by first | omega | (dsimp only <;> omega), by simp, fun j hj => absurd hj (Nat.not_lt_zero j)⟩ K4 K3 ?_
 rintro ⟨i, o⟩ ⟨hi, hol, hov⟩
 dsimp only at hi hol hov
 simp only [List.cons_append, List.nil_append]
 refine Zb <|Ze <|dt (Xj J J J) J <|Zd <|Za <|Zb <|Zn J (fun h48 => ?_) (fun h48 => ?_)
 ·refine Zk <|Za <|Zb <|Zv <|Zb <|Ze <|mv J J <|Zm J J <|Zd <|Za <|Zb <|Ze <|mv J J <|dt (Zy J J (i := 2) J (Yi pB) uT26) J <|dt (Yz J J J ⟨by omega, by omega⟩) J <|mv J J <|dt (Yz J J J ⟨by omega, by omega⟩) J <|Zm J J <|Zd <|Za <|Yk (Qi 5 (v' := .int .i64 (((dg 256 x).length - 1 - i : Nat) : Int)) J (by congr 1; omega)) ?_
  have hbyte := byte_of_word x ((dg 256 x).length - 1 - i)
  rw [← dg_getD two_U] at hbyte
  exact Ze <|mv J J <|mv J J <|mv J J <|mv J J <|dt (d_quo J J J (by omega) (by omega) (by omega)) J <|dt (Yn (ii := 1) (i := ((dg 256 x).length - 1 - i) / 8) J J J J Zi uT127 zT137 (by omega) (by omega)) J <|dt (Ys (ii := 1) 0 J J J Zi pU (by omega)) J <|mv J J <|dt (d_rem J J J (by omega) (by omega)) J <|dt (d_mul J J J ⟨by omega, by omega⟩) J <|dt (u_shr J J (n := ((dg 256 x).length - 1 - i) % 8 * 8) J (by omega) (by omega)) J <|dt (cv_u8 J J uT137 uT5) J <|dt (Yn (ii := 2) J J J J (Yi pB) uT26 zT5 J (by first | omega | (simp only [List.length_set]; omega))) J <|tt (Qj (i := 2) (enc := encB) _ J J J J J J (by decide) pB (by first | omega | (simp only [List.length_set]; omega)) J hw) J fun _ _ => Zd <|Xq <|Za <|Ze <|dt (Yl J J J ⟨by omega, by omega⟩) J <|mv J J <|Zd <|Xe (i + 1, _) ⟨by first | omega | (dsimp only <;> omega), by simp; omega, fun j hj => by dsimp only; rw [getD_set _ _ _ _ _ (by omega)]; split; (· rename_i e; rw [← e]; exact hbyte); exact hov j (by omega)⟩ (by first | omega | (dsimp only <;> omega)) K4 K3
 ·refine Yv <|Zz <|Zz <|Xz <|Za <|Zb <|Ze <|mv J J <|dt (d_b2s J J (i := 2) J (Yi pB) uT26 uT9 uT5) J <|Zm J J <|Zd <|Za <|Zr ?_
  have hb : bstr x = ⟨(o.map UInt8.ofNat).toArray⟩ := by
   have ho : o = (dg 256 x).reverse := by
    refine eq_of_getD (by simp; omega) (fun j hj => ?_)
    rw [hov j (by omega), getD_reverse _ _ _ (by omega), dg_getD (by omega)]
   rw [ho]; rfl
  exact Zx (.inl J) hsc () _ (fun a w hs => Yt hs Tryz.results143 J) (by rw [hb]) trivial J Zj
theorem wide_load (x : Nat) (hx : bl x ≤ 4294967296) : Cal Tryz.prog 135 #[.string (bstr x)] [] false (G := Value) (fun r => True) (fun r => r) (fun r => [dgp r x]) := by
 refine Ye Tryz.func135 J Tryz.ntmps135 J trivial ?_
 intro w0 sc hw hsc
 simp only [Zq, Zo]
 have hX := lenU_bl x
 have hL := len256 x
 have hW := lenU x
 have hbs := bstr_size x
 refine Zb <|Ze <|Zm J J <|Zd <|Za <|Zb <|Ze <|mv J J <|dt (d_lens J J uT9) J <|dt (Yl J J J ⟨by omega, by omega⟩) J <|dt (d_quo J J J (by omega) (by omega) (by omega)) J <|tt (Qt (i := 1) (n := (dg U x).length) (by_ := 8) (enc := encU) 0 J J J J J (by omega) uT127 Tryz.ti137 J pU.cells pU.pos J J (by omega) (by decide) J hw) J fun v _ => Zm J J <|Zd <|Za <|Zb <|Zb <|Ze <|mv J J <|dt (d_lens J J uT9) J <|mv J J <|Zd <|Za <|Zv <|Qc [(0, _), (3, _), (12, _)] [(0, _)] (fun (q : Nat × List Nat) => [(13, .int .i64 (q.1 : Int))]) (fun (q : Nat × List Nat) => [(1, osl 1 137 encU v q.2)]) (fun (q : Nat × List Nat) => (q.1 ≤ (dg 256 x).length) ∧ (q.2.length = (dg U x).length) ∧ (∀ w, w < q.2.length → q.2.getD w 0 = hi x ((dg 256 x).length - q.1) w)) (fun (q : Nat × List Nat) => (dg 256 x).length - q.1) (0, List.replicate (dg U x).length 0) ⟨by first | omega | (dsimp only <;> omega), by simp, fun w hw => by dsimp only at *; rw [List.length_replicate] at hw; rw [getD_replicate, hi_top (by omega)]⟩ K4 K2 ?_
 rintro ⟨i, o⟩ ⟨hik, hol, hov⟩
 dsimp only at hik hol hov
 simp only [List.cons_append, List.nil_append]
 refine Zb <|Ze <|dt (Xj J J J) J <|Zd <|Za <|Zb <|Zn J (fun h30 => ?_) (fun h30 => ?_)
 ·refine Zk <|Za <|Zb <|Zv <|Zb <|Ze <|mv J J <|Zm J J <|Zd <|Za <|Zb <|Ze <|mv J J <|dt (d_lens J J uT9) J <|dt (Yz J J J ⟨by omega, by omega⟩) J <|mv J J <|dt (Yz J J J ⟨by omega, by omega⟩) J <|Zm J J <|Zd <|Za <|Yk (Qi 5 (v' := .int .i64 (((dg 256 x).length - 1 - i : Nat) : Int)) J (by congr 1; omega)) ?_
  have hget := bstr_get x i (by omega)
  have hw0 := hov (((dg 256 x).length - 1 - i) / 8) (by omega)
  have hlt1 : o.getD (((dg 256 x).length - 1 - i) / 8) 0 < U := by rw [hw0]; exact Nat.mod_lt _ U_pos
  have hset : ∀ w, w < o.length → (o.set (((dg 256 x).length - 1 - i) / 8) (o.getD (((dg 256 x).length - 1 - i) / 8) 0 ||| (((bstr x).data.toList.getD i 0).toNat * 2 ^ (((dg 256 x).length - 1 - i) % 8 * 8)) % U)).getD w 0 = hi x ((dg 256 x).length - (i + 1)) w := fun w hw => by
   rw [hget, hw0, show (dg 256 x).length - i = (dg 256 x).length - 1 - i + 1 by omega, hi_step, getD_set _ _ _ _ _ (by omega), show (dg 256 x).length - (i + 1) = (dg 256 x).length - 1 - i by omega]
   split
   ·rename_i e; rw [e]
   ·rename_i e; rw [hov w hw, show (dg 256 x).length - i = (dg 256 x).length - 1 - i + 1 by omega]; exact hi_other e
  refine Xd (fun _ => False) [(0, 0), (1, 0), (2, 0), (3, 0), (4, 0), (5, 0), (6, 0), (7, 0), (8, 0), (9, 0), (10, 0), (11, 0), (12, 0), (13, 0), (14, 0), (15, 3)] (by kernel_rfl) ?_ ?_
  ·kernel_rfl
  refine r0' J J J J (st0 (Zw J J)) <|r0' J J J J (st0 (Zw J J)) <|r0' J J J J (st0 (d_quo J J J (by omega) (by omega) (by omega))) <|r0' J J J J (st0 (Yn (ii := 1) (i := ((dg 256 x).length - 1 - i) / 8) J J J J (Yi pU) uT127 zT137 (by omega) (by omega))) <|r0' J J J J (st0 (Ys (ii := 1) 0 J J J (Yi pU) pU (by first | omega | (simp only [List.length_set]; omega)))) <|r0' J J J J (st0 (Zw J J)) <|r0' J J J J (st0 (Zw J J)) <|r0' J J J J (st0 (d_ixs J J J uT9 J (by omega))) <|r0' J J J J (st0 (cv_u64 J J uT5 uT137 (by have := (((bstr x).data.toList.getD i 0).toNat_lt); simp only [U]; omega))) <|r0' J J J J (st0 (Zw J J)) <|r0' J J J J (st0 (d_rem J J J (by omega) (by omega))) <|r0' J J J J (st0 (d_mul J J J ⟨by omega, by omega⟩)) <|r0' J J J J (st0 (u_shl J J (n := ((dg 256 x).length - 1 - i) % 8 * 8) J (by omega) (by omega))) <|r0' J J J J (st0 (u_or J J J (hlt1) (Nat.mod_lt _ U_pos))) <|r0' J J J J (st0 (Yn (ii := 1) (i := ((dg 256 x).length - 1 - i) / 8) J J J J (Yi pU) uT127 zT137 (by omega) (by omega))) <|r3' J J (Qj (i := 1) (enc := encU) _ J J J J J J (by decide) pU (by first | omega | (simp only [List.length_set]; omega)) J hw) fun _ _ => Xo <|Xq <|Za <|Ze <|dt (Yl J J J ⟨by omega, by omega⟩) J <|mv J J <|Zd ?_
  exact Xe (i + 1, _) ⟨by first | omega | (dsimp only <;> omega), by simp; omega, fun w hw => hset w (by simpa using hw)⟩ (by first | omega | (dsimp only <;> omega)) K4 K2
 ·refine Yv <|Zz <|Zz <|Xz <|Za <|Zb <|Ze <|mv J J <|Zm J J <|Zd <|Za <|Zr ?_
  have ho : o = dg U x := eq_of_getD hol (fun j hj => by rw [hov j hj, dg_getD two_U, hi_ge (by omega)])
  exact Zx (.inl J) hsc _ _ (fun a w hs => Yt hs Tryz.results135 J) J trivial J (Xs 1 J J pU ho Zj)
end Go.Sky
namespace Go.Sky
open Go.Proofs
set_option maxRecDepth 20000
set_option maxHeartbeats 4000000
set_option linter.unusedVariables false
set_option linter.unusedSimpArgs false
set_option maxHeartbeats 2000000 in
theorem nat_div (v w : Value) (x y : Nat) (hx : bl x ≤ 4000000000) (hy0 : bl y ≤ 4000000000) (hy : 0 < y) : Cal Tryz.prog 142 #[v, w] [dgp v x, dgp w y] true (G := Value × Value) (fun r => True) (fun r => .tuple #[r.1, r.2]) (fun r => [dgp r.1 (x / y), dgp r.2 (x % y)]) := by
 refine Ye Tryz.func142 J Tryz.ntmps142 J K2 ?_
 intro w0 sc hw hsc
 simp only [Zq, Zo]
 have hX := lenU_bl x
 have hY := lenU_bl y
 refine Zb <|Ze <|Zm J J <|Zm J J <|Zd <|Za <|Zb <|Zb <|Ze <|mv J J <|mv J J <|tt (Zh (n := 2) (nat_compare _ _ _ _ (by omega) (by omega)) J J J K2 cF140 (Zg 1 J J J (Zg 2 J J J Zf)) J hw) J fun r hr => dt (Xj J J J) J <|Zd <|Za <|Zn J (fun h166 => ?_) (fun h166 => ?_)
 ·have hlt : x < y := hr.1.1 (by omega)
  exact Zb <|Ze <|mv J J <|Zm J J <|Zm J J <|Zd <|Za <|Zr <|Yw <|Qe (Qa 9 1 137 encU) <|Zx (.inl J) hsc (.slice none 0 0, v) _ (fun a w hs => Xn hs Tryz.results142 J J) J trivial J (Xs 9 J J pU (by rw [Nat.div_eq_of_lt hlt]; rfl) (Yj 1 J J J (by rw [Nat.mod_eq_of_lt hlt]) Zj))
 ·have hge : y ≤ x := by have := hr.1; omega
  have hly := bl_mono hge
  refine Zk <|Za <|Zb <|Zb <|Ze <|mv J J <|dt (Zy J J (i := 2) J Zi uT127) J <|dt (Xh J J J) J <|Zd <|Za <|Zn J (fun h169 => ?_) (fun h169 => ?_)
  ·have hyU : y < U := by have := (dg_length_le two_U 1 y).1 (by omega); simpa using this
   have hd0 : (dg U y).getD 0 0 = y := by rw [dg_getD two_U]; simp [Nat.mod_eq_of_lt hyU]
   exact Zb <|Ze <|mv J J <|mv J J <|dt (Yn (ii := 2) (i := 0) J J J J Zi uT127 zT137 J (by omega)) J <|dt (Ys (ii := 2) 0 J J J Zi pU (by first | omega | (simp only [List.length_set]; omega))) J <|tt (Zh (n := 3) (nat_small _ _ _ (by omega) (by rw [hd0]; exact hy) (by rw [hd0]; exact hyU)) J J J K2 cF158 (Zg 1 J J J Zf) J hw) J fun v _ => mv J J <|dt (Zt J J J) J <|dt (Zt J J J) J <|Zm J J <|Zm J J <|Zd <|Za <|Zb <|Ze <|mv J J <|mv J J <|tt (Xf (i := 4) (ivs := [(0, _)]) (enc := encU) [x % (dg U y).getD 0 0] J J J K2 uT127 Tryz.ti137 J J J J J J pU.cells J J hw) J fun v_2 _ => tt (Zh (n := 4) (nat_trim_own _ _) J J J K1 cF108 (Xl 4 J J pU Zf) J hw) J fun _ _ => Xi (s_tz 4 J J pU) <|Zm J J <|Zm J J <|Zd <|Za <|Zr <|Yw <|Zx (.inl J) hsc (_, _) _ (fun a w hs => Xn hs Tryz.results142 J J) J trivial J (Yj 3 J J J (by rw [hd0]; rfl) (Xs 4 J J pU (by rw [tz_single (Nat.lt_trans (Nat.mod_lt _ (by rw [hd0]; exact hy)) (by rw [hd0]; exact hyU)), hd0]) Zj))
  ·refine Zk <|Za <|Zb ?_
   obtain ⟨k, hk⟩ : ∃ k, k = (dg U y).length := ⟨_, rfl⟩
   have hkx : k ≤ (dg U x).length := by omega
   obtain ⟨b, hb⟩ : ∃ b, b = 64 - bl ((dg U y).getD (k - 1) 0) := ⟨_, rfl⟩
   obtain ⟨hkD0, _, hk1, hDk0, hb63, hD630⟩ := norm_dg hy hk hb
   obtain ⟨D, hDe⟩ : ∃ D, D = y * 2 ^ b := ⟨_, rfl⟩
   have hkD : (dg U D).length = k := by rw [hDe]; exact hkD0
   have hDk : D < U ^ k := by rw [hDe]; exact hDk0
   have hD63 : U ^ (k - 1) * 9223372036854775808 ≤ D := by rw [hDe]; exact hD630
   have hD0 : 0 < D := by rw [hDe]; exact Nat.mul_pos hy (Nat.two_pow_pos b)
   have hDb : bl D ≤ 4000000064 := by rw [hDe, bl_mul_pow _ _ hy]; omega
   refine Ze <|mv J J <|mv J J <|dt (Zy J J (i := 2) J Zi uT127) J <|dt (Yz J J J ⟨by omega, by omega⟩) J <|dt (Yn (ii := 2) (i := (dg U y).length - 1) J J J J Zi uT127 zT137 (by omega) (by omega)) J <|dt (Ys (ii := 2) 0 J J J Zi pU (by first | omega | (simp only [List.length_set]; omega))) J <|tt (Zh (n := 4) (bits_lz _ (getD_lt U_pos (dg_lt two_U y) _)) J J J K1 cF155 Zf J hw) J fun _ _ => Xi (Qi 44 (v' := .int .i64 (b : Int)) J (by rw [hb, hk])) <|Zm J J <|Zd <|Za <|Qm [(0, _), (8, _)] [(0, _), (1, _), (2, _)] (fun (q : Value × Value) => [(9, q.1), (10, q.2)]) (fun (q : Value × Value) => [(81, dgp q.1 D), (82, osl 1 137 encU q.2 (List.replicate ((dg U x).length + 1) 0))]) (fun (q : Value × Value) => True) K2 K3 ?_ ?_
   ·refine Xr (fun _ => False) [8] (by kernel_rfl) <|Zs (n := 4) [(0, 0), (1, 0), (3, 0), (4, 0), (5, 0)] (by kernel_rfl) <|r0' J J J J (st0 (Zw J J)) <|r0' J J J J (st0 (Zw J J)) <|r0' J J J J (st0 (Zw J J)) <|r0' J J J J (st0 (Zy J J (i := 1) J Zi uT127)) <|r0' J J J J (st0 (Yl J J J ⟨by omega, by omega⟩)) <|Ya <|Xy (n := 3) 2 6 (by kernel_rfl) ?_ ?_
    ·exact Yo J J (Zh (n := 81) (nat_shl _ _ _ (by omega) (by omega)) J J J K2 cF159 (Zg 2 J J J Zf) J hw) fun v_3 _ => Zs (n := 0) [(7, 0), (6, 1), (8, 3)] (by kernel_rfl) <|r0' J J J J (st0 (Qb J J)) <|r1' J J (Qt (i := 82) (n := (dg U x).length + 1) (by_ := 8) (enc := encU) 0 J J J J J (by omega) uT127 Tryz.ti137 J pU.cells pU.pos J J (by omega) (by decide) J hw) fun v_4 _ => r3' J J (Xw (Qb J J) J J) fun _ _ => Ya <|Yh (by kernel_rfl) <|Yx (_, _) trivial K4 ⟨by rw [hDe]; rfl, rfl, rfl, rfl, rfl, trivial⟩
    ·exact Yo J J (Qt (i := 82) (n := (dg U x).length + 1) (by_ := 8) (enc := encU) 0 J J J J J (by omega) uT127 Tryz.ti137 J pU.cells pU.pos J J (by omega) (by decide) J hw) fun v_5 _ => Zs (n := 0) [(2, 1), (7, 0), (8, 3)] (by kernel_rfl) <|r1' J J (Zh (n := 81) (nat_shl _ _ _ (by omega) (by omega)) J J J K2 cF159 (Zg 2 J J J Zf) J hw) fun v_6 _ => r0' J J J J (st0 (Qb J J)) <|r3' J J (Xw (Qb J J) J J) fun _ _ => Ya <|Yh (by kernel_rfl) <|Yx (_, _) trivial K4 ⟨by rw [hDe]; rfl, rfl, rfl, rfl, rfl, trivial⟩
   ·rintro ⟨vd, vr⟩ -
    simp only [List.cons_append, List.nil_append]
    refine Zb ?_
    have hnl : (dg U (x * 2 ^ b)).length ≤ (dg U x).length + 1 := (dg_length_le two_U _ _).2 (by rw [Nat.pow_succ]; exact Nat.mul_lt_mul_of_lt_of_le ((dg_length_le two_U _ x).1 (Nat.le_refl _)) (by rw [U_eq]; exact Nat.pow_le_pow_right (by omega) (by omega)) U_pos)
    refine Ze <|mv J J <|mv J J <|mv J J <|tt (Zh (n := 5) (nat_shl _ _ _ (by omega) (by omega)) J J J K2 cF159 (Zg 1 J J J Zf) J hw) J fun v_7 _ => tt (t_cpy (i := 82) (j := 5) 0 J J J J J J (by decide) J Zi (dst_self _ _ _) (by rw [List.length_replicate]; exact hnl) (by rw [List.length_replicate]; omega) (by rw [List.length_replicate]; omega) uT127 pU J hw) J fun _ _ => Zd <|Za <|Zb ?_
    have hR0l : (spl (List.replicate ((dg U x).length + 1) 0) 0 (dg U (x * 2 ^ b))).length = (dg U x).length + 1 := by rw [length_spl _ _ _ (by rw [List.length_replicate]; omega), List.length_replicate]
    refine Ze <|mv J J <|dt (Zy J J (i := 81) J Zi uT127) J <|Zm J J <|Zd <|Za <|Zb ?_
    have hql0 : (List.replicate ((dg U x).length + 1 - k) (0 : Nat)).length = (dg U x).length + 1 - k := List.length_replicate
    refine Yk (Qi 11 (v' := .int .i64 (k : Int)) J (by rw [hkD])) <|Ze <|mv J J <|dt (Zy J J (i := 82) J (Yi pU) uT127) J <|mv J J <|dt (Yz J J J ⟨by omega, by omega⟩) J <|tt (Qt (i := 6) (n := (dg U x).length + 1 - k) (by_ := 8) (enc := encU) 0 J J J J J (by omega) uT127 Tryz.ti137 J pU.cells pU.pos J J (by omega) (by decide) J hw) J fun v_8 _ => Zm J J <|Zd <|Za <|Zb <|Zb <|Ze <|mv J J <|dt (Zy J J (i := 6) J (Yi pU) uT127) J <|dt (Yz J J J ⟨by omega, by omega⟩) J <|Zm J J <|Zd <|Za <|Zv ?_
    refine Qc [(8, _), (9, _), (10, _), (11, _), (12, _)] [(0, _), (81, _), (1, _), (2, _), (5, _)] (fun (q : Nat × List Nat × List Nat) => [(13, .int .i64 ((q.1 : Int) - 1))]) (fun (q : Nat × List Nat × List Nat) => [(82, osl 1 137 encU vr q.2.1), (6, osl 1 137 encU v_8 q.2.2)]) (fun (q : Nat × List Nat × List Nat) => (q.1 ≤ (dg U x).length + 1 - k) ∧ (q.2.1.length = (dg U x).length + 1) ∧ (∀ d ∈ q.2.1, d < U) ∧ (q.2.2.length = (dg U x).length + 1 - k) ∧ (∀ d ∈ q.2.2, d < U) ∧ (val U q.2.1 < D * U ^ q.1) ∧ (val U (q.2.2.drop q.1) * U ^ q.1 * D + val U q.2.1 = x * 2 ^ b)) (fun (q : Nat × List Nat × List Nat) => q.1) ((dg U x).length + 1 - k, spl (List.replicate ((dg U x).length + 1) 0) 0 (dg U (x * 2 ^ b)), List.replicate ((dg U x).length + 1 - k) 0) ⟨Nat.le_refl _, hR0l, all_spl (all_replicate _ U_pos) (dg_lt two_U _) 0, by simp, all_replicate _ U_pos, by rw [val_spl0, val_dg two_U]; exact div_init ((dg_length_le two_U _ x).1 (Nat.le_refl _)) hb63 hk1 (by omega) hD63, by rw [val_spl0, val_dg two_U]; simp [val]⟩ ⟨by rw [List.length_replicate]; rfl, rfl, rfl, rfl, rfl, rfl, trivial⟩ K7 ?_
    rintro ⟨jj, R, q⟩ ⟨hj, hRl, hRa, hql, hqa, hV, hN⟩
    dsimp only at hj hRl hRa hql hqa hV hN
    simp only [List.cons_append, List.nil_append]
    refine Zb <|Zb <|Ze <|mv J J <|dt (Qd J J J) J <|Zd <|Za <|Zn J (fun h179 => ?_) (fun h179 => ?_)
    ·refine Zk <|Za <|Zb <|Zv <|Zb ?_
     have hW1 : val U R < U ^ (jj - 1 + k + 1) := by
      refine Nat.lt_of_lt_of_le hV ?_
      rw [show jj - 1 + k + 1 = k + jj by omega, Nat.pow_add]
      exact Nat.mul_le_mul_right _ (Nat.le_of_lt hDk)
     have hWz : tz ((R.drop (jj - 1)).take (jj - 1 + k + 1 - (jj - 1))) = dg U (val U R / U ^ (jj - 1)) := win_val hRa (by omega) (by rw [show jj - 1 + (jj - 1 + k + 1 - (jj - 1)) = jj - 1 + k + 1 by omega]; exact hW1)
     have hWD : val U R / U ^ (jj - 1) < D * U := by
      rw [Nat.div_lt_iff_lt_mul (Nat.pow_pos U_pos), Nat.mul_assoc, ← Nat.pow_succ', show (jj - 1).succ = jj by omega]; exact hV
     have hWb : bl (val U R / U ^ (jj - 1)) ≤ 4294967296 := by
      have h1 := bl_mono (Nat.le_of_lt hWD)
      have h2 := bl_mul D U
      have h3 : bl U ≤ 65 := (bl_le 65 U).2 (by simp [U])
      omega
     have htop := top_two hRa (j := jj - 1) hk1 hW1 (by omega)
     have hDt : (dg U D).getD (k - 1) 0 * U ^ (k - 1) ≤ D := by
      rw [dg_getD two_U]; exact Nat.le_trans (Nat.mul_le_mul_right _ (Nat.mod_le _ _)) (Nat.div_mul_le_self _ _)
     have hQU : val U R / U ^ (jj - 1) / D ≤ 18446744073709551615 := by
      have := (Nat.div_lt_iff_lt_mul hD0).2 (show _ < U * D by rw [Nat.mul_comm]; exact hWD)
      simp only [U] at this ⊢; omega
     refine Ze <|Zm J J <|Zd <|Za <|Qm [(8, _), (9, _), (10, _), (11, _), (12, _), (13, _)] [(0, _), (82, _), (6, _), (81, _), (1, _), (2, _), (5, _)] (fun (g : Nat) => [(14, .int .u64 (g : Int))]) (fun (g : Nat) => []) (fun (g : Nat) => (val U R / U ^ (jj - 1) / D ≤ g) ∧ (g < U)) K6 K7 ?_ ?_
     ·refine Zb <|Xd (fun _ => False) [(0, 0), (1, 0), (2, 0), (3, 0), (4, 0), (5, 0), (6, 0), (7, 0), (8, 0), (9, 0), (10, 0), (11, 0)] (by kernel_rfl) ?_ ?_
      ·kernel_rfl
      refine r0' J J J J (st0 (Zw J J)) <|r0' J J J J (st0 (Zw J J)) <|r0' J J J J (st0 (Zw J J)) <|r0' J J J J (st0 (Yl J J J ⟨by omega, by omega⟩)) <|r0' J J J J (st0 (Yn (ii := 82) (i := jj - 1 + k) J J J J (Yi pU) uT127 zT137 (by omega) (by omega))) <|r0' J J J J (st0 (Ys (ii := 82) 0 J J J (Yi pU) pU (by first | omega | (simp only [List.length_set]; omega)))) <|r0' J J J J (st0 (Zw J J)) <|r0' J J J J (st0 (Zw J J)) <|r0' J J J J (st0 (Yz J J J ⟨by omega, by omega⟩)) <|r0' J J J J (st0 (Yn (ii := 81) (i := k - 1) J J J J Zi uT127 zT137 (by omega) (by omega))) <|r0' J J J J (st0 (Ys (ii := 81) 0 J J J Zi pU (by first | omega | (simp only [List.length_set]; omega)))) <|r0' J J J J (st0 (Xj J J J)) <|Xo <|Za <|Zn J (fun h182 => ?_) (fun h182 => ?_)
      ·refine Xd (fun _ => False) [(0, 0), (1, 0), (2, 0), (3, 0), (4, 0), (5, 0), (6, 0), (7, 0), (8, 0), (9, 0), (10, 0), (11, 0), (12, 0), (13, 0), (14, 0), (15, 0), (16, 0), (17, 0), (18, 1), (19, 0), (20, 0), (21, 0), (22, 0)] (by kernel_rfl) ?_ ?_
       ·kernel_rfl
       refine r0' J J J J (st0 (Zw J J)) <|r0' J J J J (st0 (Zw J J)) <|r0' J J J J (st0 (Zw J J)) <|r0' J J J J (st0 (Yl J J J ⟨by omega, by omega⟩)) <|r0' J J J J (st0 (Yn (ii := 82) (i := jj - 1 + k) J J J J (Yi pU) uT127 zT137 (by omega) (by omega))) <|r0' J J J J (st0 (Ys (ii := 82) 0 J J J (Yi pU) pU (by first | omega | (simp only [List.length_set]; omega)))) <|r0' J J J J (st0 (Zw J J)) <|r0' J J J J (st0 (Zw J J)) <|r0' J J J J (st0 (Zw J J)) <|r0' J J J J (st0 (Yl J J J ⟨by omega, by omega⟩)) <|r0' J J J J (st0 (Yz J J J ⟨by omega, by omega⟩)) <|r0' J J J J (st0 (Yn (ii := 82) (i := jj - 1 + k - 1) J J J J (Yi pU) uT127 zT137 (by omega) (by omega))) <|r0' J J J J (st0 (Ys (ii := 82) 0 J J J (Yi pU) pU (by first | omega | (simp only [List.length_set]; omega)))) <|r0' J J J J (st0 (Zw J J)) <|r0' J J J J (st0 (Zw J J)) <|r0' J J J J (st0 (Yz J J J ⟨by omega, by omega⟩)) <|r0' J J J J (st0 (Yn (ii := 81) (i := k - 1) J J J J Zi uT127 zT137 (by omega) (by omega))) <|r0' J J J J (st0 (Ys (ii := 81) 0 J J J Zi pU (by first | omega | (simp only [List.length_set]; omega)))) <|r1' J J (Zh (n := 6) (bits_div _ _ _ (getD_lt U_pos hRa _) (getD_lt U_pos (dg_lt two_U _) _) (by omega)) J J J K3 cF160 Zf J hw) fun _ _ => r0' J J J J (st0 (Zw J J)) <|r0' J J J J (st0 (Zt J J J)) ?_
       exact r0' J J J J (st0 (Zt J J J)) <|r0' J J J J (st0 (Qb J J)) <|Xo <|Yx _ ⟨guess_ge hDt (by omega) htop, dv_digit (getD_lt U_pos hRa _) (by omega)⟩ K7 K7
      ·exact Zk <|Yx 18446744073709551615 ⟨hQU, by decide⟩ K7 K7
     ·rintro g ⟨hg, hgU⟩
      simp only [List.cons_append, List.nil_append]
      refine Zb <|Ze <|mv J J <|mv J J <|mv J J <|mv J J <|dt (Yl J J J ⟨by omega, by omega⟩) J <|dt (Yl J J J ⟨by omega, by omega⟩) J <|dt (d_mid (ii := 82) (i := jj - 1) (j := jj - 1 + k + 1) J J J J J (Yi pU) uT127 zT137 (by omega) (by omega) (by omega) (by omega)) J <|Zm J J <|Zd <|Za <|Zb <|Ze <|mv J J <|mv J J <|tt (Xf (i := 7) (ivs := [(0, _)]) (enc := encU) [g] J J J K2 uT127 Tryz.ti137 J J J J J J pU.cells J J hw) J fun v_9 _ => tt (Zh (n := 7) (nat_trim_own _ _) J J J K1 cF108 (Xl 7 J J pU Zf) J hw) J fun _ _ => Xi (s_tz 7 J J pU) <|Xi (s_oeq 7 (tz_single hgU) J J) <|tt (Zh (n := 83) (nat_mul _ _ _ _ (by omega) (Nat.le_trans ((bl_le 64 g).2 hgU) (by omega))) J J J K2 cF161 (Zg 81 J J J (Xl 7 J J pU Zf)) J hw) J fun v_10 _ => Zm J J <|Zd <|Za <|Zb <|Zv ?_
      refine Qc [(8, _), (9, _), (10, _), (11, _), (12, _), (13, _), (15, _)] [(0, _), (82, _), (6, _), (81, _), (1, _), (2, _), (5, _), (7, _)] (fun (q : Nat × Value) => [(14, .int .u64 (q.1 : Int)), (16, q.2)]) (fun (q : Nat × Value) => [(83, dgp q.2 (D * q.1))]) (fun (q : Nat × Value) => (val U R / U ^ (jj - 1) / D ≤ q.1) ∧ (q.1 < U)) (fun (q : Nat × Value) => q.1) (g, _) ⟨by first | omega | (dsimp only <;> omega), by first | omega | (dsimp only <;> omega)⟩ K9 K9 ?_
      rintro ⟨g, vp⟩ ⟨hg, hgU⟩
      dsimp only at hg hgU
      simp only [List.cons_append, List.nil_append]
      have hPb : bl (D * g) ≤ 4294967296 := by have h1 := bl_mul D g; have h2 := (bl_le 64 g).2 hgU; omega
      refine Zb <|Zb <|Ze <|mv J J <|tt (Zh (n := 7) (nat_trim_own _ _) J J J K1 cF108 (pre_lendw 82 J J pU (row_mid (jj - 1) (jj - 1 + k + 1) (by omega) (by omega)) (blk_mid _ _ _ _) Zf) J hw) J fun _ _ => mv J J <|tt (Zh (n := 7) (nat_compare _ _ _ _ hWb hPb) J J J K2 cF140 (pre_lendw 82 J J pU (row_tz hWz (by rw [hWz]) (row_mid (jj - 1) (jj - 1 + k + 1) (by omega) (by omega))) (by rw [ownBlock_preV]; exact (blk_mid _ _ _ _)) (Zg 83 J J J Zf)) J hw) J fun r_2 hr_2 => dt (Xj J J J) J <|Zd <|Za <|Zn J (fun h187 => ?_) (fun h187 => ?_)
      ·have hlt : val U R / U ^ (jj - 1) < D * g := hr_2.1.1 (by omega)
       have hg1 : 1 ≤ g := by rcases Nat.eq_zero_or_pos g with h | h; (rw [h, Nat.mul_zero] at hlt; exact absurd hlt (Nat.not_lt_zero _)); exact h
       have hDg : D ≤ D * g := Nat.le_mul_of_pos_right _ hg1
       have hQg : val U R / U ^ (jj - 1) / D ≤ g - 1 := by have := (Nat.div_lt_iff_lt_mul hD0).2 (show _ < g * D by rw [Nat.mul_comm]; exact hlt); omega
       exact Zk <|Za <|Zv <|Zb <|Ze <|mv J J <|dt (u_sub (n := 1) J J J (by decide)) J <|Zm J J <|Zd <|Za <|Yk (Qi 14 (v' := .int .u64 ((g - 1 : Nat) : Int)) J (u64_eq (dec_u hg1 hgU))) <|Ze <|mv J J <|mv J J <|tt (Zh (n := 8) (nat_sub _ _ _ _ hPb hDg) J J J K2 cF141 (Zg 83 J J J (Zg 81 J J J Zf)) J hw) J fun v_11 _ => Zm J J <|Zd <|Xq <|Qe (s_dup 8 83 J J J) <|Xe (g - 1, _) ⟨hQg, by dsimp only; omega⟩ (by first | omega | (dsimp only <;> omega)) K9 ⟨by rw [Nat.mul_sub_one]; rfl, rfl, rfl, rfl, rfl, rfl, rfl, rfl, rfl, trivial⟩
      ·refine Yv <|Zz <|Zz <|Xz <|Za <|Zb ?_
       have hQ : g = val U R / U ^ (jj - 1) / D := by
        have h1 := hr_2.1
        have h2 : D * g ≤ val U R / U ^ (jj - 1) := by omega
        exact Nat.le_antisymm ((Nat.le_div_iff_mul_le hD0).2 (by rw [Nat.mul_comm]; exact h2)) hg
       refine Ze <|mv J J <|tt (Zh (n := 8) (nat_trim_own _ _) J J J K1 cF108 (pre_lendw 82 J J pU (row_mid (jj - 1) (jj - 1 + k + 1) (by omega) (by omega)) (blk_mid _ _ _ _) Zf) J hw) J fun _ _ => mv J J <|tt (Zh (n := 9) (nat_sub _ _ _ _ hWb (by omega)) J J J K2 cF141 (pre_lendw 82 J J pU (row_tz hWz (by rw [hWz]) (row_mid (jj - 1) (jj - 1 + k + 1) (by omega) (by omega))) (by rw [ownBlock_preV]; exact (blk_mid _ _ _ _)) (Zg 83 J J J Zf)) J hw) J fun v_12 _ => Zm J J <|Zd <|Za <|Zb ?_
       have hll : (dg U (val U R / U ^ (jj - 1) - D * g)).length ≤ jj - 1 + k + 1 - (jj - 1) := by
        have : val U R / U ^ (jj - 1) - D * g < D := by rw [hQ]; have h3 := Nat.div_add_mod (val U R / U ^ (jj - 1)) D; have h4 := Nat.mod_lt (val U R / U ^ (jj - 1)) hD0; omega
        have := (dg_length_le two_U k _).2 (Nat.lt_trans this hDk)
        omega
       refine Ze <|mv J J <|tt (t_clr (zv := .bool false) (i := 82) (z := 0) (jj - 1) J J J J (by decide) (dst_mid _ _ _ (by omega)) (by omega) (by omega) uT127 pU (fun w => Tryz.zeroValue137 w) J J hw) J fun _ _ => Zd <|Za <|Zb <|Ze <|mv J J <|mv J J <|tt (t_cpy (i := 82) (j := 9) (jj - 1) J J J J J J (by decide) J Zi (dst_mid _ _ _ (by rw [length_spl _ _ _ (by rw [List.length_replicate]; omega)]; omega)) hll (by rw [length_spl _ _ _ (by rw [List.length_replicate]; omega)]; omega) (by rw [length_spl _ _ _ (by rw [List.length_replicate]; omega)]; omega) uT127 pU J hw) J fun _ _ => Zd <|Za ?_
       have hL1 : jj - 1 + (List.replicate (jj - 1 + k + 1 - (jj - 1)) 0).length ≤ R.length := by rw [List.length_replicate]; omega
       have hl1 := length_spl R (jj - 1) _ hL1
       have hL2 : jj - 1 + (dg U (val U R / U ^ (jj - 1) - D * g)).length ≤ (spl R (jj - 1) (List.replicate (jj - 1 + k + 1 - (jj - 1)) 0)).length := by omega
       have hval := val_win hRa (j := jj - 1) (n := jj - 1 + k + 1 - (jj - 1)) (by omega) (by rw [show jj - 1 + (jj - 1 + k + 1 - (jj - 1)) = jj - 1 + k + 1 by omega]; exact hW1) hll
       rw [val_dg two_U] at hval
       have hst := div_step (j := jj - 1) (N := x * 2 ^ b) (Vq := val U (q.drop jj)) hD0 hQ (by rw [show jj - 1 + 1 = jj by omega]; exact hN)
       have hV2 := hst.1
       have hN2 := hst.2
       rw [← hval] at hV2 hN2
       have hdq : val U ((q.set (jj - 1) g).drop (jj - 1)) = g + U * val U (q.drop jj) := by rw [drop_set _ _ _ (by omega), show jj - 1 + 1 = jj by omega]; rfl
       rw [← hdq] at hN2
       exact Ze <|mv J J <|mv J J <|mv J J <|dt (Yn (ii := 6) (i := jj - 1) J J J J (Yi pU) uT127 zT137 (by omega) (by omega)) J <|tt (Qj (i := 6) (enc := encU) _ J J J J J J (by decide) pU (by first | omega | (simp only [List.length_set]; omega)) J hw) J fun _ _ => Zd <|Xq <|Za <|Ze <|mv J J <|dt (Yz J J J ⟨by omega, by omega⟩) J <|Zm J J <|Zd <|Xe (jj - 1, _, _) ⟨by first | omega | (dsimp only <;> omega), (length_spl _ _ _ hL2).trans (hl1.trans hRl), all_spl (all_spl hRa (all_replicate _ U_pos) _) (dg_lt two_U _) _, by simp; omega, all_set hqa _ _ hgU, hV2, hN2⟩ (by first | omega | (dsimp only <;> omega)) ⟨by rw [show (((jj - 1 : Nat) : Int) - 1) = (jj : Int) - 1 - 1 by omega]; rfl, rfl, rfl, rfl, rfl, rfl, trivial⟩ K7
    ·refine Yv <|Zz <|Zz <|Xz <|Za <|Zb ?_
     obtain rfl : jj = 0 := by omega
     rw [Nat.pow_zero, Nat.mul_one] at hV
     have hVb : bl (val U R) ≤ 8589934592 := by have := bl_mono (Nat.le_of_lt hV); omega
     refine Ze <|mv J J <|tt (Zh (n := 9) (nat_trim_own _ _) J J J K1 cF108 (Xl 6 J J pU Zf) J hw) J fun _ _ => Xi (s_tz 6 J J pU) <|mv J J <|tt (Zh (n := 9) (nat_trim_own _ _) J J J K1 cF108 (Xl 82 J J pU Zf) J hw) J fun _ _ => Xi (s_tz 82 J J pU) <|Xi (s_oeq 82 (dg_val two_U R hRa).symm J J) <|mv J J <|tt (Zh (n := 10) (nat_shr _ _ _ hVb (by omega)) J J J K2 cF162 (Xl 82 J J pU Zf) J hw) J fun v_13 _ => Zm J J <|Zm J J <|Zd <|Za <|Zr ?_
     rw [List.drop_zero, Nat.pow_zero, Nat.mul_one] at hN
     have hqq : tz q = dg U (x / y) := by
      rw [← dg_val two_U _ hqa, ← shift_div x y b, ← hDe, ← hN, Nat.mul_comm, Nat.mul_add_div hD0, Nat.div_eq_of_lt hV, Nat.add_zero]
     have hrr : val U R / 2 ^ b = x % y := by
      rw [← shift_mod x y b, ← hDe, ← hN, Nat.mul_comm, Nat.mul_add_mod, Nat.mod_eq_of_lt hV]
     exact Zx (.inl J) hsc (_, _) _ (fun a w hs => Xn hs Tryz.results142 J J) J trivial J (Xs 6 J J pU hqq (Yj 10 J J J (by rw [hrr]) Zj))
theorem nat_gcd (v w : Value) (x y : Nat) (hx : bl x ≤ 4000000000) (hy : bl y ≤ 4000000000) : Cal Tryz.prog 152 #[v, w] [dgp v x, dgp w y] true (G := Value) (fun r => True) (fun r => r) (fun r => [dgp r (Nat.gcd x y)]) := by
 refine Ye Tryz.func152 J Tryz.ntmps152 J K2 ?_
 intro w0 sc hw hsc
 simp only [Zq, Zo]
 have hX := lenU_bl x
 have hY := lenU_bl y
 refine Zb <|Ze <|Zm J J <|Zd <|Za <|Zb <|Zv <|Yk (s_dup 1 91 J J J) <|Yk (s_dup 2 92 J J J) <|Qc [] [(0, _), (1, _), (2, _)] (fun (q : Value × Value × Nat × Nat) => [(0, q.1), (1, q.2.1)]) (fun (q : Value × Value × Nat × Nat) => [(91, dgp q.1 q.2.2.1), (92, dgp q.2.1 q.2.2.2)]) (fun (q : Value × Value × Nat × Nat) => (Nat.gcd q.2.2.1 q.2.2.2 = Nat.gcd x y) ∧ (bl q.2.2.1 ≤ 4000000000) ∧ (bl q.2.2.2 ≤ 4000000000)) (fun (q : Value × Value × Nat × Nat) => q.2.2.2) (v, w, x, y) ⟨J, hx, hy⟩ K2 K5 ?_
 rintro ⟨va, vb, a, b⟩ ⟨hg, ha, hb⟩
 dsimp only at hg ha hb
 simp only [List.cons_append, List.nil_append]
 refine Zb <|Zb <|Ze <|mv J J <|dt (Zy J J (i := 92) J Zi uT127) J <|dt (Xv J J J) J <|Zd <|Za <|Zn J (fun h201 => ?_) (fun h201 => ?_)
 ·have hb0 : 0 < b := by rcases Nat.eq_zero_or_pos b with h | h; (subst h; simp [dg_zero] at h201); exact h
  refine Zk <|Za <|Zv <|Zb <|Ze <|mv J J <|mv J J <|tt (Zh (n := 3) (nat_div _ _ _ _ ha hb hb0) J J J K2 cF142 (Zg 91 J J J (Zg 92 J J J Zf)) J hw) J fun g _ => mv J J <|dt (Zt J J J) J <|dt (Zt J J J) J <|Zm J J <|Zm J J <|Zd <|Za <|Ze <|mv J J <|mv J J <|Zm J J <|Zm J J <|Zd <|Xq ?_
  have hlt : a % b < b := Nat.mod_lt _ hb0
  exact Qe (s_dup 92 91 J J J) <|Qe (s_dup 4 92 J J J) <|Xe (_, _, b, a % b) ⟨by dsimp only; rw [← hg, Nat.gcd_comm b, ← Nat.gcd_rec, Nat.gcd_comm], hb, Nat.le_trans (bl_mono (Nat.le_of_lt hlt)) hb⟩ hlt K2 K5
 ·have hb0 : b = 0 := (dg_nil_iff two_U b).1 (by omega)
  exact Yv <|Zz <|Zz <|Xz <|Za <|Zb <|Ze <|mv J J <|Zm J J <|Zd <|Za <|Zr <|Zx (.inl J) hsc _ _ (fun a w hs => Yt hs Tryz.results152 J) J trivial J (Yj 91 J J J (by rw [← hg, hb0, Nat.gcd_zero_right]) Zj)
end Go.Sky
namespace Go.Sky
open Go.Proofs
set_option maxRecDepth 20000
set_option maxHeartbeats 4000000
set_option linter.unusedVariables false
set_option linter.unusedSimpArgs false
theorem num_neg (s : Bool) (v : Value) (x : Int) (hs : sg s x) : Cal Tryz.prog 104 #[.agg #[.bool s, v]] [dgp v x.natAbs] true (G := Bool × Value) (fun r => sg r.1 (-x)) (fun r => .agg #[.bool r.1, r.2]) (fun r => [dgp r.2 (-x).natAbs]) := by
 refine Ye Tryz.func104 J Tryz.ntmps104 J K1 ?_
 intro w0 sc hw hsc
 simp only [Zq, Zo]
 exact Zb <|Ze <|tt (Yy (i := 2) J J J J J J hw) J fun b _ => tt (Zp (i := 3) J J J Tryz.zeroValue129 J J hw) J fun b_2 _ => Zd <|Za <|Zb <|Ze <|dt (Yu J J uT129 J zT4 J J) J <|dt (Xk (i := 2) J J J iA4 J) J <|dt (Xx J J) J <|dt (Yu J J uT129 J zT127 J J) J <|dt (Xk (i := 2) J J J iA127 J) J <|dt (Xg (ivs := [(0, _), (1, _)]) J K4 (fun a w hs => b129_01 ((Zc J) a w hs) ((Yf (i := 1) J Zi) a w hs))) J <|tt (Zl (i := 3) J J J J J (by decide) J zT129 J J ⟨(Zc J), (Yf (i := 1) J Zi), trivial⟩ J hw trivial) J fun _ _ => Zd <|Za <|Zr <|Zx (.inl J) hsc (!s, v) _ (fun a w hs => Yt hs Tryz.results104 (Yq (i := 3) J J iA129 zT129 J)) J (sg_neg hs) J (Yj 1 J J J (by rw [Int.natAbs_neg]) Zj)
theorem num_mul (s t : Bool) (v w : Value) (x y : Int) (hs : sg s x) (ht : sg t y) (hx : bl x.natAbs ≤ 4294967296) (hy : bl y.natAbs ≤ 4294967296) : Cal Tryz.prog 151 #[.agg #[.bool s, v], .agg #[.bool t, w]] [dgp v x.natAbs, dgp w y.natAbs] true (G := Bool × Value) (fun r => sg r.1 (x * y)) (fun r => .agg #[.bool r.1, r.2]) (fun r => [dgp r.2 (x * y).natAbs]) := by
 refine Ye Tryz.func151 J Tryz.ntmps151 J K2 ?_
 intro w0 sc hw hsc
 simp only [Zq, Zo]
 refine Zb <|Ze <|tt (Yy (i := 3) J J J J J J hw) J fun b _ => tt (Yy (i := 4) J J J J J J hw) J fun b_2 _ => tt (Zp (i := 5) J J J Tryz.zeroValue129 J J hw) J fun b_3 _ => Zd <|Za <|Zb <|Xd (fun _ => False) [(0, 0), (1, 0), (2, 0), (3, 0), (4, 0), (5, 0), (6, 0), (7, 0), (8, 0), (9, 1), (10, 0), (11, 3)] (by kernel_rfl) ?_ ?_
 ·kernel_rfl
 exact r0' J J J J (st0 (Yu J J uT129 J zT4 J J)) <|r0' J J J J (st0 (Xk (i := 3) J J J iA4 J)) <|r0' J J J J (st0 (Yu J J uT129 J zT4 J J)) <|r0' J J J J (st0 (Xk (i := 4) J J J iA4 J)) <|r0' J J J J (st0 (d_neb J J J uT4)) <|r0' J J J J (st0 (Yu J J uT129 J zT127 J J)) <|r0' J J J J (st0 (Xk (i := 3) J J J iA127 J)) <|r0' J J J J (st0 (Yu J J uT129 J zT127 J J)) <|r0' J J J J (st0 (Xk (i := 4) J J J iA127 J)) <|r1' J J (Zh (n := 6) (nat_mul _ _ _ _ hx hy) J J J K2 cF161 (Zg 1 J J J (Zg 2 J J J Zf)) J hw) fun v _ => r0' J J J J (st0 (Xg (ivs := [(0, _), (1, _)]) J K4 (fun a w hs => b129_01 ((Zc J) a w hs) ((Yf (i := 6) J Zi) a w hs)))) <|r3' J J (Zl (i := 5) J J J J J (by decide) J zT129 J J ⟨(Zc J), (Yf (i := 6) J Zi), trivial⟩ J hw trivial) fun _ _ => Xo <|Za <|Zr <|Zx (.inl J) hsc (_, _) _ (fun a w hs => Yt hs Tryz.results151 (Yq (i := 5) J J iA129 zT129 J)) J (sg_mul hs ht) J (Yj 6 J J J (by rw [Int.natAbs_mul]) Zj)
theorem num_sign (s : Bool) (v : Value) (x : Int) (hs : sg s x) (hx : bl x.natAbs ≤ 4294967296) : Cal Tryz.prog 105 #[.agg #[.bool s, v]] [dgp v x.natAbs] true (G := Unit) (fun _ => True) (fun _ => .int .i64 x.sign) (fun _ => []) := by
 refine Ye Tryz.func105 J Tryz.ntmps105 J K1 ?_
 intro w0 sc hw hsc
 simp only [Zq, Zo]
 have hX := lenU_bl x.natAbs
 refine Zb <|Ze <|tt (Yy (i := 2) J J J J J J hw) J fun b _ => Zm J J <|Zd <|Za <|Zb <|Zv <|Zb <|Ze <|dt (Yu J J uT129 J zT127 J J) J <|dt (Xk (i := 2) J J J iA127 J) J <|dt (Zy J J (i := 1) J Zi uT127) J <|dt (Xh J J J) J <|Zm J J <|Zd <|Za <|Zn J (fun h245 => ?_) (fun h245 => ?_)
 ·exact Zb <|Ze <|Zm J J <|Zd <|Za <|Zr <|x_br <|Yw <|Zx (.inl J) hsc () _ (fun a w hs => Yt hs Tryz.results105 J) (sign_zero h245) trivial J Zj
 ·refine Zb <|Ze <|dt (Yu J J uT129 J zT4 J J) J <|dt (Xk (i := 2) J J J iA4 J) J <|Zm J J <|Zd <|Za <|Qq J (fun h247 => ?_) (fun h247 => ?_)
  ·exact Zb <|Ze <|Zm J J <|Zd <|Za <|Zr <|x_br <|Yw <|Zx (.inl J) hsc () _ (fun a w hs => Yt hs Tryz.results105 J) (sign_neg hs h247 h245) trivial J Zj
  ·exact Zk <|Xq <|Za <|Zb <|Ze <|Zm J J <|Zd <|Za <|Zr <|Zx (.inl J) hsc () _ (fun a w hs => Yt hs Tryz.results105 J) (sign_pos hs h247 h245) trivial J Zj
theorem num_add (s t : Bool) (v w : Value) (x y : Int) (hs : sg s x) (ht : sg t y) (hx : bl x.natAbs ≤ 4294967296) (hy : bl y.natAbs ≤ 4294967296) : Cal Tryz.prog 103 #[.agg #[.bool s, v], .agg #[.bool t, w]] [dgp v x.natAbs, dgp w y.natAbs] true (G := Bool × Value) (fun r => sg r.1 (x + y)) (fun r => .agg #[.bool r.1, r.2]) (fun r => [dgp r.2 (x + y).natAbs]) := by
 refine Ye Tryz.func103 J Tryz.ntmps103 J K2 ?_
 intro w0 sc hw hsc
 simp only [Zq, Zo]
 refine Zb <|Ze <|tt (Yy (i := 3) J J J J J J hw) J fun b _ => tt (Yy (i := 4) J J J J J J hw) J fun b_2 _ => tt (Zp (i := 5) J J J Tryz.zeroValue129 J J hw) J fun b_3 _ => Zd <|Za <|Zb <|Zv <|Zb <|Ze <|dt (Yu J J uT129 J zT4 J J) J <|dt (Xk (i := 3) J J J iA4 J) J <|dt (Yu J J uT129 J zT4 J J) J <|dt (Xk (i := 4) J J J iA4 J) J <|dt (d_eqb J J J uT4) J <|Zm J J <|Zd <|Za <|Qq J (fun h231 => ?_) (fun h231 => ?_)
 ·have hst : s = t := by simpa using h231
  refine Zb <|Xd (fun _ => False) [(0, 0), (1, 0), (2, 0), (3, 0), (4, 0), (5, 0), (6, 1), (7, 0), (8, 3)] (by kernel_rfl) ?_ ?_
  ·kernel_rfl
  exact r0' J J J J (st0 (Yu J J uT129 J zT4 J J)) <|r0' J J J J (st0 (Xk (i := 3) J J J iA4 J)) <|r0' J J J J (st0 (Yu J J uT129 J zT127 J J)) <|r0' J J J J (st0 (Xk (i := 3) J J J iA127 J)) <|r0' J J J J (st0 (Yu J J uT129 J zT127 J J)) <|r0' J J J J (st0 (Xk (i := 4) J J J iA127 J)) <|r1' J J (Zh (n := 6) (nat_add _ _ _ _ hx hy) J J J K2 cF139 (Zg 1 J J J (Zg 2 J J J Zf)) J hw) fun v _ => r0' J J J J (st0 (Xg (ivs := [(0, _), (1, _)]) J K4 (fun a w hs => b129_01 ((Zc J) a w hs) ((Yf (i := 6) J Zi) a w hs)))) <|r3' J J (Zl (i := 5) J J J J J (by decide) J zT129 J J ⟨(Zc J), (Yf (i := 6) J Zi), trivial⟩ J hw trivial) fun _ _ => Xo <|Za <|Zr <|x_br <|Yw <|Zx (.inl J) hsc (_, _) _ (fun a w hs => Yt hs Tryz.results103 (Yq (i := 5) J J iA129 zT129 J)) J (sg_add1 hs (hst ▸ ht)) J (Yj 6 J J J (by rw [abs_add1 hs (hst ▸ ht)]) Zj)
 ·have hst : s ≠ t := by simpa using h231
  refine Zb <|Ze <|dt (Yu J J uT129 J zT127 J J) J <|dt (Xk (i := 3) J J J iA127 J) J <|dt (Yu J J uT129 J zT127 J J) J <|dt (Xk (i := 4) J J J iA127 J) J <|tt (Zh (n := 6) (nat_compare _ _ _ _ hx hy) J J J K2 cF140 (Zg 1 J J J (Zg 2 J J J Zf)) J hw) J fun r hr => dt (Qd J J J) J <|Zm J J <|Zd <|Za <|Zn J (fun h233 => ?_) (fun h233 => ?_)
  ·have hge : y.natAbs ≤ x.natAbs := by have := hr.1; omega
   refine Zb <|Xd (fun _ => False) [(0, 0), (1, 0), (2, 0), (3, 0), (4, 0), (5, 0), (6, 1), (7, 0), (8, 3)] (by kernel_rfl) ?_ ?_
   ·kernel_rfl
   exact r0' J J J J (st0 (Yu J J uT129 J zT4 J J)) <|r0' J J J J (st0 (Xk (i := 3) J J J iA4 J)) <|r0' J J J J (st0 (Yu J J uT129 J zT127 J J)) <|r0' J J J J (st0 (Xk (i := 3) J J J iA127 J)) <|r0' J J J J (st0 (Yu J J uT129 J zT127 J J)) <|r0' J J J J (st0 (Xk (i := 4) J J J iA127 J)) <|r1' J J (Zh (n := 7) (nat_sub _ _ _ _ hx (by omega)) J J J K2 cF141 (Zg 1 J J J (Zg 2 J J J Zf)) J hw) fun v_2 _ => r0' J J J J (st0 (Xg (ivs := [(0, _), (1, _)]) J K4 (fun a w hs => b129_01 ((Zc J) a w hs) ((Yf (i := 7) J Zi) a w hs)))) <|r3' J J (Zl (i := 5) J J J J J (by decide) J zT129 J J ⟨(Zc J), (Yf (i := 7) J Zi), trivial⟩ J hw trivial) fun _ _ => Xo <|Za <|Zr <|x_br <|Yw <|Zx (.inl J) hsc (_, _) _ (fun a w hs => Yt hs Tryz.results103 (Yq (i := 5) J J iA129 zT129 J)) J (sg_add2 hs ht hst hge) J (Yj 7 J J J (by rw [abs_add2 hs ht hst hge]) Zj)
  ·have hge : x.natAbs ≤ y.natAbs := by have := hr.1; omega
   refine Zk <|Xq <|Za <|Zb <|Xd (fun _ => False) [(0, 0), (1, 0), (2, 0), (3, 0), (4, 0), (5, 0), (6, 1), (7, 0), (8, 3)] (by kernel_rfl) ?_ ?_
   ·kernel_rfl
   exact r0' J J J J (st0 (Yu J J uT129 J zT4 J J)) <|r0' J J J J (st0 (Xk (i := 4) J J J iA4 J)) <|r0' J J J J (st0 (Yu J J uT129 J zT127 J J)) <|r0' J J J J (st0 (Xk (i := 4) J J J iA127 J)) <|r0' J J J J (st0 (Yu J J uT129 J zT127 J J)) <|r0' J J J J (st0 (Xk (i := 3) J J J iA127 J)) <|r1' J J (Zh (n := 8) (nat_sub _ _ _ _ hy (by omega)) J J J K2 cF141 (Zg 2 J J J (Zg 1 J J J Zf)) J hw) fun v_3 _ => r0' J J J J (st0 (Xg (ivs := [(0, _), (1, _)]) J K4 (fun a w hs => b129_01 ((Zc J) a w hs) ((Yf (i := 8) J Zi) a w hs)))) <|r3' J J (Zl (i := 5) J J J J J (by decide) J zT129 J J ⟨(Zc J), (Yf (i := 8) J Zi), trivial⟩ J hw trivial) fun _ _ => Xo <|Za <|Zr <|Zx (.inl J) hsc (_, _) _ (fun a w hs => Yt hs Tryz.results103 (Yq (i := 5) J J iA129 zT129 J)) J (by rw [Int.add_comm]; exact sg_add2 ht hs (Ne.symm hst) hge) J (Yj 8 J J J (by rw [Int.add_comm, abs_add2 ht hs (Ne.symm hst) hge]) Zj)
theorem wide_of (s : Bool) (x : Int) (hs : sg s x) (hx : bl x.natAbs ≤ 4294967296) : Cal Tryz.prog 102 #[.agg #[.bool s, .string (bstr x.natAbs)]] [] true (G := Bool × Value) (fun r => sg r.1 x) (fun r => .agg #[.bool r.1, r.2]) (fun r => [dgp r.2 x.natAbs]) := by
 refine Ye Tryz.func102 J Tryz.ntmps102 J trivial ?_
 intro w0 sc hw hsc
 simp only [Zq, Zo]
 refine Zb <|Ze <|tt (Yy (i := 1) J J J J J J hw) J fun b _ => tt (Zp (i := 2) J J J Tryz.zeroValue129 J J hw) J fun b_2 _ => Zd <|Za <|Zb <|Xd (fun _ => False) [(0, 0), (1, 0), (2, 0), (3, 0), (4, 1), (5, 0), (6, 3)] (by kernel_rfl) ?_ ?_
 ·kernel_rfl
 exact r0' J J J J (st0 (Yu J J uT28 J zT4 J J)) <|r0' J J J J (st0 (Xk (i := 1) J J J iA4 J)) <|r0' J J J J (st0 (Yu J J uT28 J zT9 J J)) <|r0' J J J J (st0 (Xk (i := 1) J J J iA9 J)) <|r1' J J (Zh (n := 3) (wide_load _ hx) J J J K1 cF135 Zf J hw) fun v _ => r0' J J J J (st0 (Xg (ivs := [(0, _), (1, _)]) J K4 (fun a w hs => b129_01 ((Zc J) a w hs) ((Yf (i := 3) J Zi) a w hs)))) <|r3' J J (Zl (i := 2) J J J J J (by decide) J zT129 J J ⟨(Zc J), (Yf (i := 3) J Zi), trivial⟩ J hw trivial) fun _ _ => Xo <|Za <|Zr <|Zx (.inl J) hsc (_, _) _ (fun a w hs => Yt hs Tryz.results102 (Yq (i := 2) J J iA129 zT129 J)) J hs J (Yj 3 J J J J Zj)
theorem num_wide (s : Bool) (v : Value) (x : Int) (hs : sg s x) (hx : bl x.natAbs ≤ 4294967296) : Cal Tryz.prog 107 #[.agg #[.bool s, v]] [dgp v x.natAbs] false (G := Unit) (fun _ => True) (fun _ => wideV x) (fun _ => []) := by
 refine Ye Tryz.func107 J Tryz.ntmps107 J K1 ?_
 intro w0 sc hw hsc
 simp only [Zq, Zo]
 refine Zb <|Ze <|tt (Yy (i := 2) J J J J J J hw) J fun b _ => tt (Zp (i := 3) J J J Tryz.zeroValue28 J J hw) J fun b_2 _ => Zm J J <|Zd <|Za <|Zb <|Zb <|Ze <|dt (Yu J J uT129 J zT127 J J) J <|dt (Xk (i := 2) J J J iA127 J) J <|tt (Zh (n := 3) (nat_size _ _ (by omega)) J J J K1 cF136 (Zg 1 J J J Zf) J hw) J fun _ _ => dt (Xv J J J) J <|Zd <|Za <|Zn J (fun h219 => ?_) (fun h219 => ?_)
 ·exact Zb <|Ze <|dt (Xg (ivs := []) J trivial (fun a w hs => b28_)) J <|tt (Zl (i := 3) J J J J J (by decide) J zT28 J J ⟨(Zc J), (Zc J), trivial⟩ J hw trivial) J fun _ _ => Zm J J <|Zd <|Za <|Zr <|Yw <|Zx (.inl J) hsc () _ (fun a w hs => Xn hs Tryz.results107 (Yq (i := 3) J J iA28 zT28 J) J) (wide_full h219) trivial J Zj
 ·refine Zk <|Za <|Zb ?_
  cases s
  ·refine Xd (fun _ => False) [(0, 0), (1, 0), (2, 0), (3, 2), (4, 2), (5, 2), (6, 2), (7, 0), (8, 0), (9, 0), (10, 1), (11, 0), (12, 3), (13, 3)] (by kernel_rfl) ?_ ?_
   ·kernel_rfl
   exact r0' J J J J (st0 (Yu J J uT129 J zT4 J J)) <|r0' J J J J (st0 (Xk (i := 2) J J J iA4 J)) <|r0' J J J J (st0 (Zw J J)) <|r2 J J J J J J J J <|r2 J J J J J J J J <|r2 J J J J J J J J <|r2 J J J J J J J J <|r0' J J J J (st0 (Yd J J J)) <|r0' J J J J (st0 (Yu J J uT129 J zT127 J J)) <|r0' J J J J (st0 (Xk (i := 2) J J J iA127 J)) <|r1' J J (Zh (n := 3) (nat_store _ _ (by omega)) J J J K1 cF143 (Zg 1 J J J Zf) J hw) fun _ _ => r0' J J J J (st0 (Xg (ivs := [(0, _), (1, _)]) J K4 (fun a w hs => b28_01 ((Zc J) a w hs) ((Zc J) a w hs)))) <|r3' J J (Zl (i := 3) J J J J J (by decide) J zT28 J J ⟨(Zc J), (Zc J), trivial⟩ J hw trivial) fun _ _ => r3' J J (Xw (Qb J J) J J) fun _ _ => Xo <|Za <|Zr <|Zx (.inl J) hsc () _ (fun a w hs => Xn hs Tryz.results107 (Yq (i := 3) J J iA28 zT28 J) J) (by first | exact wide_okf hs h219 | exact wide_okt hs h219) trivial J Zj
  ·refine Xd (fun _ => False) [(0, 0), (1, 0), (2, 0), (3, 0), (4, 0), (5, 0), (6, 0), (7, 0), (8, 0), (9, 0), (10, 1), (11, 0), (12, 3), (13, 3)] (by kernel_rfl) ?_ ?_
   ·kernel_rfl
   exact r0' J J J J (st0 (Yu J J uT129 J zT4 J J)) <|r0' J J J J (st0 (Xk (i := 2) J J J iA4 J)) <|r0' J J J J (st0 (Zw J J)) <|r0g (st0 (Yu J J uT129 J zT127 J J)) J J J J J J J <|r0g (st0 (Xk (i := 2) J J J iA127 J)) J J J J J J J <|r0g (st0 (Zy J J (i := 1) J Zi uT127)) J J J J J J J <|r0g (st0 (Xv J J J)) J J J J J J J <|r0' J J J J (st0 (Yp J J J)) <|r0' J J J J (st0 (Yu J J uT129 J zT127 J J)) <|r0' J J J J (st0 (Xk (i := 2) J J J iA127 J)) <|r1' J J (Zh (n := 3) (nat_store _ _ (by omega)) J J J K1 cF143 (Zg 1 J J J Zf) J hw) fun _ _ => r0' J J J J (st0 (Xg (ivs := [(0, _), (1, _)]) J K4 (fun a w hs => b28_01 ((Zc J) a w hs) ((Zc J) a w hs)))) <|r3' J J (Zl (i := 3) J J J J J (by decide) J zT28 J J ⟨(Zc J), (Zc J), trivial⟩ J hw trivial) fun _ _ => r3' J J (Xw (Qb J J) J J) fun _ _ => Xo <|Za <|Zr <|Zx (.inl J) hsc () _ (fun a w hs => Xn hs Tryz.results107 (Yq (i := 3) J J iA28 zT28 J) J) (by first | exact wide_okf hs h219 | exact wide_okt hs h219) trivial J Zj
theorem num_div (s t : Bool) (v w : Value) (x y : Int) (hs : sg s x) (ht : sg t y) (hx : bl x.natAbs ≤ 3000000000) (hy : bl y.natAbs ≤ 3000000000) (hy0 : y ≠ 0) : Cal Tryz.prog 106 #[.agg #[.bool s, v], .agg #[.bool t, w]] [dgp v x.natAbs, dgp w y.natAbs] true (G := Bool × Value × Value) (fun r => sg r.1 (x / y)) (fun r => .tuple #[.agg #[.bool r.1, r.2.1], .agg #[.bool false, r.2.2]]) (fun r => [dgp r.2.1 (x / y).natAbs, dgp r.2.2 (x % y).natAbs]) := by
 refine Ye Tryz.func106 J Tryz.ntmps106 J K2 ?_
 intro w0 sc hw hsc
 simp only [Zq, Zo]
 have hX := lenU_bl x.natAbs
 have hY := lenU_bl y.natAbs
 have hyp : 0 < y.natAbs := by omega
 have hrl : x.natAbs % y.natAbs < y.natAbs := Nat.mod_lt _ hyp
 have hrb := bl_mono (Nat.le_of_lt hrl)
 have hqb := bl_mono (Nat.div_le_self x.natAbs y.natAbs)
 refine Zb <|Ze <|tt (Yy (i := 3) J J J J J J hw) J fun b _ => tt (Yy (i := 4) J J J J J J hw) J fun b_2 _ => tt (Zp (i := 5) J J J Tryz.zeroValue129 J J hw) J fun b_3 _ => tt (Zp (i := 6) J J J Tryz.zeroValue129 J J hw) J fun b_4 _ => Zd <|Za <|Zb <|Ze <|dt (Yu J J uT129 J zT127 J J) J <|dt (Xk (i := 3) J J J iA127 J) J <|dt (Yu J J uT129 J zT127 J J) J <|dt (Xk (i := 4) J J J iA127 J) J <|tt (Zh (n := 7) (nat_div _ _ _ _ (by omega) (by omega) hyp) J J J K2 cF142 (Zg 1 J J J (Zg 2 J J J Zf)) J hw) J fun g _ => mv J J <|dt (Zt J J J) J <|dt (Zt J J J) J <|Zm J J <|Zm J J <|Zd <|Za <|Zb <|Zb <|Ze <|dt (Yu J J uT129 J zT4 J J) J <|dt (Xk (i := 3) J J J iA4 J) J <|mv J J <|l_splitb (d := 18) J (fun s256 => ?_) (fun s256 => ?_)
 ·refine Yr (Zw J J) J J J J <|Yr (Zy J J (i := 8) J Zi uT127) J J J J <|Yr (Xv J J J) J J J J <|dt (Yp J J J) J <|Zd <|Za <|Zn J (fun h256 => ?_) (fun h256 => ?_)
  ·subst s256
   have hR0 : 0 < x.natAbs % y.natAbs := by rcases Nat.eq_zero_or_pos (x.natAbs % y.natAbs) with h | h; (rw [h] at h256; simp [dg_zero] at h256); exact h
   have hD := divA hs ht hy0 hR0
   refine Xd (fun _ => False) [(0, 0), (3, 0), (4, 0), (5, 0), (1, 1), (2, 1), (6, 1), (7, 0), (8, 3)] (by kernel_rfl) ?_ ?_
   ·kernel_rfl
   refine r0' J J J J (st0 (Zw J J)) <|r0' J J J J (st0 (Yu J J uT129 J zT127 J J)) <|r0' J J J J (st0 (Xk (i := 4) J J J iA127 J)) <|r0' J J J J (st0 (Zw J J)) <|r1' J J (Xf (i := 9) (ivs := [(0, _)]) (enc := encU) (dg U 1) J J J K2 uT127 Tryz.ti137 J J J J J J pU.cells J J hw) fun v _ => r1' J J (Zh (n := 10) (nat_add _ _ _ _ (by omega) (show bl 1 ≤ 4294967296 by decide)) J J J K2 cF139 (Zg 7 J J J (Xl 9 J J pU Zf)) J hw) fun v_2 _ => r1' J J (Zh (n := 11) (nat_sub _ _ _ _ (by omega) (by omega)) J J J K2 cF141 (Zg 2 J J J (Zg 8 J J J Zf)) J hw) fun v_3 _ => r0' J J J J (st0 (Qb J J)) <|r3' J J (Xw (Qb J J) J J) fun _ _ => Xo <|Za <|Zb <|Ze <|dt (Yu J J uT129 J zT4 J J) J <|dt (Xk (i := 3) J J J iA4 J) J <|dt (Yu J J uT129 J zT4 J J) J <|dt (Xk (i := 4) J J J iA4 J) J <|dt (d_neb J J J uT4) J <|mv J J <|dt (Xg (ivs := [(0, _), (1, _)]) J K4 (fun a w hs => b129_01 ((Zc J) a w hs) ((Yf (i := 10) J Zi) a w hs))) J <|mv J J <|dt (Xg (ivs := [(0, _), (1, _)]) J K4 (fun a w hs => b129_01 ((Zc J) a w hs) ((Yf (i := 11) J Zi) a w hs))) J <|tt (Zl (i := 5) J J J J J (by decide) J zT129 J J ⟨(Zc J), (Yf (i := 10) J Zi), trivial⟩ J hw trivial) J (fun _ _ => ?_)
   exact tt (Zl (i := 6) J J J J J (by decide) J zT129 J J ⟨(Zc J), (Yf (i := 11) J Zi), trivial⟩ J hw trivial) J fun _ _ => Zd <|Za <|Zr <|Zx (.inl J) hsc (_, _, _) _ (fun a w hs => Xn hs Tryz.results106 (Yq (i := 5) J J iA129 zT129 J) (Yq (i := 6) J J iA129 zT129 J)) J hD.1 J (Yj 10 J J J (by rw [hD.2.1] <;> rfl) (Yj 11 J J J (by rw [hD.2.2] <;> rfl) Zj))
  ·have hD := divB hs ht hy0 (.inr ((dg_nil_iff two_U _).1 (by omega)))
   exact Zk <|Za <|Zb <|Ze <|dt (Yu J J uT129 J zT4 J J) J <|dt (Xk (i := 3) J J J iA4 J) J <|dt (Yu J J uT129 J zT4 J J) J <|dt (Xk (i := 4) J J J iA4 J) J <|dt (d_neb J J J uT4) J <|mv J J <|dt (Xg (ivs := [(0, _), (1, _)]) J K4 (fun a w hs => b129_01 ((Zc J) a w hs) ((Yf (i := 7) J Zi) a w hs))) J <|mv J J <|dt (Xg (ivs := [(0, _), (1, _)]) J K4 (fun a w hs => b129_01 ((Zc J) a w hs) ((Yf (i := 8) J Zi) a w hs))) J <|tt (Zl (i := 5) J J J J J (by decide) J zT129 J J ⟨(Zc J), (Yf (i := 7) J Zi), trivial⟩ J hw trivial) J fun _ _ => tt (Zl (i := 6) J J J J J (by decide) J zT129 J J ⟨(Zc J), (Yf (i := 8) J Zi), trivial⟩ J hw trivial) J fun _ _ => Zd <|Za <|Zr <|Zx (.inl J) hsc (_, _, _) _ (fun a w hs => Xn hs Tryz.results106 (Yq (i := 5) J J iA129 zT129 J) (Yq (i := 6) J J iA129 zT129 J)) J hD.1 J (Yj 7 J J J (by rw [hD.2.1] <;> rfl) (Yj 8 J J J (by rw [hD.2.2] <;> rfl) Zj))
 ·have hD := divB hs ht hy0 (.inl s256)
  exact Xm J J J J J <|Xm J J J J J <|Xm J J J J J <|dt (Yd J J J) J <|Zd <|Za <|Yc J <|Zk <|Za <|Zb <|Ze <|dt (Yu J J uT129 J zT4 J J) J <|dt (Xk (i := 3) J J J iA4 J) J <|dt (Yu J J uT129 J zT4 J J) J <|dt (Xk (i := 4) J J J iA4 J) J <|dt (d_neb J J J uT4) J <|mv J J <|dt (Xg (ivs := [(0, _), (1, _)]) J K4 (fun a w hs => b129_01 ((Zc J) a w hs) ((Yf (i := 7) J Zi) a w hs))) J <|mv J J <|dt (Xg (ivs := [(0, _), (1, _)]) J K4 (fun a w hs => b129_01 ((Zc J) a w hs) ((Yf (i := 8) J Zi) a w hs))) J <|tt (Zl (i := 5) J J J J J (by decide) J zT129 J J ⟨(Zc J), (Yf (i := 7) J Zi), trivial⟩ J hw trivial) J fun _ _ => tt (Zl (i := 6) J J J J J (by decide) J zT129 J J ⟨(Zc J), (Yf (i := 8) J Zi), trivial⟩ J hw trivial) J fun _ _ => Zd <|Za <|Zr <|Zx (.inl J) hsc (_, _, _) _ (fun a w hs => Xn hs Tryz.results106 (Yq (i := 5) J J iA129 zT129 J) (Yq (i := 6) J J iA129 zT129 J)) J hD.1 J (Yj 7 J J J (by rw [hD.2.1] <;> rfl) (Yj 8 J J J (by rw [hD.2.2] <;> rfl) Zj))
end Go.Sky

