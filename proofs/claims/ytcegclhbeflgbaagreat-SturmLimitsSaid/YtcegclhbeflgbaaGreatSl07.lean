/- rules, arithmetic and contracts: part 8
   Proved without conditions of its own: each theorem bears its own. -/
import Derived.Test.YtcegclhbeflgbaaGreatSl02
import Derived.Test.YtcegclhbeflgbaaGreatSl01
import Derived.Test.YtcegclhbeflgbaaGreatSl03
import Derived.Test.YtcegclhbeflgbaaGreatSl06
set_option linter.all false
namespace Go.Sky
open Go.Proofs
set_option maxRecDepth 20000
set_option maxHeartbeats 4000000
set_option linter.unusedVariables false
set_option linter.unusedSimpArgs false
theorem poly_dividing (v u : Value) (xs ys : List Int) (hv : Vp xs) (hu : Vp ys) : Cal Tryz.prog 117 #[v, u] [slp 2 wv v xs, slp 2 wv u ys] false (G := Unit) (fun _ => True) (fun _ => .tuple #[.bool (dlow xs ys), .int .i64 (derr xs ys)]) (fun _ => []) := by
 refine Ye Tryz.func117 J Tryz.ntmps117 J K2 ?_
 intro w0 sc hw hsc
 simp only [Zq, Zo]
 have hlen := hv.len
 have hlen2 := hu.len
 have hm1 := msz_le hv.sz
 have hm2 := msz_le hu.sz
 refine Zb <|Ze <|Zm J J <|Zm J J <|Zd <|Za <|Zb <|Zv <|Zb <|Ze <|mv J J <|tt (Zh (n := 2) (poly_valid_ok _ _ (by assumption)) J J J K1 cF56 (Zg 1 J J J Zf) J hw) J fun _ _ => dt (Xx J J) J <|mv J J <|Yr (Zw J J) J J J J <|gtt (Zh (n := 2) (poly_valid_ok _ _ (by assumption)) J J J K1 cF56 (Zg 2 J J J Zf) J hw) J J J J fun _ _ => Yr (Xx J J) J J J J <|dt (Yd J J J) J <|Zm J J <|Zd <|Za <|Yc J <|Zb <|Ze <|mv J J <|dt (Zy J J (i := 2) J Zi uT23) J <|dt (Xh J J J) J <|Zm J J <|Zd <|Za <|Zn J (fun h297 => ?_) (fun h297 => ?_)
 ·exact Zb <|Ze <|Zm J J <|Zm J J <|Zd <|Za <|Zr <|x_br <|Yw <|Zx (.inl J) hsc () _ (fun a w hs => Xn hs Tryz.results117 J J) (by unfold derr dlow; rw [if_pos (by omega), List.eq_nil_of_length_eq_zero (l := ys) (by omega)]; rfl) trivial J Zj
 ·refine Zb <|Ze <|mv J J <|dt (Zy J J (i := 1) J Zi uT23) J <|mv J J <|dt (Zy J J (i := 2) J Zi uT23) J <|dt (Xj J J J) J <|Zm J J <|Zd <|Za <|Zn J (fun h299 => ?_) (fun h299 => ?_)
  ·exact Zb <|Ze <|Zm J J <|Zm J J <|Zd <|Za <|Zr <|x_br <|Yw <|Zx (.inl J) hsc () _ (fun a w hs => Xn hs Tryz.results117 J J) (by rw [dlow_eq (by omega), decide_eq_true (by omega)]; unfold derr; rw [if_neg (by omega), if_pos (by omega)]) trivial J Zj
  ·have hp3 : (xs.length - ys.length + 1) * (msz ys + 1) ≤ 26 * 65537 := Nat.mul_le_mul (by omega) (by omega)
   have hp4 : ((xs.length : Int) - (ys.length : Int) + 1) * ((msz ys : Int) + 1) = (((xs.length - ys.length + 1) * (msz ys + 1) : Nat) : Int) := by rw [Int.natCast_mul]; congr 1; omega
   refine Zb <|Ze <|mv J J <|tt (Zh (n := 2) (poly_size _ _ (by first | exact hv.sz | exact hu.sz)) J J J K1 cF110 (Zg 1 J J J Zf) J hw) J fun _ _ => mv J J <|dt (Zy J J (i := 1) J Zi uT23) J <|mv J J <|dt (Zy J J (i := 2) J Zi uT23) J <|dt (Yz J J J ⟨by omega, by omega⟩) J <|dt (Yl J J J ⟨by omega, by omega⟩) J <|mv J J <|tt (Zh (n := 2) (poly_size _ _ (by first | exact hv.sz | exact hu.sz)) J J J K1 cF110 (Zg 2 J J J Zf) J hw) J fun _ _ => dt (Yl J J J ⟨by omega, by omega⟩) J <|dt (d_mul J J J (by rw [hp4]; exact ⟨by omega, by omega⟩)) J <|dt (Yl J J J (by rw [hp4]; exact ⟨by omega, by omega⟩)) J <|dt (Xv J J J) J <|Zm J J <|Zd <|Za <|Zn J (fun h301 => ?_) (fun h301 => ?_)
   ·exact Zb <|Ze <|Zm J J <|Zm J J <|Zd <|Za <|Zr <|x_br <|Yw <|Zx (.inl J) hsc () _ (fun a w hs => Xn hs Tryz.results117 J J) (by rw [hp4] at h301; rw [dlow_eq (by omega), decide_eq_false (by omega)]; unfold derr; rw [if_neg (by omega), if_neg (by omega), if_pos (by omega)]) trivial J Zj
   ·exact Zk <|Xq <|Za <|Zb <|Ze <|Zm J J <|Zm J J <|Zd <|Za <|Zr <|Zx (.inl J) hsc () _ (fun a w hs => Xn hs Tryz.results117 J J) (by rw [hp4] at h301; rw [dlow_eq (by omega), decide_eq_false (by omega)]; unfold derr; rw [if_neg (by omega), if_neg (by omega), if_neg (by omega)]) trivial J Zj
theorem poly_rest (v u : Value) (xs ys : List Int) (hv : Vp xs) (hu : Vp ys) (hd : derr xs ys = 0) : Cal Tryz.prog 116 #[v, u] [slp 2 wv v xs, slp 2 wv u ys] true (G := Value) (fun r => True) (fun r => .tuple #[r, .int .i64 0]) (fun r => [slp 2 wv r (prest xs ys)]) := by
 refine Ye Tryz.func116 J Tryz.ntmps116 J K2 ?_
 intro w0 sc hw hsc
 simp only [Zq, Zo]
 have hlen := hv.len
 have hlen2 := hu.len
 have hm1 := msz_le hv.sz
 have hm2 := msz_le hu.sz
 obtain ⟨hm0, hF0⟩ := derr_ok hd
 have hdl := dlow_eq (p := xs) hm0
 refine Zb <|Ze <|Zm J J <|Zm J J <|Zd <|Za <|Zb <|Ze <|mv J J <|mv J J <|tt (Zh (n := 2) (poly_dividing _ _ _ _ hv hu) J J J K2 cF117 (Zg 1 J J J (Zg 2 J J J Zf)) J hw) J fun _ _ => mv J J <|dt (Zt J J J) J <|dt (Zt J J J) J <|Zm J J <|Zm J J <|Zd <|Za <|Zb <|Zb <|Ze <|mv J J <|dt (Ym J J J) J <|Zd <|Za <|Zn J (fun h310 => ?_) (fun h310 => ?_)
 ·exfalso; exact h310 hd
 ·refine Zk <|Za <|Zb <|Ze <|mv J J <|tt (t_callo (n := 3) (clone_p _ _ (by omega)) J J J K1 cF118 (Zg 1 J J J Zf) J hw) J fun v _ => Zm J J <|Zd <|Za <|Zb <|Zb <|Ze <|mv J J <|Zd <|Za <|Qq J (fun h314 => ?_) (fun h314 => ?_)
  ·have hlt : xs.length < ys.length := by rw [hdl] at h314; simpa using h314
   exact Zb <|Ze <|mv J J <|Zm J J <|Zm J J <|Zd <|Za <|Zr <|Yw <|Zx (.inl J) hsc _ _ (fun a w hs => Xn hs Tryz.results116 J J) J trivial J (Xs 3 J J pV (by unfold prest; rw [if_pos hlt]) Zj)
  ·have hge : ys.length ≤ xs.length := by rw [hdl] at h314; simpa using h314
   have hF := hF0 hge
   refine Zk <|Za <|Zb <|Ze <|tt (Zp (i := 4) J J J Tryz.zeroValue146 J J hw) J fun b _ => Zd <|Za <|Zb <|Ze <|mv J J <|mv J J <|dt (Zy J J (i := 2) J Zi uT23) J <|dt (Yz J J J ⟨by omega, by omega⟩) J <|dt (Yn (ii := 2) (i := (ys.length - 1)) J J J J Zi uT23 zT28 (by omega) (by omega)) J <|dt (Ys (ii := 2) 0 J J J Zi pV (by omega)) J <|tt (Zp (i := 5) J J J Tryz.zeroValue28 J J hw) J fun b_2 _ => tt (Zl (i := 5) J J J J J (by decide) J zT28 J J ⟨(Zc J), (Zc J), trivial⟩ J hw trivial) J fun _ _ => Zd <|Za <|Zb <|Zb <|Ze <|mv J J <|dt (Zy J J (i := 1) J Zi uT23) J <|dt (Yz J J J ⟨by omega, by omega⟩) J <|Zm J J <|Zd <|Za <|Zv <|Qc [(1, _), (8, _), (9, _), (10, _)] [(0, _), (1, _), (2, _), (4, _), (5, _)] (fun (j : Nat) => [(11, .int .i64 ((xs.length : Int) - 1 - (j : Int)))]) (fun (j : Nat) => [(3, osl 2 28 wv v (rsteps xs ys j))]) (fun (j : Nat) => (j ≤ xs.length - ys.length + 1)) (fun (j : Nat) => xs.length - ys.length + 1 - j) 0 (by first | omega | (dsimp only <;> omega)) ⟨by rw [show (xs.length : Int) - 1 - ((0 : Nat) : Int) = (xs.length : Int) - 1 by omega]; rfl, rfl, rfl, rfl, rfl, trivial⟩ K6 ?_
   rintro j hj
   simp only [List.cons_append, List.nil_append]
   refine Zb <|Zb <|Ze <|mv J J <|mv J J <|dt (Zy J J (i := 2) J Zi uT23) J <|dt (Yz J J J ⟨by omega, by omega⟩) J <|dt (Qd J J J) J <|Zd <|Za <|Zn J (fun h319 => ?_) (fun h319 => ?_)
   ·obtain ⟨hb1, hb2, hb3⟩ := rest_b hF (j := j) (by omega)
    have hRl := length_rsteps xs ys j
    refine Zk <|Za <|Zb <|Zv <|Zb <|Ze <|mv J J <|mv J J <|dt (Yn (ii := 3) (i := (xs.length - 1 - j)) J J J J (Yi pV) uT23 zT28 (by omega) (by omega)) J <|dt (Ys (ii := 3) 0 J J J (Yi pV) pV (by omega)) J <|tt (Zp (i := 6) J J J Tryz.zeroValue28 J J hw) J fun b_3 _ => tt (Zl (i := 6) J J J J J (by decide) J zT28 J J ⟨(Zc J), (Zc J), trivial⟩ J hw trivial) J fun _ _ => Zd <|Za <|Zb <|Zb <|Ze <|mv J J <|dt (Zy J J (i := 3) J (Yi pV) uT23) J <|mv J J <|Zd <|Za <|Zv <|Qc [(1, _), (8, _), (9, _), (10, _), (11, _), (12, _), (51, _)] [(0, _), (1, _), (2, _), (4, _), (5, _), (6, _)] (fun (i : Nat) => [(52, .int .i64 (i : Int))]) (fun (i : Nat) => [(3, osl 2 28 wv v (mul1 (rsteps xs ys j) (cf ys (ys.length - 1)) i))]) (fun (i : Nat) => (i ≤ xs.length)) (fun (i : Nat) => xs.length - i) 0 (by first | omega | (dsimp only <;> omega)) K8 ⟨by rw [mul1_zero]; rfl, rfl, rfl, rfl, rfl, rfl, rfl, trivial⟩ ?_
    rintro i hi
    simp only [List.cons_append, List.nil_append]
    have hg1 : i < xs.length → (mul1 (rsteps xs ys j) (cf ys (ys.length - 1)) i).getD i 0 = cf (rsteps xs ys j) i := fun h => mul1_get (by omega)
    have hl1 := length_mul1 (rsteps xs ys j) (cf ys (ys.length - 1)) i
    refine Zb <|Ze <|dt (Xj J J J) J <|Zd <|Za <|Zb <|Zn J (fun h322 => ?_) (fun h322 => ?_)
    ·refine Zk <|Za <|Zb <|Zv <|Zb <|Ze <|mv J J <|Zm J J <|Zd <|Za <|Xd (fun x => x = b) [(0, 0), (1, 0), (2, 0), (3, 0), (4, 0), (5, 0), (6, 0), (7, 1), (8, 0), (9, 3)] (by kernel_rfl) ?_ ?_
     ·kernel_rfl
     exact r0' J J J J (st1 4 J (Zw J J)) <|r0' J J J J (st1 4 J (Zw J J)) <|r0' J J J J (st1 4 J (Zw J J)) <|r0' J J J J (st1 4 J (Zw J J)) <|r0' J J J J (st1 4 J (Yn (ii := 3) (i := i) J J J J (Yi pV) uT23 zT28 J (by omega))) <|r0' J J J J (st1 4 J (Ys (ii := 3) 0 J J J (Yi pV) pV (by omega))) <|r0' J J J J (st1 4 J (Yg (i := 5) J J J iA28 zT28 J J)) <|r1' J J (Qg (n := 6) (i := 4) (dk_mul _ _ _ (by rw [hg1 (by omega)]; exact hb1 _) (hu.sz _) (by rw [hg1 (by omega)]; exact hb2 _ _)) J J J K3 cF114 J (by decide) Zf J hw J) fun _ _ => r0' J J J J (st1 4 J (Yn (ii := 3) (i := i) J J J J (Yi pV) uT23 zT28 J (by omega))) <|r3' J J (Qj (i := 3) (enc := wv) _ J J J J J J (by decide) pV (by omega) J hw) fun _ _ => Xo <|Xq <|Za <|Ze <|dt (Yl J J J ⟨by omega, by omega⟩) J <|mv J J <|Zd <|Xe (i + 1) (by first | omega | (dsimp only <;> omega)) (by first | omega | (dsimp only <;> omega)) K8 ⟨by rw [← mul1_set (by omega), ← hg1 (by omega)]; rfl, rfl, rfl, rfl, rfl, rfl, rfl, trivial⟩
    ·refine Yv <|Zz <|Zz <|Xz <|Za <|Zb ?_
     obtain rfl : i = xs.length := by omega
     refine Ze <|mv J J <|dt (Zy J J (i := 2) J Zi uT23) J <|mv J J <|Zd <|Za <|Zv <|Qc [(1, _), (8, _), (9, _), (10, _), (11, _), (12, _), (65, _), (66, _)] [(0, _), (1, _), (2, _), (4, _), (5, _), (6, _)] (fun (i : Nat) => [(67, .int .i64 (i : Int))]) (fun (i : Nat) => [(3, osl 2 28 wv v (sub2 ys (rsteps xs ys j) (cf ys (ys.length - 1)) (cf (rsteps xs ys j) (xs.length - 1 - j)) (xs.length - 1 - j - (ys.length - 1)) i))]) (fun (i : Nat) => (i ≤ ys.length)) (fun (i : Nat) => ys.length - i) 0 (by first | omega | (dsimp only <;> omega)) K9 ⟨by rw [← sub2_zero, hRl]; rfl, rfl, rfl, rfl, rfl, rfl, rfl, trivial⟩ ?_
     rintro i hi
     simp only [List.cons_append, List.nil_append]
     have hg2 : i < ys.length → (sub2 ys (rsteps xs ys j) (cf ys (ys.length - 1)) (cf (rsteps xs ys j) (xs.length - 1 - j)) (xs.length - 1 - j - (ys.length - 1)) i).getD ((xs.length - 1 - j - (ys.length - 1)) + i) 0 = cf (rsteps xs ys j) ((xs.length - 1 - j - (ys.length - 1)) + i) * (cf ys (ys.length - 1)) := fun h => sub2_get (by omega)
     have hl2 := length_sub2 ys (rsteps xs ys j) (cf ys (ys.length - 1)) (cf (rsteps xs ys j) (xs.length - 1 - j)) (xs.length - 1 - j - (ys.length - 1)) i
     refine Zb <|Ze <|dt (Xj J J J) J <|Zd <|Za <|Zb <|Zn J (fun h325 => ?_) (fun h325 => ?_)
     ·refine Zk <|Za <|Zb <|Zv <|Zb <|Ze <|mv J J <|dt (Yn (ii := 2) J J J J Zi uT23 zT28 J (by first | omega | (simp only [List.length_set]; omega))) J <|dt (Ys (ii := 2) 0 J J J Zi pV (by first | omega | (simp only [List.length_set]; omega))) J <|tt (Zp (i := 7) J J J Tryz.zeroValue28 J J hw) J fun b_4 _ => Zm J J <|tt (Zl (i := 7) J J J J J (by decide) J zT28 J J ⟨(Zc J), (Zc J), trivial⟩ J hw trivial) J fun _ _ => Zd <|Za <|Zb <|Ze <|mv J J <|mv J J <|dt (Zy J J (i := 2) J Zi uT23) J <|dt (Yz J J J ⟨by omega, by omega⟩) J <|dt (Yz J J J ⟨by omega, by omega⟩) J <|mv J J <|dt (Yl J J J ⟨by omega, by omega⟩) J <|Zm J J <|Zd <|Za <|Xd (fun x => x = b) [(0, 0), (1, 0), (2, 0), (3, 0), (4, 0), (5, 0), (6, 0), (7, 0), (8, 1), (9, 1), (10, 0), (11, 3)] (by kernel_rfl) ?_ ?_
      ·kernel_rfl
      refine r0' J J J J (st1 4 J (Zw J J)) <|r0' J J J J (st1 4 J (Zw J J)) <|r0' J J J J (st1 4 J (Zw J J)) <|r0' J J J J (st1 4 J (Zw J J)) <|r0' J J J J (st1 4 J (Yn (ii := 3) (i := ((xs.length - 1 - j - (ys.length - 1)) + i)) J J J J (Yi pV) uT23 zT28 (by omega) (by omega))) <|r0' J J J J (st1 4 J (Ys (ii := 3) 0 J J J (Yi pV) pV (by omega))) <|r0' J J J J (st1 4 J (Yg (i := 6) J J J iA28 zT28 J J)) <|r0' J J J J (st1 4 J (Yg (i := 7) J J J iA28 zT28 J J)) <|r1' J J (Qg (n := 7) (i := 4) (dk_mul _ _ _ (hb1 _) (hu.sz _) (hb2 _ _)) J J J K3 cF114 J (by decide) Zf J hw J) fun _ _ => r1' J J (Qg (n := 7) (i := 4) (dk_sub _ _ _ (by rw [hg2 (by omega)]; exact hb2 _ _) (hb2 _ _) (by rw [hg2 (by omega)]; exact hb3 _ _ _ _)) J J J K3 cF119 J (by decide) Zf J hw J) fun _ _ => r0' J J J J (st1 4 J (Yn (ii := 3) (i := ((xs.length - 1 - j - (ys.length - 1)) + i)) J J J J (Yi pV) uT23 zT28 (by omega) (by omega))) <|r3' J J (Qj (i := 3) (enc := wv) _ J J J J J J (by decide) pV (by omega) J hw) fun _ _ => Xo <|Xq <|Za <|Ze <|dt (Yl J J J ⟨by omega, by omega⟩) J <|mv J J <|Zd ?_
      exact Xe (i + 1) (by first | omega | (dsimp only <;> omega)) (by first | omega | (dsimp only <;> omega)) K9 ⟨by rw [← sub2_set (by omega), ← hg2 (by omega)]; rfl, rfl, rfl, rfl, rfl, rfl, rfl, trivial⟩
     ·refine Yv <|Zz <|Zz <|Xz <|Xq <|Za <|Ze <|mv J J <|dt (Yz J J J ⟨by omega, by omega⟩) J <|Zm J J <|Zd ?_
      obtain rfl : i = ys.length := by omega
      exact Xe (j + 1) (by first | omega | (dsimp only <;> omega)) (by first | omega | (dsimp only <;> omega)) ⟨by rw [show (xs.length : Int) - 1 - ((j + 1 : Nat) : Int) = (xs.length : Int) - 1 - (j : Int) - 1 by omega]; rfl, rfl, rfl, rfl, rfl, trivial⟩ ⟨by rfl, rfl, rfl, rfl, rfl, rfl, trivial⟩
   ·refine Yv <|Zz <|Zz <|Xz <|Za <|Zb ?_
    obtain rfl : j = xs.length - ys.length + 1 := by omega
    exact Yk (Xa 3 J J pV) <|Ze <|mv J J <|tt (Qg (n := 8) (i := 4) (d_done_b _ _ _ (sz_prest hF)) J J J K2 cF115 J (by decide) (Zg 3 J J J Zf) J hw trivial) J fun _ _ => dt (Zt J J J) J <|dt (Zt J J J) J <|Zm J J <|Zm J J <|Zd <|Za <|Zr <|Zx (.inl J) hsc _ _ (fun a w hs => Xn hs Tryz.results116 J J) J trivial J (Yj 8 J J J (by unfold prest; rw [if_neg (by omega)] <;> rfl) Zj)
theorem poly_divide (v u : Value) (xs ys : List Int) (hv : Vp xs) (hu : Vp ys) (hd : derr xs ys = 0) : Cal Tryz.prog 67 #[v, u] [slp 2 wv v xs, slp 2 wv u ys] true (G := Value) (fun r => True) (fun r => .tuple #[r, .int .i64 (if pdv xs ys then 0 else 10)]) (fun r => [slp 2 wv r (if pdv xs ys then pquoz xs ys else [])]) := by
 refine Ye Tryz.func67 J Tryz.ntmps67 J K2 ?_
 intro w0 sc hw hsc
 simp only [Zq, Zo]
 have hlen := hv.len
 have hlen2 := hu.len
 have hm1 := msz_le hv.sz
 have hm2 := msz_le hu.sz
 obtain ⟨hm0, hF0⟩ := derr_ok hd
 have hdl := dlow_eq (p := xs) hm0
 have hyz : cf ys (ys.length - 1) ≠ 0 := hu.tr.mem (fun e => hm0 (by rw [e]; rfl))
 refine Zb <|Ze <|Zm J J <|Zm J J <|Zd <|Za <|Zb <|Ze <|mv J J <|mv J J <|tt (Zh (n := 2) (poly_dividing _ _ _ _ hv hu) J J J K2 cF117 (Zg 1 J J J (Zg 2 J J J Zf)) J hw) J fun _ _ => mv J J <|dt (Zt J J J) J <|dt (Zt J J J) J <|Zm J J <|Zm J J <|Zd <|Za <|Zb <|Zv <|Zb <|Ze <|mv J J <|dt (Ym J J J) J <|Zm J J <|Zd <|Za <|Zn J (fun h337 => ?_) (fun h337 => ?_)
 ·exfalso; exact h337 hd
 ·refine Zb <|Ze <|mv J J <|dt (Zy J J (i := 1) J Zi uT23) J <|dt (Xh J J J) J <|Zm J J <|Zd <|Za <|Zn J (fun h339 => ?_) (fun h339 => ?_)
  ·refine Zb <|Ze <|Zm J J <|Zm J J <|Zd <|Za <|Zr <|x_br <|Yw ?_
   have hx0 : xs = [] := List.eq_nil_of_length_eq_zero (by omega)
   have hp : pdv xs ys := .inl hx0
   exact Zx (.inl J) hsc _ _ (fun a w hs => Xn hs Tryz.results67 J J) (by rw [if_pos hp]) trivial J (give_none (by rw [if_pos hp, hx0]; rfl) Zj)
  ·have hnx : xs ≠ [] := fun e => by rw [e] at h339; simp at h339
   refine Zb <|Ze <|mv J J <|Zm J J <|Zd <|Za <|Qq J (fun h341 => ?_) (fun h341 => ?_)
   ·have hlt : xs.length < ys.length := by rw [hdl] at h341; simpa using h341
    refine Zb <|Ze <|Zm J J <|Zm J J <|Zd <|Za <|Zr <|x_br <|Yw ?_
    have hp : ¬ pdv xs ys := fun h => by rcases h with h | h; (exact hnx h); (have := h.1; omega)
    exact Zx (.inl J) hsc _ _ (fun a w hs => Xn hs Tryz.results67 J J) (by rw [if_neg hp]) trivial J (give_none (if_neg hp) Zj)
   ·have hge : ys.length ≤ xs.length := by rw [hdl] at h341; simpa using h341
    have hF := hF0 hge
    refine Zk <|Xq <|Za <|Zb <|Ze <|tt (Zp (i := 3) J J J Tryz.zeroValue146 J J hw) J fun b _ => Zd <|Za <|Zb <|Ze <|mv J J <|tt (t_callo (n := 4) (clone_p _ _ (by omega)) J J J K1 cF118 (Zg 1 J J J Zf) J hw) J fun v _ => Zm J J <|Zd <|Za <|Zb <|Ze <|mv J J <|dt (Zy J J (i := 1) J Zi uT23) J <|mv J J <|dt (Zy J J (i := 2) J Zi uT23) J <|dt (Yz J J J ⟨by omega, by omega⟩) J <|dt (Yl J J J ⟨by omega, by omega⟩) J <|tt (Qt (i := 5) (n := (xs.length - ys.length + 1)) (by_ := 24) (enc := wv) 0 J J J J J (by omega) uT23 Tryz.ti28 J pV.cells pV.pos J J (by omega) (by decide) J hw) J fun v_2 _ => Zm J J <|Zd <|Za <|Zb <|Zb <|Ze <|mv J J <|dt (Zy J J (i := 5) J (Yi pV) uT23) J <|dt (Yz J J J ⟨by simp only [List.length_replicate]; omega, by simp only [List.length_replicate]; omega⟩) J <|Zm J J <|Zd <|Za <|Zv ?_
    refine Qc [(1, _), (8, _), (9, _), (10, _)] [(0, _), (1, _), (2, _), (3, _)] (fun (j : Nat) => [(11, .int .i64 ((xs.length : Int) - (ys.length : Int) - (j : Int)))]) (fun (j : Nat) => [(4, osl 2 28 wv v (dsteps xs ys j)), (5, osl 2 28 wv v_2 (dout xs ys j))]) (fun (j : Nat) => (j ≤ xs.length - ys.length + 1) ∧ (∀ k, xs.length - ys.length < k + j → k ≤ xs.length - ys.length → dexact xs ys k)) (fun (j : Nat) => xs.length - ys.length + 1 - j) 0 ⟨by first | omega | (dsimp only <;> omega), fun k h1 h2 => by omega⟩ ⟨by simp only [List.length_replicate]; exact congrArg some (i64_eq (by omega)), rfl, rfl, rfl, rfl, trivial⟩ ⟨J, by rw [dout_zero]; rfl, rfl, rfl, rfl, rfl, trivial⟩ ?_
    rintro j ⟨hj, hx⟩
    simp only [List.cons_append, List.nil_append]
    have hol := length_dout xs ys j
    refine Zb <|Zb <|Ze <|mv J J <|dt (Qd J J J) J <|Zd <|Za <|Zn J (fun h347 => ?_) (fun h347 => ?_)
    ·obtain ⟨hb1, hb5⟩ := div_b hF (j := j) (by omega) hx
     have hRl := length_dsteps xs ys j
     have hi1 : xs.length - ys.length - j + ys.length - 1 < xs.length := by omega
     refine Zk <|Za <|Zb <|Zv <|Qm [(1, _), (8, _), (9, _), (10, _), (11, _)] [(0, _), (4, _), (5, _), (1, _), (2, _), (3, _)] (fun (q : Nat × Nat) => [(12, .pointer (some ⟨q.1, 0, none⟩)), (13, .pointer (some ⟨q.2, 0, none⟩)), (14, .int .i64 0)]) (fun (q : Nat × Nat) => [(97, box q.1 28 (wc (clip (dq ys (dsteps xs ys j) (xs.length - ys.length - j))))), (98, box q.2 28 (wc (clip (cf (dsteps xs ys j) ((xs.length - ys.length - j) + ys.length - 1) % cf ys (ys.length - 1)))))]) (fun (q : Nat × Nat) => True) K5 K6 ?_ ?_
     ·refine e_dregf [2, 4] [23] (by kernel_rfl) <|Zs (n := 10) [(0, 0), (1, 0), (2, 0), (3, 0), (4, 0), (5, 0), (6, 0), (7, 0), (8, 0), (9, 0), (10, 0), (11, 0), (12, 0), (13, 0)] (by kernel_rfl) <|r0' J J J J (stf (Zw J J) K2) <|r0' J J J J (stf (Zw J J) K2) <|r0' J J J J (stf (Zw J J) K2) <|r0' J J J J (stf (Zy J J (i := 2) J Zi uT23) K2) <|r0' J J J J (stf (Yl J J J ⟨by omega, by omega⟩) K2) <|r0' J J J J (stf (Yz J J J ⟨by omega, by omega⟩) K2) <|r0' J J J J (stf (Yn (ii := 4) (i := ((xs.length - ys.length - j) + ys.length - 1)) J J J J (Yi pV) uT23 zT28 (by omega) (by omega)) K2) <|r0' J J J J (stf (Ys (ii := 4) 0 J J J (Yi pV) pV (by omega)) K2) <|r0' J J J J (stf (Zw J J) K2) <|r0' J J J J (stf (Zw J J) K2) <|r0' J J J J (stf (Zy J J (i := 2) J Zi uT23) K2) <|r0' J J J J (stf (Yz J J J ⟨by omega, by omega⟩) K2) <|r0' J J J J (stf (Yn (ii := 2) (i := (ys.length - 1)) J J J J Zi uT23 zT28 (by omega) (by omega)) K2) <|r0' J J J J (stf (Ys (ii := 2) 0 J J J Zi pV (by omega)) K2) <|Ya <|a_br3 (n := 9) 14 19 20 (by kernel_rfl) ?_ ?_ ?_
      ·refine Yo J J (Zh (n := 5) (wide_quo _ _ (hb1 _) (hu.sz _) hyz) J J J K2 cF53 Zf J hw) fun _ _ => Zs (n := 5) [(15, 0), (16, 0), (17, 0), (18, 0)] (by kernel_rfl) <|r0' J J J J (stf (Zw J J) K2) <|r0' J J J J (stf (Zt J J J) K2) <|r0' J J J J (stf (Zt J J J) K2) <|r0' J J J J (stf (Zt J J J) K2) <|Ya <|Xy (n := 4) 19 20 (by kernel_rfl) ?_ ?_
       ·exact Yo J J (Yb (i := 97) J J J Tryz.zeroValue28 J J hw K2) fun b_2 hoff => Zs (n := 0) [(20, 1), (21, 1), (22, 1), (23, 3)] (by kernel_rfl) <|r1' J J (Yb (i := 98) J J J Tryz.zeroValue28 J J hw K2) fun b_3 hoff_2 => r1' J J (Zl (i := 97) J J J J J (by decide) J zT28 J J ⟨(Zc J), (Zc J), trivial⟩ J hw hoff) fun _ _ => r1' J J (Zl (i := 98) J J J J J (by decide) J zT28 J J ⟨(Zc J), (Zc J), trivial⟩ J hw hoff_2) fun _ _ => r3' J J (Xw (Qb J J) J J) fun _ _ => Ya <|Yh (by kernel_rfl) <|Yx (_, _) trivial K8 K8
       ·exact Yo J J (Yb (i := 98) J J J Tryz.zeroValue28 J J hw K2) fun b_4 hoff_3 => Zs (n := 0) [(19, 1), (21, 1), (22, 1), (23, 3)] (by kernel_rfl) <|r1' J J (Yb (i := 97) J J J Tryz.zeroValue28 J J hw K2) fun b_5 hoff_4 => r1' J J (Zl (i := 97) J J J J J (by decide) J zT28 J J ⟨(Zc J), (Zc J), trivial⟩ J hw hoff_4) fun _ _ => r1' J J (Zl (i := 98) J J J J J (by decide) J zT28 J J ⟨(Zc J), (Zc J), trivial⟩ J hw hoff_3) fun _ _ => r3' J J (Xw (Qb J J) J J) fun _ _ => Ya <|Yh (by kernel_rfl) <|Yx (_, _) trivial K8 K8
      ·refine Yo J J (Yb (i := 97) J J J Tryz.zeroValue28 J J hw K2) fun b_6 hoff_5 => Xy (n := 8) 14 20 (by kernel_rfl) ?_ ?_
       ·exact Yo J J (Zh (n := 5) (wide_quo _ _ (hb1 _) (hu.sz _) hyz) J J J K2 cF53 Zf J hw) fun _ _ => Zs (n := 0) [(15, 0), (16, 0), (17, 0), (18, 0), (20, 1), (21, 1), (22, 1), (23, 3)] (by kernel_rfl) <|r0' J J J J (stf (Zw J J) K2) <|r0' J J J J (stf (Zt J J J) K2) <|r0' J J J J (stf (Zt J J J) K2) <|r0' J J J J (stf (Zt J J J) K2) <|r1' J J (Yb (i := 98) J J J Tryz.zeroValue28 J J hw K2) fun b_7 hoff_6 => r1' J J (Zl (i := 97) J J J J J (by decide) J zT28 J J ⟨(Zc J), (Zc J), trivial⟩ J hw hoff_5) fun _ _ => r1' J J (Zl (i := 98) J J J J J (by decide) J zT28 J J ⟨(Zc J), (Zc J), trivial⟩ J hw hoff_6) fun _ _ => r3' J J (Xw (Qb J J) J J) fun _ _ => Ya <|Yh (by kernel_rfl) <|Yx (_, _) trivial K8 K8
       ·exact Yo J J (Yb (i := 98) J J J Tryz.zeroValue28 J J hw K2) fun b_8 hoff_7 => Zs (n := 0) [(14, 1), (15, 0), (16, 0), (17, 0), (18, 0), (21, 1), (22, 1), (23, 3)] (by kernel_rfl) <|r1' J J (Zh (n := 5) (wide_quo _ _ (hb1 _) (hu.sz _) hyz) J J J K2 cF53 Zf J hw) fun _ _ => r0' J J J J (stf (Zw J J) K2) <|r0' J J J J (stf (Zt J J J) K2) <|r0' J J J J (stf (Zt J J J) K2) <|r0' J J J J (stf (Zt J J J) K2) <|r1' J J (Zl (i := 97) J J J J J (by decide) J zT28 J J ⟨(Zc J), (Zc J), trivial⟩ J hw hoff_5) fun _ _ => r1' J J (Zl (i := 98) J J J J J (by decide) J zT28 J J ⟨(Zc J), (Zc J), trivial⟩ J hw hoff_7) fun _ _ => r3' J J (Xw (Qb J J) J J) fun _ _ => Ya <|Yh (by kernel_rfl) <|Yx (_, _) trivial K8 K8
      ·refine Yo J J (Yb (i := 98) J J J Tryz.zeroValue28 J J hw K2) fun b_9 hoff_8 => Xy (n := 8) 14 19 (by kernel_rfl) ?_ ?_
       ·exact Yo J J (Zh (n := 5) (wide_quo _ _ (hb1 _) (hu.sz _) hyz) J J J K2 cF53 Zf J hw) fun _ _ => Zs (n := 0) [(15, 0), (16, 0), (17, 0), (18, 0), (19, 1), (21, 1), (22, 1), (23, 3)] (by kernel_rfl) <|r0' J J J J (stf (Zw J J) K2) <|r0' J J J J (stf (Zt J J J) K2) <|r0' J J J J (stf (Zt J J J) K2) <|r0' J J J J (stf (Zt J J J) K2) <|r1' J J (Yb (i := 97) J J J Tryz.zeroValue28 J J hw K2) fun b_10 hoff_9 => r1' J J (Zl (i := 97) J J J J J (by decide) J zT28 J J ⟨(Zc J), (Zc J), trivial⟩ J hw hoff_9) fun _ _ => r1' J J (Zl (i := 98) J J J J J (by decide) J zT28 J J ⟨(Zc J), (Zc J), trivial⟩ J hw hoff_8) fun _ _ => r3' J J (Xw (Qb J J) J J) fun _ _ => Ya <|Yh (by kernel_rfl) <|Yx (_, _) trivial K8 K8
       ·exact Yo J J (Yb (i := 97) J J J Tryz.zeroValue28 J J hw K2) fun b_11 hoff_10 => Zs (n := 0) [(14, 1), (15, 0), (16, 0), (17, 0), (18, 0), (21, 1), (22, 1), (23, 3)] (by kernel_rfl) <|r1' J J (Zh (n := 5) (wide_quo _ _ (hb1 _) (hu.sz _) hyz) J J J K2 cF53 Zf J hw) fun _ _ => r0' J J J J (stf (Zw J J) K2) <|r0' J J J J (stf (Zt J J J) K2) <|r0' J J J J (stf (Zt J J J) K2) <|r0' J J J J (stf (Zt J J J) K2) <|r1' J J (Zl (i := 97) J J J J J (by decide) J zT28 J J ⟨(Zc J), (Zc J), trivial⟩ J hw hoff_10) fun _ _ => r1' J J (Zl (i := 98) J J J J J (by decide) J zT28 J J ⟨(Zc J), (Zc J), trivial⟩ J hw hoff_8) fun _ _ => r3' J J (Xw (Qb J J) J J) fun _ _ => Ya <|Yh (by kernel_rfl) <|Yx (_, _) trivial K8 K8
     ·rintro ⟨b7, b8⟩ -
      simp only [List.cons_append, List.nil_append]
      refine Zb <|Zb <|Ze <|mv J J <|dt (Ym J J J) J <|Zd <|Za <|Zn J (fun h349 => ?_) (fun h349 => ?_)
      ·exfalso; exact h349 rfl
      ·refine Zk <|Za <|Zb <|Zb <|Ze <|dt (Yg (i := 98) J J J iA28 zT28 J J) J <|tt (Zh (n := 5) (wide_sign _ (clip_bl _)) J J J K1 cF80 Zf J hw) J fun _ _ => dt (Ym J J J) J <|Zd <|Za <|Zn J (fun h352 => ?_) (fun h352 => ?_)
       ·have hne : ¬ dexact xs ys (xs.length - ys.length - j) := fun he => h352 (by rw [clip_mod hyz (hu.sz _), (dexact_j (by omega)).1 he]; rfl)
        refine Zb <|Ze <|Zm J J <|Zm J J <|Zd <|Za <|Zr <|Yw <|x_br <|Yw <|Yw <|x_br <|Yw ?_
        have hp : ¬ pdv xs ys := fun h => by rcases h with h | h; (exact hnx h); (exact hne (h.2.1 _ (by omega)))
        exact Zx (.inl J) hsc _ _ (fun a w hs => Xn hs Tryz.results67 J J) (by rw [if_neg hp]) trivial J (give_none (if_neg hp) Zj)
       ·have hde : dexact xs ys (xs.length - ys.length - j) := (dexact_j (by omega)).2 (by have h0 := Decidable.byContradiction h352; rw [clip_mod hyz (hu.sz _)] at h0; exact Int.sign_eq_zero_iff_zero.1 h0)
        obtain ⟨hb2, hb3, hb4⟩ := hb5 hde
        refine Yk (s_eqp 97 (q := box b7 28 (wc (dq ys (dsteps xs ys j) (xs.length - ys.length - j)))) (by rw [clip_ok hb2]) J J) <|Zk <|Za <|Zb <|Ze <|mv J J <|mv J J <|dt (Yg (i := 97) J J J iA28 zT28 J J) J <|dt (Yn (ii := 5) (i := (xs.length - ys.length - j)) J J J J (Yi pV) uT23 zT28 (by omega) (by omega)) J <|tt (Qj (i := 5) (enc := wv) _ J J J J J J (by decide) pV (by omega) J hw) J fun _ _ => Zd <|Za <|Zb <|Ze <|mv J J <|dt (Zy J J (i := 2) J Zi uT23) J <|mv J J <|Zd <|Za <|Zv <|Qc [(1, _), (8, _), (9, _), (10, _), (11, _), (12, _), (78, _), (79, _)] [(0, _), (97, _), (98, _), (5, _), (1, _), (2, _), (3, _)] (fun (i : Nat) => [(80, .int .i64 (i : Int))]) (fun (i : Nat) => [(4, osl 2 28 wv v (dsub ys (dsteps xs ys j) (dq ys (dsteps xs ys j) (xs.length - ys.length - j)) (xs.length - ys.length - j) i))]) (fun (i : Nat) => (i ≤ ys.length)) (fun (i : Nat) => ys.length - i) 0 (by first | omega | (dsimp only <;> omega)) K9 ⟨by rw [← dsub_zero]; rfl, rfl, rfl, rfl, rfl, rfl, rfl, rfl, trivial⟩ ?_
        rintro i hi
        simp only [List.cons_append, List.nil_append]
        have hg2 : i < ys.length → (dsub ys (dsteps xs ys j) (dq ys (dsteps xs ys j) (xs.length - ys.length - j)) (xs.length - ys.length - j) i).getD ((xs.length - ys.length - j) + i) 0 = cf (dsteps xs ys j) ((xs.length - ys.length - j) + i) := fun h => dsub_get (by omega)
        have hl2 := length_dsub ys (dsteps xs ys j) (dq ys (dsteps xs ys j) (xs.length - ys.length - j)) (xs.length - ys.length - j) i
        refine Zb <|Ze <|dt (Xj J J J) J <|Zd <|Za <|Zb <|Zn J (fun h356 => ?_) (fun h356 => ?_)
        ·refine Zk <|Za <|Zb <|Zv <|Zb <|Ze <|mv J J <|dt (Yn (ii := 2) J J J J Zi uT23 zT28 J (by first | omega | (simp only [List.length_set]; omega))) J <|dt (Ys (ii := 2) 0 J J J Zi pV (by first | omega | (simp only [List.length_set]; omega))) J <|tt (Zp (i := 6) J J J Tryz.zeroValue28 J J hw) J fun b_12 _ => Zm J J <|tt (Zl (i := 6) J J J J J (by decide) J zT28 J J ⟨(Zc J), (Zc J), trivial⟩ J hw trivial) J fun _ _ => Zd <|Za <|Xd (fun x => x = b) [(0, 0), (1, 0), (2, 0), (3, 0), (4, 0), (5, 0), (6, 0), (7, 0), (8, 0), (9, 0), (10, 0), (11, 0), (12, 1), (13, 1), (14, 0), (15, 3)] (by kernel_rfl) ?_ ?_
         ·kernel_rfl
         refine r0' J J J J (st1 3 J (Zw J J)) <|r0' J J J J (st1 3 J (Zw J J)) <|r0' J J J J (st1 3 J (Zw J J)) <|r0' J J J J (st1 3 J (Yl J J J ⟨by omega, by omega⟩)) <|r0' J J J J (st1 3 J (Zw J J)) <|r0' J J J J (st1 3 J (Zw J J)) <|r0' J J J J (st1 3 J (Zw J J)) <|r0' J J J J (st1 3 J (Yl J J J ⟨by omega, by omega⟩)) <|r0' J J J J (st1 3 J (Yn (ii := 4) (i := ((xs.length - ys.length - j) + i)) J J J J (Yi pV) uT23 zT28 (by omega) (by omega))) <|r0' J J J J (st1 3 J (Ys (ii := 4) 0 J J J (Yi pV) pV (by omega))) <|r0' J J J J (st1 3 J (Yg (i := 97) J J J iA28 zT28 J J)) <|r0' J J J J (st1 3 J (Yg (i := 6) J J J iA28 zT28 J J)) <|r1' J J (Qg (n := 6) (i := 3) (dk_mul _ _ _ hb2 (hu.sz _) (hb3 _)) J J J K3 cF114 J (by decide) Zf J hw J) fun _ _ => r1' J J (Qg (n := 6) (i := 3) (dk_sub _ _ _ (by rw [hg2 (by omega)]; exact hb1 _) (hb3 _) (by rw [hg2 (by omega)]; exact hb4 _ _)) J J J K3 cF119 J (by decide) Zf J hw J) fun _ _ => r0' J J J J (st1 3 J (Yn (ii := 4) (i := ((xs.length - ys.length - j) + i)) J J J J (Yi pV) uT23 zT28 (by omega) (by omega))) <|r3' J J (Qj (i := 4) (enc := wv) _ J J J J J J (by decide) pV (by omega) J hw) fun _ _ => Xo <|Xq <|Za <|Ze <|dt (Yl J J J ⟨by omega, by omega⟩) J <|mv J J <|Zd ?_
         exact Xe (i + 1) (by first | omega | (dsimp only <;> omega)) (by first | omega | (dsimp only <;> omega)) K9 ⟨by rw [← dsub_set (by omega), ← hg2 (by omega)]; rfl, rfl, rfl, rfl, rfl, rfl, rfl, rfl, trivial⟩
        ·refine Yv <|Zz <|Zz <|Xz <|Xq <|Za <|Ze <|mv J J <|dt (Yz J J J ⟨by omega, by omega⟩) J <|Zm J J <|Zd ?_
         obtain rfl : i = ys.length := by omega
         exact Xe (j + 1) ⟨by first | omega | (dsimp only <;> omega), fun k h1 h2 => by rcases Nat.lt_or_ge (xs.length - ys.length) (k + j) with h3 | h3; (exact hx k h3 h2); (rw [show k = xs.length - ys.length - j by omega]; exact hde)⟩ (by first | omega | (dsimp only <;> omega)) ⟨by rw [show (xs.length : Int) - (ys.length : Int) - ((j + 1 : Nat) : Int) = (xs.length : Int) - (ys.length : Int) - (j : Int) - 1 by omega]; rfl, rfl, rfl, rfl, rfl, trivial⟩ ⟨by rfl, by rw [← dout_set (by omega)]; rfl, rfl, rfl, rfl, rfl, trivial⟩
    ·refine Yv <|Zz <|Zz <|Xz <|Za <|Zb <|Zb ?_
     obtain rfl : j = xs.length - ys.length + 1 := by omega
     have hall : ∀ k, k ≤ xs.length - ys.length → dexact xs ys k := fun k hk => hx k (by omega) hk
     refine Yk (Xa 4 J J pV) <|Ze <|dt (Yu J J uT146 J zT144 J J) J <|dt (Yu J J uT144 J zT29 J J) J <|dt (Xk (i := 3) J J J iA29 J) J <|dt (Xh J J J) J <|mv J J <|Xu (d := 105) J (fun s360 => ?_) (fun s360 => ?_)
     ·refine Yr (Zw J J) J J J J <|gtt (Zh (n := 7) (poly_trim _ _ (sz_dlast hF hall)) J J J K1 cF120 (Zg 4 J J J Zf) J hw) J J J J fun _ _ => Yr (Zy J J (i := 7) J Zi uT23) J J J J <|Yr (Xv J J J) J J J J <|dt (Yp J J J) J <|Zd <|Za <|Zn J (fun h360 => ?_) (fun h360 => ?_)
      ·refine Zb <|Ze <|Zm J J <|Zm J J <|Zd <|Za <|Zr <|Yw ?_
       have hp : ¬ pdv xs ys := fun h => by rcases h with h | h; (exact hnx h); (rw [h.2.2] at h360; simp at h360)
       exact Zx (.inl J) hsc _ _ (fun a w hs => Xn hs Tryz.results67 J J) (by rw [if_neg hp]) trivial J (give_none (if_neg hp) Zj)
      ·refine Zk <|Za <|Zb <|Yk (Xa 5 J J pV) <|Ze <|mv J J <|tt (Qg (n := 8) (i := 3) (d_done_b _ _ _ (sz_pquo hF hall _)) J J J K2 cF115 J (by decide) (Zg 5 J J J Zf) J hw trivial) J fun _ _ => dt (Zt J J J) J <|dt (Zt J J J) J <|Zm J J <|Zm J J <|Zd <|Za <|Zr ?_
       have hp : pdv xs ys := .inr ⟨hge, hall, List.eq_nil_of_length_eq_zero (by omega)⟩
       exact Zx (.inl J) hsc _ _ (fun a w hs => Xn hs Tryz.results67 J J) (by rw [if_pos hp] <;> rfl) trivial J (Yj 8 J J J (by rw [if_pos hp, pquoz_eq hnx, ← dout_all] <;> rfl) Zj)
     ·exfalso; exact s360 rfl
theorem poly_gcd (v u : Value) (xs ys : List Int) (hv : Vp xs) (hu : Vp ys) (F : Nat) (hg : ¬ gfull xs ys) (hok : eok F (gA xs ys) (gB xs ys)) : Cal Tryz.prog 66 #[v, u] [slp 2 wv v xs, slp 2 wv u ys] true (G := Value) (fun r => True) (fun r => .tuple #[r, .int .i64 0]) (fun r => [slp 2 wv r (pgcd F xs ys)]) := by
 refine Ye Tryz.func66 J Tryz.ntmps66 J K2 ?_
 intro w0 sc hw hsc
 simp only [Zq, Zo]
 have hlen := hv.len
 have hlen2 := hu.len
 have hm1 := msz_le hv.sz
 have hm2 := msz_le hu.sz
 have hpx := length_pprim xs
 have hpy := length_pprim ys
 have hN2 : (max xs.length ys.length + 2) * (max xs.length ys.length + 2) ≤ 27 * 27 := Nat.mul_le_mul (by omega) (by omega)
 have hN3 : (max xs.length ys.length + 2) * (max xs.length ys.length + 2) * (max (msz xs) (msz ys) + 8) ≤ 27 * 27 * 65544 := Nat.mul_le_mul hN2 (by omega)
 have hN4 : (max (xs.length : Int) (ys.length : Int) + 2) * (max (xs.length : Int) (ys.length : Int) + 2) = (((max xs.length ys.length + 2) * (max xs.length ys.length + 2) : Nat) : Int) := by rw [Int.natCast_mul, show (((max xs.length ys.length + 2) : Nat) : Int) = (max (xs.length : Int) (ys.length : Int) + 2) by omega]
 have hN5 : (max (xs.length : Int) (ys.length : Int) + 2) * (max (xs.length : Int) (ys.length : Int) + 2) * (max (msz xs : Int) (msz ys : Int) + 8) = (((max xs.length ys.length + 2) * (max xs.length ys.length + 2) * (max (msz xs) (msz ys) + 8) : Nat) : Int) := by rw [hN4, Int.natCast_mul ((max xs.length ys.length + 2) * (max xs.length ys.length + 2)), show ((max (msz xs) (msz ys) + 8 : Nat) : Int) = max (msz xs : Int) (msz ys : Int) + 8 by omega]
 refine Zb <|Ze <|Zm J J <|Zm J J <|Zd <|Za <|Zb <|Zb <|Ze <|mv J J <|tt (Zh (n := 2) (poly_valid_ok _ _ (by assumption)) J J J K1 cF56 (Zg 1 J J J Zf) J hw) J fun _ _ => dt (Xx J J) J <|mv J J <|Yr (Zw J J) J J J J <|gtt (Zh (n := 2) (poly_valid_ok _ _ (by assumption)) J J J K1 cF56 (Zg 2 J J J Zf) J hw) J J J J fun _ _ => Yr (Xx J J) J J J J <|dt (Yd J J J) J <|Zd <|Za <|Yc J <|Zk <|Za <|Zb <|Zb <|Ze <|mv J J <|dt (Zy J J (i := 1) J Zi uT23) J <|mv J J <|dt (Zy J J (i := 2) J Zi uT23) J <|dt (d_max J J J) J <|dt (Yl J J J ⟨by omega, by omega⟩) J <|Zm J J <|Zd <|Za <|Qm [(0, _), (1, _)] [(0, _), (1, _), (2, _)] (fun (_ : Unit) => [(46, .bool (decide (gfull xs ys)))]) (fun (_ : Unit) => []) (fun (_ : Unit) => True) K2 K3 ?_ ?_
 ·refine Ze <|mv J J <|dt (Zy J J (i := 1) J Zi uT23) J <|dt (Xv J J J) J <|mv J J <|Xu (d := 29) J (fun s371 => ?_) (fun s371 => ?_)
  ·refine Yr (Zw J J) J J J J <|Yr (Zy J J (i := 2) J Zi uT23) J J J J <|Yr (Xv J J J) J J J J <|dt (Yp J J J) J <|mv J J <|Xu (d := 34) J (fun s371_2 => ?_) (fun s371_2 => ?_)
   ·exact Yr (Zw J J) J J J J <|Yr (Zw J J) J J J J <|Yr (d_mul J J J (by rw [hN4]; exact ⟨by omega, by omega⟩)) J J J J <|Yr (Zw J J) J J J J <|gtt (Zh (n := 2) (poly_size _ _ (by first | exact hv.sz | exact hu.sz)) J J J K1 cF110 (Zg 1 J J J Zf) J hw) J J J J fun _ _ => Yr (Zw J J) J J J J <|gtt (Zh (n := 2) (poly_size _ _ (by first | exact hv.sz | exact hu.sz)) J J J K1 cF110 (Zg 2 J J J Zf) J hw) J J J J fun _ _ => Yr (d_max J J J) J J J J <|Yr (Yl J J J ⟨by omega, by omega⟩) J J J J <|Yr (d_mul J J J (by rw [hN5]; exact ⟨by omega, by omega⟩)) J J J J <|Yr (Xv J J J) J J J J <|dt (Yp J J J) J <|Zd <|Yx () trivial ⟨by first | (rw [hN5]; exact congrArg some (congrArg Value.bool (decide_eq_decide.2 ⟨fun h => ⟨by omega, by omega, by omega⟩, fun h => by have := h.2.2; omega⟩))) | exact congrArg some (congrArg Value.bool (decide_eq_false (fun h => by have h1 := h.1; have h2 := h.2.1; omega)).symm), rfl, rfl, trivial⟩ K3
   ·exact Xm J J J J J <|Xm J J J J J <|Xm J J J J J <|Xm J J J J J <|Xm J J J J J <|Xm J J J J J <|Xm J J J J J <|Xm J J J J J <|Xm J J J J J <|Xm J J J J J <|Xm J J J J J <|dt (Yd J J J) J <|Zd <|Yx () trivial ⟨by first | (rw [hN5]; exact congrArg some (congrArg Value.bool (decide_eq_decide.2 ⟨fun h => ⟨by omega, by omega, by omega⟩, fun h => by have := h.2.2; omega⟩))) | exact congrArg some (congrArg Value.bool (decide_eq_false (fun h => by have h1 := h.1; have h2 := h.2.1; omega)).symm), rfl, rfl, trivial⟩ K3
  ·exact Xm J J J J J <|Xm J J J J J <|Xm J J J J J <|dt (Yd J J J) J <|mv J J <|Xm J J J J J <|Xm J J J J J <|Xm J J J J J <|Xm J J J J J <|Xm J J J J J <|Xm J J J J J <|Xm J J J J J <|Xm J J J J J <|Xm J J J J J <|Xm J J J J J <|Xm J J J J J <|dt (Yd J J J) J <|Zd <|Yx () trivial ⟨by first | (rw [hN5]; exact congrArg some (congrArg Value.bool (decide_eq_decide.2 ⟨fun h => ⟨by omega, by omega, by omega⟩, fun h => by have := h.2.2; omega⟩))) | exact congrArg some (congrArg Value.bool (decide_eq_false (fun h => by have h1 := h.1; have h2 := h.2.1; omega)).symm), rfl, rfl, trivial⟩ K3
 ·rintro _ -
  simp only [List.cons_append, List.nil_append]
  refine Zn J (fun h371 => ?_) (fun h371 => ?_)
  ·exfalso; exact hg h371
  ·refine Zk <|Za <|Zb <|Ze <|mv J J <|tt (Zh (n := 3) (poly_primitive _ _ hv) J J J K1 cF68 (Zg 1 J J J Zf) J hw) J fun _ _ => mv J J <|dt (Zt J J J) J <|dt (Zt J J J) J <|Zm J J <|Zm J J <|Zd <|Za <|Zb <|Zb <|Ze <|mv J J <|dt (Ym J J J) J <|Zd <|Za <|Zn J (fun h375 => ?_) (fun h375 => ?_)
   ·exfalso; exact h375 rfl
   ·refine Zk <|Za <|Zb <|Ze <|mv J J <|tt (Zh (n := 4) (poly_primitive _ _ hu) J J J K1 cF68 (Zg 2 J J J Zf) J hw) J fun _ _ => mv J J <|dt (Zt J J J) J <|dt (Zt J J J) J <|Zm J J <|Zm J J <|Zd <|Za <|Zb <|Zb <|Ze <|mv J J <|dt (Ym J J J) J <|Zd <|Za <|Zn J (fun h379 => ?_) (fun h379 => ?_)
    ·exfalso; exact h379 rfl
    ·refine Zk <|Za <|Qm [] [(0, _), (1, _), (2, _), (3, _), (4, _)] (fun (q : Value × Value) => [(7, q.1), (9, q.2)]) (fun (q : Value × Value) => [(80, slp 2 wv q.1 (gA xs ys)), (81, slp 2 wv q.2 (gB xs ys))]) (fun (q : Value × Value) => True) trivial K5 ?_ ?_
     ·refine Zb <|Ze <|mv J J <|dt (Zy J J (i := 3) J Zi uT23) J <|mv J J <|dt (Zy J J (i := 4) J Zi uT23) J <|dt (Xj J J J) J <|Zd <|Za <|Zn J (fun h382 => ?_) (fun h382 => ?_)
      ·exact Ze <|mv J J <|mv J J <|Zm J J <|Zm J J <|Zd <|Qe (s_dup 4 80 J J J) <|Qe (s_dup 3 81 J J J) <|Yx (_, _) trivial K2 ⟨by unfold gA; first | rw [if_pos (by omega)]; rfl | rw [if_neg (by omega)]; rfl, by unfold gB; first | rw [if_pos (by omega)]; rfl | rw [if_neg (by omega)]; rfl, rfl, rfl, rfl, rfl, rfl, trivial⟩
      ·exact Zk <|Qe (s_dup 3 80 J J J) <|Qe (s_dup 4 81 J J J) <|Yx (_, _) trivial K2 ⟨by unfold gA; first | rw [if_pos (by omega)]; rfl | rw [if_neg (by omega)]; rfl, by unfold gB; first | rw [if_pos (by omega)]; rfl | rw [if_neg (by omega)]; rfl, rfl, rfl, rfl, rfl, rfl, trivial⟩
     ·rintro ⟨va, vb⟩ -
      simp only [List.cons_append, List.nil_append]
      refine Zb <|Zv <|Qc [] [(0, _), (1, _), (2, _), (3, _), (4, _)] (fun (q : Value × Value × List Int × List Int × Nat) => [(7, q.1), (9, q.2.1)]) (fun (q : Value × Value × List Int × List Int × Nat) => [(80, slp 2 wv q.1 q.2.2.1), (81, slp 2 wv q.2.1 q.2.2.2.1)]) (fun (q : Value × Value × List Int × List Int × Nat) => (Vp q.2.2.1) ∧ (Vp q.2.2.2.1) ∧ (eok q.2.2.2.2 q.2.2.1 q.2.2.2.1) ∧ (eu q.2.2.2.2 q.2.2.1 q.2.2.2.1 = eu F (gA xs ys) (gB xs ys))) (fun (q : Value × Value × List Int × List Int × Nat) => q.2.2.2.2) (va, vb, gA xs ys, gB xs ys, F) ⟨vp_gA hv hu, vp_gB hv hu, hok, J⟩ K2 K7 ?_
      rintro ⟨va, vb, a, b, f⟩ ⟨hva, hvb, hok0, heu⟩
      dsimp only at hva hvb hok0 heu
      simp only [List.cons_append, List.nil_append]
      refine Zb <|Zb <|Ze <|mv J J <|dt (Zy J J (i := 81) J Zi uT23) J <|dt (Xv J J J) J <|Zd <|Za <|Zn J (fun h385 => ?_) (fun h385 => ?_)
      ·have hbn : b ≠ [] := fun e => by rw [e] at h385; simp at h385
       obtain ⟨f1, rfl, hde, hok1, heu1⟩ := eok_step hok0 hbn
       refine Zk <|Za <|Zv <|Zb <|Ze <|mv J J <|mv J J <|tt (Zh (n := 5) (poly_rest _ _ _ _ hva hvb hde) J J J K2 cF116 (Zg 80 J J J (Zg 81 J J J Zf)) J hw) J fun _ _ => mv J J <|dt (Zt J J J) J <|dt (Zt J J J) J <|Zm J J <|Zm J J <|Zd <|Za <|Zb <|Zb <|Ze <|mv J J <|dt (Ym J J J) J <|Zd <|Za <|Zn J (fun h387 => ?_) (fun h387 => ?_)
       ·exfalso; exact h387 rfl
       ·refine Zk <|Za <|Zb <|Zb <|Ze <|mv J J <|tt (Zh (n := 6) (poly_primitive _ _ (vp_prest hva hde)) J J J K1 cF68 (Zg 5 J J J Zf) J hw) J fun _ _ => mv J J <|dt (Zt J J J) J <|dt (Zt J J J) J <|Zm J J <|Zm J J <|Zd <|Za <|Zb <|Ze <|mv J J <|dt (Ym J J J) J <|Zd <|Za <|Zn J (fun h390 => ?_) (fun h390 => ?_)
        ·exfalso; exact h390 rfl
        ·exact Zk <|Za <|Ze <|mv J J <|mv J J <|Zm J J <|Zm J J <|Zd <|Xq <|Qe (s_dup 81 80 J J J) <|Qe (s_dup 6 81 J J J) <|Xe (_, _, b, pprim (prest a b), f1) ⟨hvb, vp_pprim (vp_prest hva hde), hok1, by rw [← heu1]; exact heu⟩ (Nat.lt_succ_self f1) K2 K7
      ·obtain rfl : b = [] := List.eq_nil_of_length_eq_zero (by omega)
       rw [eu_nil] at heu
       have hal := hva.len
       refine Yv <|Zz <|Zz <|Xz <|Za <|Zb <|Zb <|Ze <|mv J J <|dt (Zy J J (i := 80) J Zi uT23) J <|dt (Xv J J J) J <|mv J J <|Xu (d := 95) J (fun s395 => ?_) (fun s395 => ?_)
       ·refine Yr (Zw J J) J J J J <|Yr (Zw J J) J J J J <|Yr (Zy J J (i := 80) J Zi uT23) J J J J <|Yr (Yz J J J ⟨by omega, by omega⟩) J J J J <|Yr (Yn (ii := 80) (i := (a.length - 1)) J J J J Zi uT23 zT28 (by omega) (by omega)) J J J J <|Yr (Ys (ii := 80) 0 J J J Zi pV (by omega)) J J J J <|gtt (Zh (n := 6) (wide_sign _ (hva.sz _)) J J J K1 cF80 Zf J hw) J J J J fun _ _ => Yr (Xj J J J) J J J J <|dt (Yp J J J) J <|Zd <|Za <|Zn J (fun h395 => ?_) (fun h395 => ?_)
        ·have hneg : a.length ≠ 0 ∧ cf a (a.length - 1) < 0 := ⟨by omega, (sign_neg_iff _).1 h395⟩
         exact Zb <|Ze <|mv J J <|tt (Zh (n := 6) (wide_of_int (-1) (by first | assumption | exact ⟨by omega, by omega⟩)) J J J K1 cF55 Zf J hw) J fun _ _ => tt (Zh (n := 7) (poly_scale _ _ (-1) hva (by decide) (bl_negm hva.sz)) J J J K2 cF113 (Zg 80 J J J Zf) J hw) J fun _ _ => dt (Zt J J J) J <|dt (Zt J J J) J <|Zm J J <|Zm J J <|Zd <|Za <|Zr <|Yw <|Zx (.inl J) hsc _ _ (fun a w hs => Xn hs Tryz.results66 J J) J trivial J (Yj 7 J J J (by unfold pgcd gnorm; rw [← heu, if_pos hneg] <;> rfl) Zj)
        ·refine Zk <|Za <|Zb <|Ze <|mv J J <|Zm J J <|Zm J J <|Zd <|Za <|Zr ?_
         have hneg : ¬ (a.length ≠ 0 ∧ cf a (a.length - 1) < 0) := fun h => by first | omega | exact absurd ((sign_neg_iff (cf a (a.length - 1))).2 h.2) (by assumption)
         exact Zx (.inl J) hsc _ _ (fun a w hs => Xn hs Tryz.results66 J J) J trivial J (Yj 80 J J J (by unfold pgcd gnorm; rw [← heu, if_neg hneg] <;> rfl) Zj)
       ·refine Xm J J J J J <|Xm J J J J J <|Xm J J J J J <|Xm J J J J J <|Xm J J J J J <|Xm J J J J J <|Xm J J J J J <|Xm J J J J J <|dt (Yd J J J) J <|Zd <|Za <|Yc J <|Zk <|Za <|Zb <|Ze <|mv J J <|Zm J J <|Zm J J <|Zd <|Za <|Zr ?_
        have hneg : ¬ (a.length ≠ 0 ∧ cf a (a.length - 1) < 0) := fun h => by first | omega | exact absurd ((sign_neg_iff (cf a (a.length - 1))).2 h.2) (by assumption)
        exact Zx (.inl J) hsc _ _ (fun a w hs => Xn hs Tryz.results66 J J) J trivial J (Yj 80 J J J (by unfold pgcd gnorm; rw [← heu, if_neg hneg] <;> rfl) Zj)
end Go.Sky

