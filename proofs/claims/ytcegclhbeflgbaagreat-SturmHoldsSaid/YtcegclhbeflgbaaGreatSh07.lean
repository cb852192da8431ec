/- rules, arithmetic and contracts: part 8
   Proved without conditions of its own: each theorem bears its own. -/
import Derived.Test.YtcegclhbeflgbaaGreatSh02
import Derived.Test.YtcegclhbeflgbaaGreatSh01
import Derived.Test.YtcegclhbeflgbaaGreatSh03
import Derived.Test.YtcegclhbeflgbaaGreatSh06
set_option linter.all false
namespace Go.Sky
open Go.Proofs
set_option maxRecDepth 20000
set_option maxHeartbeats 4000000
set_option linter.unusedVariables false
set_option linter.unusedSimpArgs false
theorem poly_dividing (v u : Value) (xs ys : List Int) (hv : Vp xs) (hu : Vp ys) : Cal Tryz.prog 117 #[v, u] [slp 2 wv v xs, slp 2 wv u ys] false (G := Unit) (fun _ => True) (fun _ => .tuple #[.bool (dlow xs ys), .int .i64 (derr xs ys)]) (fun _ => []) := by
 refine Ya Tryz.func117 J Tryz.ntmps117 J K2 ?_
 intro w0 sc hw hsc
 simp only [Zp, Zo]
 have hlen := hv.len
 have hlen2 := hu.len
 have hm1 := msz_le hv.sz
 have hm2 := msz_le hu.sz
 refine Zb <|Zd <|Zl J J <|Zl J J <|Zc <|Za <|Zb <|Zm <|Zb <|Zd <|mv J J <|tt (Zg (n := 2) (poly_valid_ok _ _ (by assumption)) J J J K1 cF56 (Zf 1 J J J Ze) J hw) J fun _ _ => dt (Xf J J) J <|mv J J <|Yj (Zv J J) J J J J <|gtt (Zg (n := 2) (poly_valid_ok _ _ (by assumption)) J J J K1 cF56 (Zf 2 J J J Ze) J hw) J J J J fun _ _ => Yj (Xf J J) J J J J <|dt (Zs J J J) J <|Zl J J <|Zc <|Za <|Yd J <|Zb <|Zd <|mv J J <|dt (Zy J J (i := 2) J Zi uT23) J <|dt (Xu J J J) J <|Zl J J <|Zc <|Za <|Zn J (fun h297 => ?_) (fun h297 => ?_)
 ·exact Zb <|Zd <|Zl J J <|Zl J J <|Zc <|Za <|Zq <|Qj <|Yp <|Zr (.inl J) hsc () _ (fun a w hs => Xp hs Tryz.results117 J J) (by unfold derr dlow; rw [if_pos (by omega), List.eq_nil_of_length_eq_zero (l := ys) (by omega)]; rfl) trivial J Zj
 ·refine Zb <|Zd <|mv J J <|dt (Zy J J (i := 1) J Zi uT23) J <|mv J J <|dt (Zy J J (i := 2) J Zi uT23) J <|dt (Yw J J J) J <|Zl J J <|Zc <|Za <|Zn J (fun h299 => ?_) (fun h299 => ?_)
  ·exact Zb <|Zd <|Zl J J <|Zl J J <|Zc <|Za <|Zq <|Qj <|Yp <|Zr (.inl J) hsc () _ (fun a w hs => Xp hs Tryz.results117 J J) (by rw [dlow_eq (by omega), decide_eq_true (by omega)]; unfold derr; rw [if_neg (by omega), if_pos (by omega)]) trivial J Zj
  ·have hp3 : (xs.length - ys.length + 1) * (msz ys + 1) ≤ 26 * 65537 := Nat.mul_le_mul (by omega) (by omega)
   have hp4 : ((xs.length : Int) - (ys.length : Int) + 1) * ((msz ys : Int) + 1) = (((xs.length - ys.length + 1) * (msz ys + 1) : Nat) : Int) := by rw [Int.natCast_mul]; congr 1; omega
   refine Zb <|Zd <|mv J J <|tt (Zg (n := 2) (poly_size _ _ (by first | exact hv.sz | exact hu.sz)) J J J K1 cF110 (Zf 1 J J J Ze) J hw) J fun _ _ => mv J J <|dt (Zy J J (i := 1) J Zi uT23) J <|mv J J <|dt (Zy J J (i := 2) J Zi uT23) J <|dt (Xc J J J ⟨by omega, by omega⟩) J <|dt (Yg J J J ⟨by omega, by omega⟩) J <|mv J J <|tt (Zg (n := 2) (poly_size _ _ (by first | exact hv.sz | exact hu.sz)) J J J K1 cF110 (Zf 2 J J J Ze) J hw) J fun _ _ => dt (Yg J J J ⟨by omega, by omega⟩) J <|dt (d_mul J J J (by rw [hp4]; exact ⟨by omega, by omega⟩)) J <|dt (Yg J J J (by rw [hp4]; exact ⟨by omega, by omega⟩)) J <|dt (Xd J J J) J <|Zl J J <|Zc <|Za <|Zn J (fun h301 => ?_) (fun h301 => ?_)
   ·exact Zb <|Zd <|Zl J J <|Zl J J <|Zc <|Za <|Zq <|Qj <|Yp <|Zr (.inl J) hsc () _ (fun a w hs => Xp hs Tryz.results117 J J) (by rw [hp4] at h301; rw [dlow_eq (by omega), decide_eq_false (by omega)]; unfold derr; rw [if_neg (by omega), if_neg (by omega), if_pos (by omega)]) trivial J Zj
   ·exact Zk <|Xl <|Za <|Zb <|Zd <|Zl J J <|Zl J J <|Zc <|Za <|Zq <|Zr (.inl J) hsc () _ (fun a w hs => Xp hs Tryz.results117 J J) (by rw [hp4] at h301; rw [dlow_eq (by omega), decide_eq_false (by omega)]; unfold derr; rw [if_neg (by omega), if_neg (by omega), if_neg (by omega)]) trivial J Zj
theorem poly_rest (v u : Value) (xs ys : List Int) (hv : Vp xs) (hu : Vp ys) (hd : derr xs ys = 0) : Cal Tryz.prog 116 #[v, u] [slp 2 wv v xs, slp 2 wv u ys] true (G := Value) (fun r => True) (fun r => .tuple #[r, .int .i64 0]) (fun r => [slp 2 wv r (prest xs ys)]) := by
 refine Ya Tryz.func116 J Tryz.ntmps116 J K2 ?_
 intro w0 sc hw hsc
 simp only [Zp, Zo]
 have hlen := hv.len
 have hlen2 := hu.len
 have hm1 := msz_le hv.sz
 have hm2 := msz_le hu.sz
 obtain ⟨hm0, hF0⟩ := derr_ok hd
 have hdl := dlow_eq (p := xs) hm0
 refine Zb <|Zd <|Zl J J <|Zl J J <|Zc <|Za <|Zb <|Zd <|mv J J <|mv J J <|tt (Zg (n := 2) (poly_dividing _ _ _ _ hv hu) J J J K2 cF117 (Zf 1 J J J (Zf 2 J J J Ze)) J hw) J fun _ _ => mv J J <|dt (Zw J J J) J <|dt (Zw J J J) J <|Zl J J <|Zl J J <|Zc <|Za <|Zb <|Zb <|Zd <|mv J J <|dt (Ys J J J) J <|Zc <|Za <|Zn J (fun h310 => ?_) (fun h310 => ?_)
 ·exfalso; exact h310 hd
 ·refine Zk <|Za <|Zb <|Zd <|mv J J <|tt (t_callo (n := 3) (clone_p _ _ (by omega)) J J J K1 cF118 (Zf 1 J J J Ze) J hw) J fun v _ => Zl J J <|Zc <|Za <|Zb <|Zb <|Zd <|mv J J <|Zc <|Za <|Qn J (fun h314 => ?_) (fun h314 => ?_)
  ·have hlt : xs.length < ys.length := by rw [hdl] at h314; simpa using h314
   exact Zb <|Zd <|mv J J <|Zl J J <|Zl J J <|Zc <|Za <|Zq <|Yp <|Zr (.inl J) hsc _ _ (fun a w hs => Xp hs Tryz.results116 J J) J trivial J (Xs 3 J J pV (by unfold prest; rw [if_pos hlt]) Zj)
  ·have hge : ys.length ≤ xs.length := by rw [hdl] at h314; simpa using h314
   have hF := hF0 hge
   refine Zk <|Za <|Zb <|Zd <|tt (Zx (i := 4) J J J Tryz.zeroValue146 J J hw) J fun b _ => Zc <|Za <|Zb <|Zd <|mv J J <|mv J J <|dt (Zy J J (i := 2) J Zi uT23) J <|dt (Xc J J J ⟨by omega, by omega⟩) J <|dt (Yf (ii := 2) (i := (ys.length - 1)) J J J J Zi uT23 zT28 (by omega) (by omega)) J <|dt (Yn (ii := 2) 0 J J J Zi pV (by omega)) J <|tt (Zx (i := 5) J J J Tryz.zeroValue28 J J hw) J fun b_2 _ => tt (Zu (i := 5) J J J J J (by decide) J zT28 J J ⟨(Zh J), (Zh J), trivial⟩ J hw trivial) J fun _ _ => Zc <|Za <|Zb <|Zb <|Zd <|mv J J <|dt (Zy J J (i := 1) J Zi uT23) J <|dt (Xc J J J ⟨by omega, by omega⟩) J <|Zl J J <|Zc <|Za <|Zm <|Xv [(1, _), (8, _), (9, _), (10, _)] [(0, _), (1, _), (2, _), (4, _), (5, _)] (fun (j : Nat) => [(11, .int .i64 ((xs.length : Int) - 1 - (j : Int)))]) (fun (j : Nat) => [(3, osl 2 28 wv v (rsteps xs ys j))]) (fun (j : Nat) => (j ≤ xs.length - ys.length + 1)) (fun (j : Nat) => xs.length - ys.length + 1 - j) 0 (by first | omega | (dsimp only <;> omega)) ⟨by rw [show (xs.length : Int) - 1 - ((0 : Nat) : Int) = (xs.length : Int) - 1 by omega]; rfl, rfl, rfl, rfl, rfl, trivial⟩ K6 ?_
   rintro j hj
   simp only [List.cons_append, List.nil_append]
   refine Zb <|Zb <|Zd <|mv J J <|mv J J <|dt (Zy J J (i := 2) J Zi uT23) J <|dt (Xc J J J ⟨by omega, by omega⟩) J <|dt (Qb J J J) J <|Zc <|Za <|Zn J (fun h319 => ?_) (fun h319 => ?_)
   ·obtain ⟨hb1, hb2, hb3⟩ := rest_b hF (j := j) (by omega)
    have hRl := length_rsteps xs ys j
    refine Zk <|Za <|Zb <|Zm <|Zb <|Zd <|mv J J <|mv J J <|dt (Yf (ii := 3) (i := (xs.length - 1 - j)) J J J J (Ye pV) uT23 zT28 (by omega) (by omega)) J <|dt (Yn (ii := 3) 0 J J J (Ye pV) pV (by omega)) J <|tt (Zx (i := 6) J J J Tryz.zeroValue28 J J hw) J fun b_3 _ => tt (Zu (i := 6) J J J J J (by decide) J zT28 J J ⟨(Zh J), (Zh J), trivial⟩ J hw trivial) J fun _ _ => Zc <|Za <|Zb <|Zb <|Zd <|mv J J <|dt (Zy J J (i := 3) J (Ye pV) uT23) J <|mv J J <|Zc <|Za <|Zm <|Xv [(1, _), (8, _), (9, _), (10, _), (11, _), (12, _), (51, _)] [(0, _), (1, _), (2, _), (4, _), (5, _), (6, _)] (fun (i : Nat) => [(52, .int .i64 (i : Int))]) (fun (i : Nat) => [(3, osl 2 28 wv v (mul1 (rsteps xs ys j) (cf ys (ys.length - 1)) i))]) (fun (i : Nat) => (i ≤ xs.length)) (fun (i : Nat) => xs.length - i) 0 (by first | omega | (dsimp only <;> omega)) K8 ⟨by rw [mul1_zero]; rfl, rfl, rfl, rfl, rfl, rfl, rfl, trivial⟩ ?_
    rintro i hi
    simp only [List.cons_append, List.nil_append]
    have hg1 : i < xs.length → (mul1 (rsteps xs ys j) (cf ys (ys.length - 1)) i).getD i 0 = cf (rsteps xs ys j) i := fun h => mul1_get (by omega)
    have hl1 := length_mul1 (rsteps xs ys j) (cf ys (ys.length - 1)) i
    refine Zb <|Zd <|dt (Yw J J J) J <|Zc <|Za <|Zb <|Zn J (fun h322 => ?_) (fun h322 => ?_)
    ·refine Zk <|Za <|Zb <|Zm <|Zb <|Zd <|mv J J <|Zl J J <|Zc <|Za <|Xa (fun x => x = b) [(0, 0), (1, 0), (2, 0), (3, 0), (4, 0), (5, 0), (6, 0), (7, 1), (8, 0), (9, 3)] (by kernel_rfl) ?_ ?_
     ·kernel_rfl
     exact r0' J J J J (st1 4 J (Zv J J)) <|r0' J J J J (st1 4 J (Zv J J)) <|r0' J J J J (st1 4 J (Zv J J)) <|r0' J J J J (st1 4 J (Zv J J)) <|r0' J J J J (st1 4 J (Yf (ii := 3) (i := i) J J J J (Ye pV) uT23 zT28 J (by omega))) <|r0' J J J J (st1 4 J (Yn (ii := 3) 0 J J J (Ye pV) pV (by omega))) <|r0' J J J J (st1 4 J (Yc (i := 5) J J J iA28 zT28 J J)) <|r1' J J (Qd (n := 6) (i := 4) (dk_mul _ _ _ (by rw [hg1 (by omega)]; exact hb1 _) (hu.sz _) (by rw [hg1 (by omega)]; exact hb2 _ _)) J J J K3 cF114 J (by decide) Ze J hw J) fun _ _ => r0' J J J J (st1 4 J (Yf (ii := 3) (i := i) J J J J (Ye pV) uT23 zT28 J (by omega))) <|r3' J J (Qo (i := 3) (enc := wv) _ J J J J J J (by decide) pV (by omega) J hw) fun _ _ => Xn <|Xl <|Za <|Zd <|dt (Yg J J J ⟨by omega, by omega⟩) J <|mv J J <|Zc <|Yv (i + 1) (by first | omega | (dsimp only <;> omega)) (by first | omega | (dsimp only <;> omega)) K8 ⟨by rw [← mul1_set (by omega), ← hg1 (by omega)]; rfl, rfl, rfl, rfl, rfl, rfl, rfl, trivial⟩
    ·refine Yo <|Zt <|Zt <|Xr <|Za <|Zb ?_
     obtain rfl : i = xs.length := by omega
     refine Zd <|mv J J <|dt (Zy J J (i := 2) J Zi uT23) J <|mv J J <|Zc <|Za <|Zm <|Xv [(1, _), (8, _), (9, _), (10, _), (11, _), (12, _), (65, _), (66, _)] [(0, _), (1, _), (2, _), (4, _), (5, _), (6, _)] (fun (i : Nat) => [(67, .int .i64 (i : Int))]) (fun (i : Nat) => [(3, osl 2 28 wv v (sub2 ys (rsteps xs ys j) (cf ys (ys.length - 1)) (cf (rsteps xs ys j) (xs.length - 1 - j)) (xs.length - 1 - j - (ys.length - 1)) i))]) (fun (i : Nat) => (i ≤ ys.length)) (fun (i : Nat) => ys.length - i) 0 (by first | omega | (dsimp only <;> omega)) K9 ⟨by rw [← sub2_zero, hRl]; rfl, rfl, rfl, rfl, rfl, rfl, rfl, trivial⟩ ?_
     rintro i hi
     simp only [List.cons_append, List.nil_append]
     have hg2 : i < ys.length → (sub2 ys (rsteps xs ys j) (cf ys (ys.length - 1)) (cf (rsteps xs ys j) (xs.length - 1 - j)) (xs.length - 1 - j - (ys.length - 1)) i).getD ((xs.length - 1 - j - (ys.length - 1)) + i) 0 = cf (rsteps xs ys j) ((xs.length - 1 - j - (ys.length - 1)) + i) * (cf ys (ys.length - 1)) := fun h => sub2_get (by omega)
     have hl2 := length_sub2 ys (rsteps xs ys j) (cf ys (ys.length - 1)) (cf (rsteps xs ys j) (xs.length - 1 - j)) (xs.length - 1 - j - (ys.length - 1)) i
     refine Zb <|Zd <|dt (Yw J J J) J <|Zc <|Za <|Zb <|Zn J (fun h325 => ?_) (fun h325 => ?_)
     ·refine Zk <|Za <|Zb <|Zm <|Zb <|Zd <|mv J J <|dt (Yf (ii := 2) J J J J Zi uT23 zT28 J (by first | omega | (simp only [List.length_set]; omega))) J <|dt (Yn (ii := 2) 0 J J J Zi pV (by first | omega | (simp only [List.length_set]; omega))) J <|tt (Zx (i := 7) J J J Tryz.zeroValue28 J J hw) J fun b_4 _ => Zl J J <|tt (Zu (i := 7) J J J J J (by decide) J zT28 J J ⟨(Zh J), (Zh J), trivial⟩ J hw trivial) J fun _ _ => Zc <|Za <|Zb <|Zd <|mv J J <|mv J J <|dt (Zy J J (i := 2) J Zi uT23) J <|dt (Xc J J J ⟨by omega, by omega⟩) J <|dt (Xc J J J ⟨by omega, by omega⟩) J <|mv J J <|dt (Yg J J J ⟨by omega, by omega⟩) J <|Zl J J <|Zc <|Za <|Xa (fun x => x = b) [(0, 0), (1, 0), (2, 0), (3, 0), (4, 0), (5, 0), (6, 0), (7, 0), (8, 1), (9, 1), (10, 0), (11, 3)] (by kernel_rfl) ?_ ?_
      ·kernel_rfl
      refine r0' J J J J (st1 4 J (Zv J J)) <|r0' J J J J (st1 4 J (Zv J J)) <|r0' J J J J (st1 4 J (Zv J J)) <|r0' J J J J (st1 4 J (Zv J J)) <|r0' J J J J (st1 4 J (Yf (ii := 3) (i := ((xs.length - 1 - j - (ys.length - 1)) + i)) J J J J (Ye pV) uT23 zT28 (by omega) (by omega))) <|r0' J J J J (st1 4 J (Yn (ii := 3) 0 J J J (Ye pV) pV (by omega))) <|r0' J J J J (st1 4 J (Yc (i := 6) J J J iA28 zT28 J J)) <|r0' J J J J (st1 4 J (Yc (i := 7) J J J iA28 zT28 J J)) <|r1' J J (Qd (n := 7) (i := 4) (dk_mul _ _ _ (hb1 _) (hu.sz _) (hb2 _ _)) J J J K3 cF114 J (by decide) Ze J hw J) fun _ _ => r1' J J (Qd (n := 7) (i := 4) (dk_sub _ _ _ (by rw [hg2 (by omega)]; exact hb2 _ _) (hb2 _ _) (by rw [hg2 (by omega)]; exact hb3 _ _ _ _)) J J J K3 cF119 J (by decide) Ze J hw J) fun _ _ => r0' J J J J (st1 4 J (Yf (ii := 3) (i := ((xs.length - 1 - j - (ys.length - 1)) + i)) J J J J (Ye pV) uT23 zT28 (by omega) (by omega))) <|r3' J J (Qo (i := 3) (enc := wv) _ J J J J J J (by decide) pV (by omega) J hw) fun _ _ => Xn <|Xl <|Za <|Zd <|dt (Yg J J J ⟨by omega, by omega⟩) J <|mv J J <|Zc ?_
      exact Yv (i + 1) (by first | omega | (dsimp only <;> omega)) (by first | omega | (dsimp only <;> omega)) K9 ⟨by rw [← sub2_set (by omega), ← hg2 (by omega)]; rfl, rfl, rfl, rfl, rfl, rfl, rfl, trivial⟩
     ·refine Yo <|Zt <|Zt <|Xr <|Xl <|Za <|Zd <|mv J J <|dt (Xc J J J ⟨by omega, by omega⟩) J <|Zl J J <|Zc ?_
      obtain rfl : i = ys.length := by omega
      exact Yv (j + 1) (by first | omega | (dsimp only <;> omega)) (by first | omega | (dsimp only <;> omega)) ⟨by rw [show (xs.length : Int) - 1 - ((j + 1 : Nat) : Int) = (xs.length : Int) - 1 - (j : Int) - 1 by omega]; rfl, rfl, rfl, rfl, rfl, trivial⟩ ⟨by rfl, rfl, rfl, rfl, rfl, rfl, trivial⟩
   ·refine Yo <|Zt <|Zt <|Xr <|Za <|Zb ?_
    obtain rfl : j = xs.length - ys.length + 1 := by omega
    exact Yh (Xk 3 J J pV) <|Zd <|mv J J <|tt (Qd (n := 8) (i := 4) (d_done_b _ _ _ (sz_prest hF)) J J J K2 cF115 J (by decide) (Zf 3 J J J Ze) J hw trivial) J fun _ _ => dt (Zw J J J) J <|dt (Zw J J J) J <|Zl J J <|Zl J J <|Zc <|Za <|Zq <|Zr (.inl J) hsc _ _ (fun a w hs => Xp hs Tryz.results116 J J) J trivial J (Yi 8 J J J (by unfold prest; rw [if_neg (by omega)] <;> rfl) Zj)
theorem poly_divide (v u : Value) (xs ys : List Int) (hv : Vp xs) (hu : Vp ys) (hd : derr xs ys = 0) : Cal Tryz.prog 67 #[v, u] [slp 2 wv v xs, slp 2 wv u ys] true (G := Value) (fun r => True) (fun r => .tuple #[r, .int .i64 (if pdv xs ys then 0 else 10)]) (fun r => [slp 2 wv r (if pdv xs ys then pquoz xs ys else [])]) := by
 refine Ya Tryz.func67 J Tryz.ntmps67 J K2 ?_
 intro w0 sc hw hsc
 simp only [Zp, Zo]
 have hlen := hv.len
 have hlen2 := hu.len
 have hm1 := msz_le hv.sz
 have hm2 := msz_le hu.sz
 obtain ⟨hm0, hF0⟩ := derr_ok hd
 have hdl := dlow_eq (p := xs) hm0
 have hyz : cf ys (ys.length - 1) ≠ 0 := hu.tr.mem (fun e => hm0 (by rw [e]; rfl))
 refine Zb <|Zd <|Zl J J <|Zl J J <|Zc <|Za <|Zb <|Zd <|mv J J <|mv J J <|tt (Zg (n := 2) (poly_dividing _ _ _ _ hv hu) J J J K2 cF117 (Zf 1 J J J (Zf 2 J J J Ze)) J hw) J fun _ _ => mv J J <|dt (Zw J J J) J <|dt (Zw J J J) J <|Zl J J <|Zl J J <|Zc <|Za <|Zb <|Zm <|Zb <|Zd <|mv J J <|dt (Ys J J J) J <|Zl J J <|Zc <|Za <|Zn J (fun h337 => ?_) (fun h337 => ?_)
 ·exfalso; exact h337 hd
 ·refine Zb <|Zd <|mv J J <|dt (Zy J J (i := 1) J Zi uT23) J <|dt (Xu J J J) J <|Zl J J <|Zc <|Za <|Zn J (fun h339 => ?_) (fun h339 => ?_)
  ·refine Zb <|Zd <|Zl J J <|Zl J J <|Zc <|Za <|Zq <|Qj <|Yp ?_
   have hx0 : xs = [] := List.eq_nil_of_length_eq_zero (by omega)
   have hp : pdv xs ys := .inl hx0
   exact Zr (.inl J) hsc _ _ (fun a w hs => Xp hs Tryz.results67 J J) (by rw [if_pos hp]) trivial J (give_none (by rw [if_pos hp, hx0]; rfl) Zj)
  ·have hnx : xs ≠ [] := fun e => by rw [e] at h339; simp at h339
   refine Zb <|Zd <|mv J J <|Zl J J <|Zc <|Za <|Qn J (fun h341 => ?_) (fun h341 => ?_)
   ·have hlt : xs.length < ys.length := by rw [hdl] at h341; simpa using h341
    refine Zb <|Zd <|Zl J J <|Zl J J <|Zc <|Za <|Zq <|Qj <|Yp ?_
    have hp : ¬ pdv xs ys := fun h => by rcases h with h | h; (exact hnx h); (have := h.1; omega)
    exact Zr (.inl J) hsc _ _ (fun a w hs => Xp hs Tryz.results67 J J) (by rw [if_neg hp]) trivial J (give_none (if_neg hp) Zj)
   ·have hge : ys.length ≤ xs.length := by rw [hdl] at h341; simpa using h341
    have hF := hF0 hge
    refine Zk <|Xl <|Za <|Zb <|Zd <|tt (Zx (i := 3) J J J Tryz.zeroValue146 J J hw) J fun b _ => Zc <|Za <|Zb <|Zd <|mv J J <|tt (t_callo (n := 4) (clone_p _ _ (by omega)) J J J K1 cF118 (Zf 1 J J J Ze) J hw) J fun v _ => Zl J J <|Zc <|Za <|Zb <|Zd <|mv J J <|dt (Zy J J (i := 1) J Zi uT23) J <|mv J J <|dt (Zy J J (i := 2) J Zi uT23) J <|dt (Xc J J J ⟨by omega, by omega⟩) J <|dt (Yg J J J ⟨by omega, by omega⟩) J <|tt (t_mkn (i := 5) (n := (xs.length - ys.length + 1)) (by_ := 24) (enc := wv) 0 J J J J J (by omega) uT23 Tryz.ti28 J pV.cells pV.pos J J (by omega) (by decide) J hw) J fun v_2 _ => Zl J J <|Zc <|Za <|Zb <|Zb <|Zd <|mv J J <|dt (Zy J J (i := 5) J (Ye pV) uT23) J <|dt (Xc J J J ⟨by simp only [List.length_replicate]; omega, by simp only [List.length_replicate]; omega⟩) J <|Zl J J <|Zc <|Za <|Zm ?_
    refine Xv [(1, _), (8, _), (9, _), (10, _)] [(0, _), (1, _), (2, _), (3, _)] (fun (j : Nat) => [(11, .int .i64 ((xs.length : Int) - (ys.length : Int) - (j : Int)))]) (fun (j : Nat) => [(4, osl 2 28 wv v (dsteps xs ys j)), (5, osl 2 28 wv v_2 (dout xs ys j))]) (fun (j : Nat) => (j ≤ xs.length - ys.length + 1) ∧ (∀ k, xs.length - ys.length < k + j → k ≤ xs.length - ys.length → dexact xs ys k)) (fun (j : Nat) => xs.length - ys.length + 1 - j) 0 ⟨by first | omega | (dsimp only <;> omega), fun k h1 h2 => by omega⟩ ⟨by simp only [List.length_replicate]; exact congrArg some (i64_eq (by omega)), rfl, rfl, rfl, rfl, trivial⟩ ⟨J, by rw [dout_zero]; rfl, rfl, rfl, rfl, rfl, trivial⟩ ?_
    rintro j ⟨hj, hx⟩
    simp only [List.cons_append, List.nil_append]
    have hol := length_dout xs ys j
    refine Zb <|Zb <|Zd <|mv J J <|dt (Qb J J J) J <|Zc <|Za <|Zn J (fun h347 => ?_) (fun h347 => ?_)
    ·obtain ⟨hb1, hb5⟩ := div_b hF (j := j) (by omega) hx
     have hRl := length_dsteps xs ys j
     have hi1 : xs.length - ys.length - j + ys.length - 1 < xs.length := by omega
     refine Zk <|Za <|Zb <|Zm <|e_jn [(1, _), (8, _), (9, _), (10, _), (11, _)] [(0, _), (4, _), (5, _), (1, _), (2, _), (3, _)] (fun (q : Nat × Nat) => [(12, .pointer (some ⟨q.1, 0, none⟩)), (13, .pointer (some ⟨q.2, 0, none⟩)), (14, .int .i64 0)]) (fun (q : Nat × Nat) => [(97, box q.1 28 (wc (clip (dq ys (dsteps xs ys j) (xs.length - ys.length - j))))), (98, box q.2 28 (wc (clip (cf (dsteps xs ys j) ((xs.length - ys.length - j) + ys.length - 1) % cf ys (ys.length - 1)))))]) (fun (q : Nat × Nat) => True) K5 K6 ?_ ?_
     ·refine e_dregf [2, 4] [23] (by kernel_rfl) <|Yu (n := 10) [(0, 0), (1, 0), (2, 0), (3, 0), (4, 0), (5, 0), (6, 0), (7, 0), (8, 0), (9, 0), (10, 0), (11, 0), (12, 0), (13, 0)] (by kernel_rfl) <|r0' J J J J (stf (Zv J J) K2) <|r0' J J J J (stf (Zv J J) K2) <|r0' J J J J (stf (Zv J J) K2) <|r0' J J J J (stf (Zy J J (i := 2) J Zi uT23) K2) <|r0' J J J J (stf (Yg J J J ⟨by omega, by omega⟩) K2) <|r0' J J J J (stf (Xc J J J ⟨by omega, by omega⟩) K2) <|r0' J J J J (stf (Yf (ii := 4) (i := ((xs.length - ys.length - j) + ys.length - 1)) J J J J (Ye pV) uT23 zT28 (by omega) (by omega)) K2) <|r0' J J J J (stf (Yn (ii := 4) 0 J J J (Ye pV) pV (by omega)) K2) <|r0' J J J J (stf (Zv J J) K2) <|r0' J J J J (stf (Zv J J) K2) <|r0' J J J J (stf (Zy J J (i := 2) J Zi uT23) K2) <|r0' J J J J (stf (Xc J J J ⟨by omega, by omega⟩) K2) <|r0' J J J J (stf (Yf (ii := 2) (i := (ys.length - 1)) J J J J Zi uT23 zT28 (by omega) (by omega)) K2) <|r0' J J J J (stf (Yn (ii := 2) 0 J J J Zi pV (by omega)) K2) <|Xh <|a_br3 (n := 9) 14 19 20 (by kernel_rfl) ?_ ?_ ?_
      ·refine Xi J J (Zg (n := 5) (wide_quo _ _ (hb1 _) (hu.sz _) hyz) J J J K2 cF53 Ze J hw) fun _ _ => Yu (n := 5) [(15, 0), (16, 0), (17, 0), (18, 0)] (by kernel_rfl) <|r0' J J J J (stf (Zv J J) K2) <|r0' J J J J (stf (Zw J J J) K2) <|r0' J J J J (stf (Zw J J J) K2) <|r0' J J J J (stf (Zw J J J) K2) <|Xh <|Ql (n := 4) 19 20 (by kernel_rfl) ?_ ?_
       ·exact Xi J J (Yz (i := 97) J J J Tryz.zeroValue28 J J hw K2) fun b_2 hoff => Yu (n := 0) [(20, 1), (21, 1), (22, 1), (23, 3)] (by kernel_rfl) <|r1' J J (Yz (i := 98) J J J Tryz.zeroValue28 J J hw K2) fun b_3 hoff_2 => r1' J J (Zu (i := 97) J J J J J (by decide) J zT28 J J ⟨(Zh J), (Zh J), trivial⟩ J hw hoff) fun _ _ => r1' J J (Zu (i := 98) J J J J J (by decide) J zT28 J J ⟨(Zh J), (Zh J), trivial⟩ J hw hoff_2) fun _ _ => r3' J J (Qa (Qf J J) J J) fun _ _ => Xh <|Xg (by kernel_rfl) <|Xq (_, _) trivial K8 K8
       ·exact Xi J J (Yz (i := 98) J J J Tryz.zeroValue28 J J hw K2) fun b_4 hoff_3 => Yu (n := 0) [(19, 1), (21, 1), (22, 1), (23, 3)] (by kernel_rfl) <|r1' J J (Yz (i := 97) J J J Tryz.zeroValue28 J J hw K2) fun b_5 hoff_4 => r1' J J (Zu (i := 97) J J J J J (by decide) J zT28 J J ⟨(Zh J), (Zh J), trivial⟩ J hw hoff_4) fun _ _ => r1' J J (Zu (i := 98) J J J J J (by decide) J zT28 J J ⟨(Zh J), (Zh J), trivial⟩ J hw hoff_3) fun _ _ => r3' J J (Qa (Qf J J) J J) fun _ _ => Xh <|Xg (by kernel_rfl) <|Xq (_, _) trivial K8 K8
      ·refine Xi J J (Yz (i := 97) J J J Tryz.zeroValue28 J J hw K2) fun b_6 hoff_5 => Ql (n := 8) 14 20 (by kernel_rfl) ?_ ?_
       ·exact Xi J J (Zg (n := 5) (wide_quo _ _ (hb1 _) (hu.sz _) hyz) J J J K2 cF53 Ze J hw) fun _ _ => Yu (n := 0) [(15, 0), (16, 0), (17, 0), (18, 0), (20, 1), (21, 1), (22, 1), (23, 3)] (by kernel_rfl) <|r0' J J J J (stf (Zv J J) K2) <|r0' J J J J (stf (Zw J J J) K2) <|r0' J J J J (stf (Zw J J J) K2) <|r0' J J J J (stf (Zw J J J) K2) <|r1' J J (Yz (i := 98) J J J Tryz.zeroValue28 J J hw K2) fun b_7 hoff_6 => r1' J J (Zu (i := 97) J J J J J (by decide) J zT28 J J ⟨(Zh J), (Zh J), trivial⟩ J hw hoff_5) fun _ _ => r1' J J (Zu (i := 98) J J J J J (by decide) J zT28 J J ⟨(Zh J), (Zh J), trivial⟩ J hw hoff_6) fun _ _ => r3' J J (Qa (Qf J J) J J) fun _ _ => Xh <|Xg (by kernel_rfl) <|Xq (_, _) trivial K8 K8
       ·exact Xi J J (Yz (i := 98) J J J Tryz.zeroValue28 J J hw K2) fun b_8 hoff_7 => Yu (n := 0) [(14, 1), (15, 0), (16, 0), (17, 0), (18, 0), (21, 1), (22, 1), (23, 3)] (by kernel_rfl) <|r1' J J (Zg (n := 5) (wide_quo _ _ (hb1 _) (hu.sz _) hyz) J J J K2 cF53 Ze J hw) fun _ _ => r0' J J J J (stf (Zv J J) K2) <|r0' J J J J (stf (Zw J J J) K2) <|r0' J J J J (stf (Zw J J J) K2) <|r0' J J J J (stf (Zw J J J) K2) <|r1' J J (Zu (i := 97) J J J J J (by decide) J zT28 J J ⟨(Zh J), (Zh J), trivial⟩ J hw hoff_5) fun _ _ => r1' J J (Zu (i := 98) J J J J J (by decide) J zT28 J J ⟨(Zh J), (Zh J), trivial⟩ J hw hoff_7) fun _ _ => r3' J J (Qa (Qf J J) J J) fun _ _ => Xh <|Xg (by kernel_rfl) <|Xq (_, _) trivial K8 K8
      ·refine Xi J J (Yz (i := 98) J J J Tryz.zeroValue28 J J hw K2) fun b_9 hoff_8 => Ql (n := 8) 14 19 (by kernel_rfl) ?_ ?_
       ·exact Xi J J (Zg (n := 5) (wide_quo _ _ (hb1 _) (hu.sz _) hyz) J J J K2 cF53 Ze J hw) fun _ _ => Yu (n := 0) [(15, 0), (16, 0), (17, 0), (18, 0), (19, 1), (21, 1), (22, 1), (23, 3)] (by kernel_rfl) <|r0' J J J J (stf (Zv J J) K2) <|r0' J J J J (stf (Zw J J J) K2) <|r0' J J J J (stf (Zw J J J) K2) <|r0' J J J J (stf (Zw J J J) K2) <|r1' J J (Yz (i := 97) J J J Tryz.zeroValue28 J J hw K2) fun b_10 hoff_9 => r1' J J (Zu (i := 97) J J J J J (by decide) J zT28 J J ⟨(Zh J), (Zh J), trivial⟩ J hw hoff_9) fun _ _ => r1' J J (Zu (i := 98) J J J J J (by decide) J zT28 J J ⟨(Zh J), (Zh J), trivial⟩ J hw hoff_8) fun _ _ => r3' J J (Qa (Qf J J) J J) fun _ _ => Xh <|Xg (by kernel_rfl) <|Xq (_, _) trivial K8 K8
       ·exact Xi J J (Yz (i := 97) J J J Tryz.zeroValue28 J J hw K2) fun b_11 hoff_10 => Yu (n := 0) [(14, 1), (15, 0), (16, 0), (17, 0), (18, 0), (21, 1), (22, 1), (23, 3)] (by kernel_rfl) <|r1' J J (Zg (n := 5) (wide_quo _ _ (hb1 _) (hu.sz _) hyz) J J J K2 cF53 Ze J hw) fun _ _ => r0' J J J J (stf (Zv J J) K2) <|r0' J J J J (stf (Zw J J J) K2) <|r0' J J J J (stf (Zw J J J) K2) <|r0' J J J J (stf (Zw J J J) K2) <|r1' J J (Zu (i := 97) J J J J J (by decide) J zT28 J J ⟨(Zh J), (Zh J), trivial⟩ J hw hoff_10) fun _ _ => r1' J J (Zu (i := 98) J J J J J (by decide) J zT28 J J ⟨(Zh J), (Zh J), trivial⟩ J hw hoff_8) fun _ _ => r3' J J (Qa (Qf J J) J J) fun _ _ => Xh <|Xg (by kernel_rfl) <|Xq (_, _) trivial K8 K8
     ·rintro ⟨b7, b8⟩ -
      simp only [List.cons_append, List.nil_append]
      refine Zb <|Zb <|Zd <|mv J J <|dt (Ys J J J) J <|Zc <|Za <|Zn J (fun h349 => ?_) (fun h349 => ?_)
      ·exfalso; exact h349 rfl
      ·refine Zk <|Za <|Zb <|Zb <|Zd <|dt (Yc (i := 98) J J J iA28 zT28 J J) J <|tt (Zg (n := 5) (wide_sign _ (clip_bl _)) J J J K1 cF80 Ze J hw) J fun _ _ => dt (Ys J J J) J <|Zc <|Za <|Zn J (fun h352 => ?_) (fun h352 => ?_)
       ·have hne : ¬ dexact xs ys (xs.length - ys.length - j) := fun he => h352 (by rw [clip_mod hyz (hu.sz _), (dexact_j (by omega)).1 he]; rfl)
        refine Zb <|Zd <|Zl J J <|Zl J J <|Zc <|Za <|Zq <|Yp <|Qj <|Yp <|Yp <|Qj <|Yp ?_
        have hp : ¬ pdv xs ys := fun h => by rcases h with h | h; (exact hnx h); (exact hne (h.2.1 _ (by omega)))
        exact Zr (.inl J) hsc _ _ (fun a w hs => Xp hs Tryz.results67 J J) (by rw [if_neg hp]) trivial J (give_none (if_neg hp) Zj)
       ·have hde : dexact xs ys (xs.length - ys.length - j) := (dexact_j (by omega)).2 (by have h0 := Decidable.byContradiction h352; rw [clip_mod hyz (hu.sz _)] at h0; exact Int.sign_eq_zero_iff_zero.1 h0)
        obtain ⟨hb2, hb3, hb4⟩ := hb5 hde
        refine Yh (s_eqp 97 (q := box b7 28 (wc (dq ys (dsteps xs ys j) (xs.length - ys.length - j)))) (by rw [clip_ok hb2]) J J) <|Zk <|Za <|Zb <|Zd <|mv J J <|mv J J <|dt (Yc (i := 97) J J J iA28 zT28 J J) J <|dt (Yf (ii := 5) (i := (xs.length - ys.length - j)) J J J J (Ye pV) uT23 zT28 (by omega) (by omega)) J <|tt (Qo (i := 5) (enc := wv) _ J J J J J J (by decide) pV (by omega) J hw) J fun _ _ => Zc <|Za <|Zb <|Zd <|mv J J <|dt (Zy J J (i := 2) J Zi uT23) J <|mv J J <|Zc <|Za <|Zm <|Xv [(1, _), (8, _), (9, _), (10, _), (11, _), (12, _), (78, _), (79, _)] [(0, _), (97, _), (98, _), (5, _), (1, _), (2, _), (3, _)] (fun (i : Nat) => [(80, .int .i64 (i : Int))]) (fun (i : Nat) => [(4, osl 2 28 wv v (dsub ys (dsteps xs ys j) (dq ys (dsteps xs ys j) (xs.length - ys.length - j)) (xs.length - ys.length - j) i))]) (fun (i : Nat) => (i ≤ ys.length)) (fun (i : Nat) => ys.length - i) 0 (by first | omega | (dsimp only <;> omega)) K9 ⟨by rw [← dsub_zero]; rfl, rfl, rfl, rfl, rfl, rfl, rfl, rfl, trivial⟩ ?_
        rintro i hi
        simp only [List.cons_append, List.nil_append]
        have hg2 : i < ys.length → (dsub ys (dsteps xs ys j) (dq ys (dsteps xs ys j) (xs.length - ys.length - j)) (xs.length - ys.length - j) i).getD ((xs.length - ys.length - j) + i) 0 = cf (dsteps xs ys j) ((xs.length - ys.length - j) + i) := fun h => dsub_get (by omega)
        have hl2 := length_dsub ys (dsteps xs ys j) (dq ys (dsteps xs ys j) (xs.length - ys.length - j)) (xs.length - ys.length - j) i
        refine Zb <|Zd <|dt (Yw J J J) J <|Zc <|Za <|Zb <|Zn J (fun h356 => ?_) (fun h356 => ?_)
        ·refine Zk <|Za <|Zb <|Zm <|Zb <|Zd <|mv J J <|dt (Yf (ii := 2) J J J J Zi uT23 zT28 J (by first | omega | (simp only [List.length_set]; omega))) J <|dt (Yn (ii := 2) 0 J J J Zi pV (by first | omega | (simp only [List.length_set]; omega))) J <|tt (Zx (i := 6) J J J Tryz.zeroValue28 J J hw) J fun b_12 _ => Zl J J <|tt (Zu (i := 6) J J J J J (by decide) J zT28 J J ⟨(Zh J), (Zh J), trivial⟩ J hw trivial) J fun _ _ => Zc <|Za <|Xa (fun x => x = b) [(0, 0), (1, 0), (2, 0), (3, 0), (4, 0), (5, 0), (6, 0), (7, 0), (8, 0), (9, 0), (10, 0), (11, 0), (12, 1), (13, 1), (14, 0), (15, 3)] (by kernel_rfl) ?_ ?_
         ·kernel_rfl
         refine r0' J J J J (st1 3 J (Zv J J)) <|r0' J J J J (st1 3 J (Zv J J)) <|r0' J J J J (st1 3 J (Zv J J)) <|r0' J J J J (st1 3 J (Yg J J J ⟨by omega, by omega⟩)) <|r0' J J J J (st1 3 J (Zv J J)) <|r0' J J J J (st1 3 J (Zv J J)) <|r0' J J J J (st1 3 J (Zv J J)) <|r0' J J J J (st1 3 J (Yg J J J ⟨by omega, by omega⟩)) <|r0' J J J J (st1 3 J (Yf (ii := 4) (i := ((xs.length - ys.length - j) + i)) J J J J (Ye pV) uT23 zT28 (by omega) (by omega))) <|r0' J J J J (st1 3 J (Yn (ii := 4) 0 J J J (Ye pV) pV (by omega))) <|r0' J J J J (st1 3 J (Yc (i := 97) J J J iA28 zT28 J J)) <|r0' J J J J (st1 3 J (Yc (i := 6) J J J iA28 zT28 J J)) <|r1' J J (Qd (n := 6) (i := 3) (dk_mul _ _ _ hb2 (hu.sz _) (hb3 _)) J J J K3 cF114 J (by decide) Ze J hw J) fun _ _ => r1' J J (Qd (n := 6) (i := 3) (dk_sub _ _ _ (by rw [hg2 (by omega)]; exact hb1 _) (hb3 _) (by rw [hg2 (by omega)]; exact hb4 _ _)) J J J K3 cF119 J (by decide) Ze J hw J) fun _ _ => r0' J J J J (st1 3 J (Yf (ii := 4) (i := ((xs.length - ys.length - j) + i)) J J J J (Ye pV) uT23 zT28 (by omega) (by omega))) <|r3' J J (Qo (i := 4) (enc := wv) _ J J J J J J (by decide) pV (by omega) J hw) fun _ _ => Xn <|Xl <|Za <|Zd <|dt (Yg J J J ⟨by omega, by omega⟩) J <|mv J J <|Zc ?_
         exact Yv (i + 1) (by first | omega | (dsimp only <;> omega)) (by first | omega | (dsimp only <;> omega)) K9 ⟨by rw [← dsub_set (by omega), ← hg2 (by omega)]; rfl, rfl, rfl, rfl, rfl, rfl, rfl, rfl, trivial⟩
        ·refine Yo <|Zt <|Zt <|Xr <|Xl <|Za <|Zd <|mv J J <|dt (Xc J J J ⟨by omega, by omega⟩) J <|Zl J J <|Zc ?_
         obtain rfl : i = ys.length := by omega
         exact Yv (j + 1) ⟨by first | omega | (dsimp only <;> omega), fun k h1 h2 => by rcases Nat.lt_or_ge (xs.length - ys.length) (k + j) with h3 | h3; (exact hx k h3 h2); (rw [show k = xs.length - ys.length - j by omega]; exact hde)⟩ (by first | omega | (dsimp only <;> omega)) ⟨by rw [show (xs.length : Int) - (ys.length : Int) - ((j + 1 : Nat) : Int) = (xs.length : Int) - (ys.length : Int) - (j : Int) - 1 by omega]; rfl, rfl, rfl, rfl, rfl, trivial⟩ ⟨by rfl, by rw [← dout_set (by omega)]; rfl, rfl, rfl, rfl, rfl, trivial⟩
    ·refine Yo <|Zt <|Zt <|Xr <|Za <|Zb <|Zb ?_
     obtain rfl : j = xs.length - ys.length + 1 := by omega
     have hall : ∀ k, k ≤ xs.length - ys.length → dexact xs ys k := fun k hk => hx k (by omega) hk
     refine Yh (Xk 4 J J pV) <|Zd <|dt (Yk J J uT146 J zT144 J J) J <|dt (Yk J J uT144 J zT29 J J) J <|dt (Xb (i := 3) J J J iA29 J) J <|dt (Xu J J J) J <|mv J J <|Xo (d := 105) J (fun s360 => ?_) (fun s360 => ?_)
     ·refine Yj (Zv J J) J J J J <|gtt (Zg (n := 7) (poly_trim _ _ (sz_dlast hF hall)) J J J K1 cF120 (Zf 4 J J J Ze) J hw) J J J J fun _ _ => Yj (Zy J J (i := 7) J Zi uT23) J J J J <|Yj (Xd J J J) J J J J <|dt (Ym J J J) J <|Zc <|Za <|Zn J (fun h360 => ?_) (fun h360 => ?_)
      ·refine Zb <|Zd <|Zl J J <|Zl J J <|Zc <|Za <|Zq <|Yp ?_
       have hp : ¬ pdv xs ys := fun h => by rcases h with h | h; (exact hnx h); (rw [h.2.2] at h360; simp at h360)
       exact Zr (.inl J) hsc _ _ (fun a w hs => Xp hs Tryz.results67 J J) (by rw [if_neg hp]) trivial J (give_none (if_neg hp) Zj)
      ·refine Zk <|Za <|Zb <|Yh (Xk 5 J J pV) <|Zd <|mv J J <|tt (Qd (n := 8) (i := 3) (d_done_b _ _ _ (sz_pquo hF hall _)) J J J K2 cF115 J (by decide) (Zf 5 J J J Ze) J hw trivial) J fun _ _ => dt (Zw J J J) J <|dt (Zw J J J) J <|Zl J J <|Zl J J <|Zc <|Za <|Zq ?_
       have hp : pdv xs ys := .inr ⟨hge, hall, List.eq_nil_of_length_eq_zero (by omega)⟩
       exact Zr (.inl J) hsc _ _ (fun a w hs => Xp hs Tryz.results67 J J) (by rw [if_pos hp] <;> rfl) trivial J (Yi 8 J J J (by rw [if_pos hp, pquoz_eq hnx, ← dout_all] <;> rfl) Zj)
     ·exfalso; exact s360 rfl
theorem poly_gcd (v u : Value) (xs ys : List Int) (hv : Vp xs) (hu : Vp ys) (F : Nat) (hg : ¬ gfull xs ys) (hok : eok F (gA xs ys) (gB xs ys)) : Cal Tryz.prog 66 #[v, u] [slp 2 wv v xs, slp 2 wv u ys] true (G := Value) (fun r => True) (fun r => .tuple #[r, .int .i64 0]) (fun r => [slp 2 wv r (pgcd F xs ys)]) := by
 refine Ya Tryz.func66 J Tryz.ntmps66 J K2 ?_
 intro w0 sc hw hsc
 simp only [Zp, Zo]
 have hlen := hv.len
 have hlen2 := hu.len
 have hm1 := msz_le hv.sz
 have hm2 := msz_le hu.sz
 have hpx := length_pprim xs
 have hpy := length_pprim ys
 have hN2 : (max xs.length ys.length + 2) * (max xs.length ys.length + 2) ≤ 27 * 27 := Nat.mul_le_mul (by omega) (by omega)
 have hN3 : (max xs.length ys.length + 2) * (max xs.length ys.length + 2) * (max (msz xs) (msz ys) + 8) ≤ 27 * 27 * 65544 := Nat.mul_le_mul hN2 (by omega)
 have hN4 : (max (xs.length : Int) (ys.length : Int) + 2) * (max (xs.length : Int) (ys.length : Int) + 2) = (((max xs.length ys.length + 2) * (max xs.length ys.length + 2) : Nat) : Int) := by rw [Int.natCast_mul, show (((max xs.length ys.length + 2) : Nat) : Int) = (max (xs.length : Int) (ys.length : Int) + 2) by omega]
 have hN5 : (max (xs.length : Int) (ys.length : Int) + 2) * (max (xs.length : Int) (ys.length : Int) + 2) * (max (msz xs : Int) (msz ys : Int) + 8) = (((max xs.length ys.length + 2) * (max xs.length ys.length + 2) * (max (msz xs) (msz ys) + 8) : Nat) : Int) := by rw [hN4, Int.natCast_mul ((max xs.length ys.length + 2) * (max xs.length ys.length + 2)), show ((max (msz xs) (msz ys) + 8 : Nat) : Int) = max (msz xs : Int) (msz ys : Int) + 8 by omega]
 refine Zb <|Zd <|Zl J J <|Zl J J <|Zc <|Za <|Zb <|Zb <|Zd <|mv J J <|tt (Zg (n := 2) (poly_valid_ok _ _ (by assumption)) J J J K1 cF56 (Zf 1 J J J Ze) J hw) J fun _ _ => dt (Xf J J) J <|mv J J <|Yj (Zv J J) J J J J <|gtt (Zg (n := 2) (poly_valid_ok _ _ (by assumption)) J J J K1 cF56 (Zf 2 J J J Ze) J hw) J J J J fun _ _ => Yj (Xf J J) J J J J <|dt (Zs J J J) J <|Zc <|Za <|Yd J <|Zk <|Za <|Zb <|Zb <|Zd <|mv J J <|dt (Zy J J (i := 1) J Zi uT23) J <|mv J J <|dt (Zy J J (i := 2) J Zi uT23) J <|dt (d_max J J J) J <|dt (Yg J J J ⟨by omega, by omega⟩) J <|Zl J J <|Zc <|Za <|e_jn [(0, _), (1, _)] [(0, _), (1, _), (2, _)] (fun (_ : Unit) => [(46, .bool (decide (gfull xs ys)))]) (fun (_ : Unit) => []) (fun (_ : Unit) => True) K2 K3 ?_ ?_
 ·refine Zd <|mv J J <|dt (Zy J J (i := 1) J Zi uT23) J <|dt (Xd J J J) J <|mv J J <|Xo (d := 29) J (fun s371 => ?_) (fun s371 => ?_)
  ·refine Yj (Zv J J) J J J J <|Yj (Zy J J (i := 2) J Zi uT23) J J J J <|Yj (Xd J J J) J J J J <|dt (Ym J J J) J <|mv J J <|Xo (d := 34) J (fun s371_2 => ?_) (fun s371_2 => ?_)
   ·exact Yj (Zv J J) J J J J <|Yj (Zv J J) J J J J <|Yj (d_mul J J J (by rw [hN4]; exact ⟨by omega, by omega⟩)) J J J J <|Yj (Zv J J) J J J J <|gtt (Zg (n := 2) (poly_size _ _ (by first | exact hv.sz | exact hu.sz)) J J J K1 cF110 (Zf 1 J J J Ze) J hw) J J J J fun _ _ => Yj (Zv J J) J J J J <|gtt (Zg (n := 2) (poly_size _ _ (by first | exact hv.sz | exact hu.sz)) J J J K1 cF110 (Zf 2 J J J Ze) J hw) J J J J fun _ _ => Yj (d_max J J J) J J J J <|Yj (Yg J J J ⟨by omega, by omega⟩) J J J J <|Yj (d_mul J J J (by rw [hN5]; exact ⟨by omega, by omega⟩)) J J J J <|Yj (Xd J J J) J J J J <|dt (Ym J J J) J <|Zc <|Xq () trivial ⟨by first | (rw [hN5]; exact congrArg some (congrArg Value.bool (decide_eq_decide.2 ⟨fun h => ⟨by omega, by omega, by omega⟩, fun h => by have := h.2.2; omega⟩))) | exact congrArg some (congrArg Value.bool (decide_eq_false (fun h => by have h1 := h.1; have h2 := h.2.1; omega)).symm), rfl, rfl, trivial⟩ K3
   ·exact Yy J J J J J <|Yy J J J J J <|Yy J J J J J <|Yy J J J J J <|Yy J J J J J <|Yy J J J J J <|Yy J J J J J <|Yy J J J J J <|Yy J J J J J <|Yy J J J J J <|Yy J J J J J <|dt (Zs J J J) J <|Zc <|Xq () trivial ⟨by first | (rw [hN5]; exact congrArg some (congrArg Value.bool (decide_eq_decide.2 ⟨fun h => ⟨by omega, by omega, by omega⟩, fun h => by have := h.2.2; omega⟩))) | exact congrArg some (congrArg Value.bool (decide_eq_false (fun h => by have h1 := h.1; have h2 := h.2.1; omega)).symm), rfl, rfl, trivial⟩ K3
  ·exact Yy J J J J J <|Yy J J J J J <|Yy J J J J J <|dt (Zs J J J) J <|mv J J <|Yy J J J J J <|Yy J J J J J <|Yy J J J J J <|Yy J J J J J <|Yy J J J J J <|Yy J J J J J <|Yy J J J J J <|Yy J J J J J <|Yy J J J J J <|Yy J J J J J <|Yy J J J J J <|dt (Zs J J J) J <|Zc <|Xq () trivial ⟨by first | (rw [hN5]; exact congrArg some (congrArg Value.bool (decide_eq_decide.2 ⟨fun h => ⟨by omega, by omega, by omega⟩, fun h => by have := h.2.2; omega⟩))) | exact congrArg some (congrArg Value.bool (decide_eq_false (fun h => by have h1 := h.1; have h2 := h.2.1; omega)).symm), rfl, rfl, trivial⟩ K3
 ·rintro _ -
  simp only [List.cons_append, List.nil_append]
  refine Zn J (fun h371 => ?_) (fun h371 => ?_)
  ·exfalso; exact hg h371
  ·refine Zk <|Za <|Zb <|Zd <|mv J J <|tt (Zg (n := 3) (poly_primitive _ _ hv) J J J K1 cF68 (Zf 1 J J J Ze) J hw) J fun _ _ => mv J J <|dt (Zw J J J) J <|dt (Zw J J J) J <|Zl J J <|Zl J J <|Zc <|Za <|Zb <|Zb <|Zd <|mv J J <|dt (Ys J J J) J <|Zc <|Za <|Zn J (fun h375 => ?_) (fun h375 => ?_)
   ·exfalso; exact h375 rfl
   ·refine Zk <|Za <|Zb <|Zd <|mv J J <|tt (Zg (n := 4) (poly_primitive _ _ hu) J J J K1 cF68 (Zf 2 J J J Ze) J hw) J fun _ _ => mv J J <|dt (Zw J J J) J <|dt (Zw J J J) J <|Zl J J <|Zl J J <|Zc <|Za <|Zb <|Zb <|Zd <|mv J J <|dt (Ys J J J) J <|Zc <|Za <|Zn J (fun h379 => ?_) (fun h379 => ?_)
    ·exfalso; exact h379 rfl
    ·refine Zk <|Za <|e_jn [] [(0, _), (1, _), (2, _), (3, _), (4, _)] (fun (q : Value × Value) => [(7, q.1), (9, q.2)]) (fun (q : Value × Value) => [(80, slp 2 wv q.1 (gA xs ys)), (81, slp 2 wv q.2 (gB xs ys))]) (fun (q : Value × Value) => True) trivial K5 ?_ ?_
     ·refine Zb <|Zd <|mv J J <|dt (Zy J J (i := 3) J Zi uT23) J <|mv J J <|dt (Zy J J (i := 4) J Zi uT23) J <|dt (Yw J J J) J <|Zc <|Za <|Zn J (fun h382 => ?_) (fun h382 => ?_)
      ·exact Zd <|mv J J <|mv J J <|Zl J J <|Zl J J <|Zc <|Xz (s_dup 4 80 J J J) <|Xz (s_dup 3 81 J J J) <|Xq (_, _) trivial K2 ⟨by unfold gA; first | rw [if_pos (by omega)]; rfl | rw [if_neg (by omega)]; rfl, by unfold gB; first | rw [if_pos (by omega)]; rfl | rw [if_neg (by omega)]; rfl, rfl, rfl, rfl, rfl, rfl, trivial⟩
      ·exact Zk <|Xz (s_dup 3 80 J J J) <|Xz (s_dup 4 81 J J J) <|Xq (_, _) trivial K2 ⟨by unfold gA; first | rw [if_pos (by omega)]; rfl | rw [if_neg (by omega)]; rfl, by unfold gB; first | rw [if_pos (by omega)]; rfl | rw [if_neg (by omega)]; rfl, rfl, rfl, rfl, rfl, rfl, trivial⟩
     ·rintro ⟨va, vb⟩ -
      simp only [List.cons_append, List.nil_append]
      refine Zb <|Zm <|Xv [] [(0, _), (1, _), (2, _), (3, _), (4, _)] (fun (q : Value × Value × List Int × List Int × Nat) => [(7, q.1), (9, q.2.1)]) (fun (q : Value × Value × List Int × List Int × Nat) => [(80, slp 2 wv q.1 q.2.2.1), (81, slp 2 wv q.2.1 q.2.2.2.1)]) (fun (q : Value × Value × List Int × List Int × Nat) => (Vp q.2.2.1) ∧ (Vp q.2.2.2.1) ∧ (eok q.2.2.2.2 q.2.2.1 q.2.2.2.1) ∧ (eu q.2.2.2.2 q.2.2.1 q.2.2.2.1 = eu F (gA xs ys) (gB xs ys))) (fun (q : Value × Value × List Int × List Int × Nat) => q.2.2.2.2) (va, vb, gA xs ys, gB xs ys, F) ⟨vp_gA hv hu, vp_gB hv hu, hok, J⟩ K2 K7 ?_
      rintro ⟨va, vb, a, b, f⟩ ⟨hva, hvb, hok0, heu⟩
      dsimp only at hva hvb hok0 heu
      simp only [List.cons_append, List.nil_append]
      refine Zb <|Zb <|Zd <|mv J J <|dt (Zy J J (i := 81) J Zi uT23) J <|dt (Xd J J J) J <|Zc <|Za <|Zn J (fun h385 => ?_) (fun h385 => ?_)
      ·have hbn : b ≠ [] := fun e => by rw [e] at h385; simp at h385
       obtain ⟨f1, rfl, hde, hok1, heu1⟩ := eok_step hok0 hbn
       refine Zk <|Za <|Zm <|Zb <|Zd <|mv J J <|mv J J <|tt (Zg (n := 5) (poly_rest _ _ _ _ hva hvb hde) J J J K2 cF116 (Zf 80 J J J (Zf 81 J J J Ze)) J hw) J fun _ _ => mv J J <|dt (Zw J J J) J <|dt (Zw J J J) J <|Zl J J <|Zl J J <|Zc <|Za <|Zb <|Zb <|Zd <|mv J J <|dt (Ys J J J) J <|Zc <|Za <|Zn J (fun h387 => ?_) (fun h387 => ?_)
       ·exfalso; exact h387 rfl
       ·refine Zk <|Za <|Zb <|Zb <|Zd <|mv J J <|tt (Zg (n := 6) (poly_primitive _ _ (vp_prest hva hde)) J J J K1 cF68 (Zf 5 J J J Ze) J hw) J fun _ _ => mv J J <|dt (Zw J J J) J <|dt (Zw J J J) J <|Zl J J <|Zl J J <|Zc <|Za <|Zb <|Zd <|mv J J <|dt (Ys J J J) J <|Zc <|Za <|Zn J (fun h390 => ?_) (fun h390 => ?_)
        ·exfalso; exact h390 rfl
        ·exact Zk <|Za <|Zd <|mv J J <|mv J J <|Zl J J <|Zl J J <|Zc <|Xl <|Xz (s_dup 81 80 J J J) <|Xz (s_dup 6 81 J J J) <|Yv (_, _, b, pprim (prest a b), f1) ⟨hvb, vp_pprim (vp_prest hva hde), hok1, by rw [← heu1]; exact heu⟩ (Nat.lt_succ_self f1) K2 K7
      ·obtain rfl : b = [] := List.eq_nil_of_length_eq_zero (by omega)
       rw [eu_nil] at heu
       have hal := hva.len
       refine Yo <|Zt <|Zt <|Xr <|Za <|Zb <|Zb <|Zd <|mv J J <|dt (Zy J J (i := 80) J Zi uT23) J <|dt (Xd J J J) J <|mv J J <|Xo (d := 95) J (fun s395 => ?_) (fun s395 => ?_)
       ·refine Yj (Zv J J) J J J J <|Yj (Zv J J) J J J J <|Yj (Zy J J (i := 80) J Zi uT23) J J J J <|Yj (Xc J J J ⟨by omega, by omega⟩) J J J J <|Yj (Yf (ii := 80) (i := (a.length - 1)) J J J J Zi uT23 zT28 (by omega) (by omega)) J J J J <|Yj (Yn (ii := 80) 0 J J J Zi pV (by omega)) J J J J <|gtt (Zg (n := 6) (wide_sign _ (hva.sz _)) J J J K1 cF80 Ze J hw) J J J J fun _ _ => Yj (Yw J J J) J J J J <|dt (Ym J J J) J <|Zc <|Za <|Zn J (fun h395 => ?_) (fun h395 => ?_)
        ·have hneg : a.length ≠ 0 ∧ cf a (a.length - 1) < 0 := ⟨by omega, (sign_neg_iff _).1 h395⟩
         exact Zb <|Zd <|mv J J <|tt (Zg (n := 6) (wide_of_int (-1) (by first | assumption | exact ⟨by omega, by omega⟩)) J J J K1 cF55 Ze J hw) J fun _ _ => tt (Zg (n := 7) (poly_scale _ _ (-1) hva (by decide) (bl_negm hva.sz)) J J J K2 cF113 (Zf 80 J J J Ze) J hw) J fun _ _ => dt (Zw J J J) J <|dt (Zw J J J) J <|Zl J J <|Zl J J <|Zc <|Za <|Zq <|Yp <|Zr (.inl J) hsc _ _ (fun a w hs => Xp hs Tryz.results66 J J) J trivial J (Yi 7 J J J (by unfold pgcd gnorm; rw [← heu, if_pos hneg] <;> rfl) Zj)
        ·refine Zk <|Za <|Zb <|Zd <|mv J J <|Zl J J <|Zl J J <|Zc <|Za <|Zq ?_
         have hneg : ¬ (a.length ≠ 0 ∧ cf a (a.length - 1) < 0) := fun h => by first | omega | exact absurd ((sign_neg_iff (cf a (a.length - 1))).2 h.2) (by assumption)
         exact Zr (.inl J) hsc _ _ (fun a w hs => Xp hs Tryz.results66 J J) J trivial J (Yi 80 J J J (by unfold pgcd gnorm; rw [← heu, if_neg hneg] <;> rfl) Zj)
       ·refine Yy J J J J J <|Yy J J J J J <|Yy J J J J J <|Yy J J J J J <|Yy J J J J J <|Yy J J J J J <|Yy J J J J J <|Yy J J J J J <|dt (Zs J J J) J <|Zc <|Za <|Yd J <|Zk <|Za <|Zb <|Zd <|mv J J <|Zl J J <|Zl J J <|Zc <|Za <|Zq ?_
        have hneg : ¬ (a.length ≠ 0 ∧ cf a (a.length - 1) < 0) := fun h => by first | omega | exact absurd ((sign_neg_iff (cf a (a.length - 1))).2 h.2) (by assumption)
        exact Zr (.inl J) hsc _ _ (fun a w hs => Xp hs Tryz.results66 J J) J trivial J (Yi 80 J J J (by unfold pgcd gnorm; rw [← heu, if_neg hneg] <;> rfl) Zj)
end Go.Sky

