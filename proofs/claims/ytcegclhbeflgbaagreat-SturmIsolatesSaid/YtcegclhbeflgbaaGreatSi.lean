/- the law: part 16
   Proved without conditions of its own: each theorem bears its own. -/
import Derived.Test.YtcegclhbeflgbaaGreatSi02
import Derived.Test.YtcegclhbeflgbaaGreatSi01
import Derived.Test.YtcegclhbeflgbaaGreatSi03
import Derived.Test.YtcegclhbeflgbaaGreatSi14
set_option linter.all false
namespace Go.Sky
open Go.Proofs
set_option maxRecDepth 20000
set_option maxHeartbeats 4000000
set_option linter.unusedVariables false
set_option linter.unusedSimpArgs false
set_option maxHeartbeats 4000000 in
theorem law_iso_ok (v : Value) (r : List (Bool × ByteArray)) (x y x2 y2 : Int) (hq : Int) (hp : 0 < y) (hp2 : 0 < y2) (h6 : r.length ≤ 6) (hb2 : ∀ i, i < r.length → (r.getD i (false, ⟨#[]⟩)).2.size ≤ 2) (e1 : (bstr x.natAbs).size ≤ 3) (e2 : (bstr y.natAbs).size ≤ 3) (e3 : (bstr x2.natAbs).size ≤ 3) (e4 : (bstr y2.natAbs).size ≤ 3) (hh : 0 ≤ hq ∧ hq ≤ 20) (hok : okP r = true) (h0 : r.length ≠ 0) (hfe : firstE r x y x2 y2 = 0) : Cal Tryz.prog 7 #[v, .agg #[.bool (decide (x < 0)), .string (bstr x.natAbs), .bool (decide (y < 0)), .string (bstr y.natAbs)], .agg #[.bool (decide (x2 < 0)), .string (bstr x2.natAbs), .bool (decide (y2 < 0)), .string (bstr y2.natAbs)], .int .i64 hq] [slp 2 encW v r] false (G := Unit) (fun _ => True) (fun _ => .bool true) (fun _ => []) := by
 refine Yb Tryz.func7 J Tryz.ntmps7 J K1 ?_
 intro w0 sc hw hsc
 simp only [Zn, Zm]
 have hx := bl_pow256 (n := x.natAbs) 3 e1
 have hy := bl_pow256 (n := y.natAbs) 3 e2
 have hx2 := bl_pow256 (n := x2.natAbs) 3 e3
 have hy2 := bl_pow256 (n := y2.natAbs) 3 e4
 have hs := small6 h6 hb2
 obtain ⟨hs48, hl8, hle⟩ := small_dec hs hok
 obtain ⟨hv, -⟩ := dec_ok hok
 have hne : dec r ≠ [] := fun e => h0 (by rw [← hle, e]; rfl)
 have hs16 := dec6 h6 hb2 hok
 have hck := chk2_small hs hok (x := x) (y := y) (x2 := x2) (y2 := y2) (by omega) (by omega) (by omega) (by omega)
 rw [hfe] at hck
 obtain ⟨hiso, hev, hbd⟩ := iso6b (a := (x, y)) (b := (x2, y2)) (hq := hq) hv.tr hne hs16 (by omega) hh.2 hp hp2 (by dsimp only; omega) (by dsimp only; omega) (by dsimp only; omega) (by dsimp only; omega) ((firstE_iff _ _ _ _ _).1 hfe).2.2
 have hlm := hiso.2.2.2.2.2.2
 refine Ye (Qb 999 2 28 wv) <|Ye (Xl 999 J J pV) <|Zb <|Zd <|tt (Ym (i := 2) J J J J J J hw) J fun bx _ => tt (Ym (i := 3) J J J J J J hw) J fun bx_2 _ => Zl J J <|Zc <|Za <|Zb <|Zb <|Zd <|mv J J <|dt (Zv J J (i := 1) J Zi uT23) J <|dt (Yd (r' := .bool false) (Xc J J J) (congrArg Value.bool (decide_eq_false (by omega)))) J <|mv J J <|Yl (Yi J J uT49 J zT28 J J) J J J J <|Yl (Yi J J uT28 J zT9 J J) J J J J <|Yl (Xe (i := 2) J J J iA9 J) J J J J <|Yl (Xx J J uT9) J J J J <|Yl (Yd (r' := .bool false) (Xc J J J) (congrArg Value.bool (decide_eq_false (by omega)))) J J J J <|dt (Ya J J J) J <|mv J J <|Yl (Yi J J uT49 J zT28 J J) J J J J <|Yl (Yi J J uT28 J zT9 J J) J J J J <|Yl (Xe (i := 2) J J J iA9 J) J J J J <|Yl (Xx J J uT9) J J J J <|Yl (Yd (r' := .bool false) (Xc J J J) (congrArg Value.bool (decide_eq_false (by omega)))) J J J J <|dt (Ya J J J) J <|mv J J <|Yl (Yi J J uT49 J zT28 J J) J J J J <|Yl (Yi J J uT28 J zT9 J J) J J J J <|Yl (Xe (i := 3) J J J iA9 J) J J J J <|Yl (Xx J J uT9) J J J J <|Yl (Yd (r' := .bool false) (Xc J J J) (congrArg Value.bool (decide_eq_false (by omega)))) J J J J <|dt (Ya J J J) J <|mv J J <|Yl (Yi J J uT49 J zT28 J J) J J J J <|Yl (Yi J J uT28 J zT9 J J) J J J J <|Yl (Xe (i := 3) J J J iA9 J) J J J J ?_
 refine Yl (Xx J J uT9) J J J J <|Yl (Yd (r' := .bool false) (Xc J J J) (congrArg Value.bool (decide_eq_false (by omega)))) J J J J <|dt (Ya J J J) J <|mv J J <|Yl (Zx J J) J J J J <|Yl (Yd (r' := .bool false) (Xc J J J) (congrArg Value.bool (decide_eq_false (by omega)))) J J J J <|Yl (Zx J J) J J J J <|Yx J J J J J <|Yx J J J J J <|Yl (Ya J J J) J J J J <|dt (Ya J J J) J <|Zc <|Za <|Yn J <|Zk <|Za <|Zb <|Zb <|Zd <|mv J J <|dt (Zv J J (i := 1) J Zi uT23) J <|mv J J <|Zc <|Za <|Zo <|Xw [(0, _), (3, _), (5, _), (6, _), (60, _), (61, _)] [(0, _), (1, _), (999, _), (2, _), (3, _)] (fun (i : Nat) => [(62, .int .i64 (i : Int))]) (fun (i : Nat) => []) (fun (i : Nat) => (i ≤ r.length)) (fun (i : Nat) => r.length - i) 0 (by first | omega | (dsimp only <;> omega)) K7 K5 ?_
 rintro i hi
 simp only [List.cons_append, List.nil_append]
 refine Zb <|Zd <|dt (Xb J J J) J <|Zc <|Za <|Zb <|Zp J (fun h199 => ?_) (fun h199 => ?_)
 ·refine Zk <|Za <|Zb <|Zo <|Zb <|Zd <|dt (Yh (ii := 1) J J J J Zi uT23 zT28 J (by first | omega | (simp only [List.length_set]; omega))) J <|dt (Yu (ii := 1) (false, ⟨#[]⟩) J J J Zi pW (by first | omega | (simp only [List.length_set]; omega))) J <|tt (Zw (i := 4) J J J Tryz.zeroValue28 J J hw) J fun bx_3 _ => tt (Zq (i := 4) J J J J J (by decide) J zT28 J J ⟨(Zh J), (Zh J), trivial⟩ J hw trivial) J fun _ _ => Zc <|Za <|Zb <|Zd <|dt (Yi J J uT28 J zT9 J J) J <|dt (Xe (i := 4) J J J iA9 J) J <|dt (Xx J J uT9) J <|dt (Xc J J J) J <|Zc <|Za <|Zp J (fun h200 => ?_) (fun h200 => ?_)
  ·exfalso; have h9 := hb2 i (by omega); omega
  ·exact Zk <|Xm <|Za <|Zd <|dt (Yj J J J ⟨by omega, by omega⟩) J <|mv J J <|Zc <|Yy (i + 1) (by first | omega | (dsimp only <;> omega)) (by first | omega | (dsimp only <;> omega)) K7 K5
 ·refine Ys <|Zu <|Zu <|Xs <|Za <|Zb <|Ye (s_sub (q := slp 2 wv _ (dec r)) 1 88 J J J (slp_dec hok _) (fun _ h => h) J) <|Zd <|mv J J <|dt (Xi (i := 2) J J J iA49 zT49 J J J J) J <|dt (Xi (i := 3) J J J iA49 zT49 J J J J) J <|mv J J <|tt (Zg (n := 5) (st_isolate _ _ hv (x, y) (x2, y2) hq ⟨by dsimp only; omega, by dsimp only; omega, hp⟩ ⟨by dsimp only; omega, by dsimp only; omega, hp2⟩ ⟨by omega, by omega⟩ hck 12 (by decide) 846 hiso) J J J K4 cF35 (Ze 88 J J J Zf) J hw) J fun _ _ => mv J J <|dt (Zy J J J) J <|dt (Zy J J J) J <|Zl J J <|Zl J J <|Zc <|Za <|Zb <|Zb <|Zd <|mv J J <|dt (Yd (r' := .bool false) (Xb J J J) (congrArg Value.bool (decide_eq_false (by omega)))) J <|mv J J <|Yl (Zx J J) J J J J <|Yl (Yd (r' := .bool false) (Xc J J J) (congrArg Value.bool (decide_eq_false (by omega)))) J J J J <|dt (Ya J J J) J <|Zc <|Za <|Yn J <|Zk <|Za <|Zb <|Zb <|Zd <|mv J J <|dt (Xi (i := 2) J J J iA49 zT49 J J J J) J <|dt (Xi (i := 3) J J J iA49 zT49 J J J J) J <|tt (Zg (n := 5) (law_first_any _ _ x y x2 y2 (by omega) (by omega) (by omega) (by omega) hp hp2) J J J K3 cF21 (Ze 1 J J J Zf) J hw) J fun _ _ => Zl J J <|Zc <|Za <|Zb <|Zd <|mv J J ?_
  refine dt (Yd (r' := .bool false) (Xf J J J) (congrArg Value.bool (decide_eq_false (fun h => h hfe)))) J <|Zc <|Za <|Yn J <|Zk <|Za <|Zb <|Pe (fun _ => False) [8] (by kernel_rfl) <|Yg (n := 4) [(0, 0), (2, 0), (4, 0), (6, 0), (1, 1)] (by kernel_rfl) <|r0' J J J J (st0 (Zx J J)) <|r0' J J J J (st0 (Xi (i := 2) J J J iA49 zT49 J J J J)) <|r0' J J J J (st0 (Xi (i := 3) J J J iA49 zT49 J J J J)) <|r0' J J J J (st0 (Zx J J)) <|r1' J J (Zg (n := 6) (rp_from _ _ (hv.sz.mono (by omega)) (by omega)) J J J K1 cF15 (Ze 88 J J J Zf) J hw) fun g hg => Yv ?_
  have hG : ints g.2 = dec r := hg
  refine Yg (n := 0) [(3, 1), (5, 1), (7, 1), (8, 3)] (by kernel_rfl) <|r1' J J (Zg (n := 7) (r_fromratio x y (by omega) (by omega)) J J J K1 cF32 Zf J hw) fun g_2 _ => r1' J J (Zg (n := 9) (r_fromratio x2 y2 (by omega) (by omega)) J J J K1 cF32 Zf J hw) fun g_3 _ => r1' J J (t_callm (n := 11) (r3_isolate_all _ _ _ _ _ _ (x, y) (x2, y2) hq 846 (by rw [hG]; exact hv) (by have h7 := congrArg List.length hG; rw [length_ints] at h7; omega) (by rw [hG]; exact hs48) (by have h7 := congrArg List.length hG; rw [length_ints] at h7; omega) ⟨by dsimp only; omega, by dsimp only; omega, hp⟩ ⟨by dsimp only; omega, by dsimp only; omega, hp2⟩ (by rw [hG]; exact hiso)) J J J K4 cF36 (Ze 6 J J J (Ze 7 J J J (Ze 8 J J J (Ze 9 J J J (Ze 10 J J J Zf))))) J hw) fun g_4 hg_2 => r3' J J (Qd (Qg J J) J J) fun _ _ => Yv <|Yw (by kernel_rfl) <|Za <|Zb <|Zb <|Ye (Xl 11 J J pJ) <|Ye (Qn 11 12 92 J J J J) ?_
  have hJ : g_4.2.map Prod.fst = (sisol 12 (dec r) 846 (x, y) (x2, y2) hq) := by rw [hg_2, hG]
  have hJl := js_len hJ
  refine Zd <|mv J J <|dt (Zv J J (i := 5) J Zi uT69) J <|mv J J <|dt (Zv J J (i := 92) J Zz uT72) J <|dt (Yd (r' := .bool false) (Xf J J J) (congrArg Value.bool (decide_eq_false (fun h => h (by omega))))) J <|mv J J <|Yl (Zx J J) J J J J <|Yl (Yd (r' := .bool false) (Xf J J J) (congrArg Value.bool (by decide))) J J J J <|dt (Ya J J J) J <|Zc <|Za <|Yn J <|Zk <|Za <|Zb <|Zb <|Zd <|Zl J J <|Zc <|Za <|Zo <|Xw [(11, _), (14, _)] [(0, _), (1, _), (999, _), (2, _), (3, _), (88, _), (5, _), (6, _), (7, _), (8, _), (9, _), (10, _), (11, _), (12, _), (92, _)] (fun (i : Nat) => [(15, .int .i64 (i : Int))]) (fun (i : Nat) => []) (fun (i : Nat) => (i ≤ g_4.2.length)) (fun (i : Nat) => g_4.2.length - i) 0 (by first | omega | (dsimp only <;> omega)) K3 K15 ?_
  rintro i hi
  simp only [List.cons_append, List.nil_append]
  refine Zb <|Zb <|Zd <|mv J J <|mv J J <|dt (Zv J J (i := 92) J Zz uT72) J <|dt (Xb J J J) J <|Zc <|Za <|Zp J (fun h215 => ?_) (fun h215 => ?_)
  ·refine Zk <|Za <|Zb <|Zo <|Zb ?_
   have hze := js_getD hJ (i := i) (by omega)
   obtain ⟨g1, g2, g3, g4⟩ := hbd _ (getD_mem (d := ((0, 0), (0, 0))) (zs := (sisol 12 (dec r) 846 (x, y) (x2, y2) hq)) (i := i) (by omega))
   rw [← hze] at g1 g2 g3 g4
   obtain ⟨q1, q2⟩ := qn_ok (Nat.le_trans g1 (by omega)) (Nat.le_trans g2 (by omega))
   obtain ⟨q3, q4⟩ := qn_ok (Nat.le_trans g3 (by omega)) (Nat.le_trans g4 (by omega))
   refine Ye (s_deep 92 93 (g_4.2.getD i J0) J J (getD_mem (by omega)) J) <|Ye (s_many 93 94 ((g_4.2.getD i J0).2.1, (g_4.2.getD i J0).1.1.1.natAbs) J J (by simp) J) <|Ye (s_many 93 95 ((g_4.2.getD i J0).2.2.1, (g_4.2.getD i J0).1.1.2.natAbs) J J (by simp) J) <|Zd <|mv J J <|mv J J <|dt (Yh (ii := 92) J J J J Zz uT72 zT77 J (by first | omega | (simp only [List.length_set]; omega))) J <|dt (d_fae (ii := 92) J J J Zz (by omega) uT77 J zT63 J) J <|dt (d_ldf4 (ii := 92) J0 J J J Zz (by omega) iA63 zT63 J J J J) J <|tt (Zg (n := 12) (r_outratio _ _ _ _ (Nat.le_trans g1 (by omega)) (Nat.le_trans g2 (by omega))) J J J K1 cF37 (Ze 94 J J J (Ze 95 J J J Zf)) J hw) J fun _ _ => mv J J <|dt (Zy J J J) J <|dt (Zy J J J) J <|tt (Zw (i := 13) J J J Tryz.zeroValue49 J J hw) J fun bx_4 _ => tt (Zq (i := 13) J J J J J (by decide) J zT49 J J ⟨(Zh J), (Zh J), (Zh J), (Zh J), trivial⟩ J hw trivial) J fun _ _ => Zl J J <|Zc <|Za <|Zb <|Ye (s_deep 92 96 (g_4.2.getD i J0) J J (getD_mem (by omega)) J) <|Ye (s_many 96 97 ((g_4.2.getD i J0).2.2.2.1, (g_4.2.getD i J0).1.2.1.natAbs) J J (by simp) J) <|Ye (s_many 96 98 ((g_4.2.getD i J0).2.2.2.2, (g_4.2.getD i J0).1.2.2.natAbs) J J (by simp) J) <|Zd <|mv J J <|mv J J ?_
   refine dt (Yh (ii := 92) J J J J Zz uT72 zT77 J (by first | omega | (simp only [List.length_set]; omega))) J <|dt (d_fae (ii := 92) J J J Zz (by omega) uT77 J zT63 J) J <|dt (d_ldf4 (ii := 92) J0 J J J Zz (by omega) iA63 zT63 J J J J) J <|tt (Zg (n := 13) (r_outratio _ _ _ _ (Nat.le_trans g3 (by omega)) (Nat.le_trans g4 (by omega))) J J J K1 cF37 (Ze 97 J J J (Ze 98 J J J Zf)) J hw) J fun _ _ => mv J J <|dt (Zy J J J) J <|dt (Zy J J J) J <|tt (Zw (i := 14) J J J Tryz.zeroValue49 J J hw) J fun bx_5 _ => tt (Zq (i := 14) J J J J J (by decide) J zT49 J J ⟨(Zh J), (Zh J), (Zh J), (Zh J), trivial⟩ J hw trivial) J fun _ _ => Zl J J <|Zc <|Za <|Zb <|Xg (fun _ => False) [(0, 0), (1, 0), (2, 0), (3, 0), (4, 0), (5, 0), (6, 0), (7, 0)] (by kernel_rfl) ?_ ?_
   ·kernel_rfl
   exact r0' J J J J (st0 (Zx J J)) <|r0' J J J J (st0 (Zx J J)) <|r0' J J J J (st0 (Yh (ii := 5) J J J J Zi uT69 zT79 J (by first | omega | (simp only [List.length_set]; omega)))) <|r0' J J J J (st0 (Yu (ii := 5) ((0, 0), (0, 0)) J J J Zi pY (by first | omega | (simp only [List.length_set]; omega)))) <|r0' J J J J (st0 (Xi (i := 13) J J J iA49 zT49 J J J J)) <|r0' J J J J (st0 (Xi (i := 14) J J J iA49 zT49 J J J J)) <|r0' J J J J (st0 (Qc (ivs := [(0, _), (1, _)]) J K4 (fun a w hs => b79_01))) <|r0' J J J J (st0 (Yd (r' := .bool false) (d_eqg J J J eg79 (fun w => neq79 w _ _ _ _ _ _ _ _ _ _ _ _ _ _ _ _)) (congrArg Value.bool (by rw [q1, q2, q3, q4, hze]; simp [eqW_refl])))) <|Xq <|Za <|Yn J <|Zk <|Xm <|Za <|Zd <|mv J J <|dt (Yj J J J ⟨by omega, by omega⟩) J <|Zl J J <|Zc <|Yy (i + 1) (by first | omega | (dsimp only <;> omega)) (by first | omega | (dsimp only <;> omega)) K3 K15
  ·exact Ys <|Zu <|Zu <|Xs <|Za <|Zb <|Zd <|tt (Zg (n := 14) (law_known) J J J trivial cF11 Zf J hw) J fun _ _ => Zl J J <|Zc <|Za <|Zr <|Zs (.inl J) hsc () _ (fun a w hs => Yr hs Tryz.results7 J) J trivial J Zj
end Go.Sky
namespace Go.Sky
open Go.Proofs
theorem law_iso (v : Value) (r : List (Bool × ByteArray)) (b : Bool) (s : ByteArray) (c : Bool) (t : ByteArray) (b2 : Bool) (s2 : ByteArray) (c2 : Bool) (t2 : ByteArray) (hq : Int) : Cal Tryz.prog 7 #[v, .agg #[.bool b, .string s, .bool c, .string t], .agg #[.bool b2, .string s2, .bool c2, .string t2], .int .i64 hq] [slp 2 encW v r] false (G := Unit) (fun _ => True) (fun _ => .bool true) (fun _ => []) := by
  by_cases hn : 6 < r.length ∨ 3 < s.size ∨ 3 < t.size ∨ 3 < s2.size ∨ 3 < t2.size ∨ (20 < hq ∧ hq ≤ 200)
  · exact law_iso_no v r ((b, s), (c, t)) ((b2, s2), (c2, t2)) hq hn
  · have h6 : r.length ≤ 6 := by omega
    have e1 : s.size ≤ 3 := by omega
    have e2 : t.size ≤ 3 := by omega
    have e3 : s2.size ≤ 3 := by omega
    have e4 : t2.size ≤ 3 := by omega
    have hm : ¬ (20 < hq ∧ hq ≤ 200) := by omega
    by_cases hb2 : ∀ i, i < r.length → (r.getD i (false, ⟨#[]⟩)).2.size ≤ 2
    · by_cases h1 : hq < 0
      · exact law_iso_argl v r ((b, s), (c, t)) ((b2, s2), (c2, t2)) hq h6 hb2 e1 e2 e3 e4 h1
      · by_cases h2 : 200 < hq
        · exact law_iso_argh v r ((b, s), (c, t)) ((b2, s2), (c2, t2)) hq h6 hb2 e1 e2 e3 e4 h2
        · have hh : 0 ≤ hq ∧ hq ≤ 20 := by omega
          by_cases hf : firstR r ((b, s), (c, t)) ((b2, s2), (c2, t2)) = 0
          · have hb : (okP r && qOK ((b, s), (c, t)) && qOK ((b2, s2), (c2, t2))) = true := by
              by_cases h : (okP r && qOK ((b, s), (c, t)) && qOK ((b2, s2), (c2, t2))) = true
              · exact h
              · unfold firstR at hf; rw [if_neg h] at hf; exact absurd hf (by decide)
            simp only [Bool.and_eq_true] at hb
            rw [firstR_wv hb.1.1 hb.1.2 hb.2] at hf
            obtain ⟨a1, a2, a3, a4⟩ := q_ok hb.1.2
            obtain ⟨b1, b2', b3, b4⟩ := q_ok hb.2
            have hok := hb.1.1
            clear hb hn
            generalize qx ((b, s), (c, t)) = x at *
            generalize qy ((b, s), (c, t)) = y at *
            generalize qx ((b2, s2), (c2, t2)) = x2 at *
            generalize qy ((b2, s2), (c2, t2)) = y2 at *
            simp only [Prod.mk.injEq] at a4 b4
            obtain ⟨⟨rfl, rfl⟩, rfl, rfl⟩ := a4
            obtain ⟨⟨rfl, rfl⟩, rfl, rfl⟩ := b4
            exact law_iso_ok v r x y x2 y2 hq a3 b3 h6 hb2 e1 e2 e3 e4 hh hok ((firstE_iff _ _ _ _ _).1 hf).2.1 hf
          · exact law_iso_err v r ((b, s), (c, t)) ((b2, s2), (c2, t2)) hq h6 hb2 e1 e2 e3 e4 hh hf
    · exact law_iso_nob v r ((b, s), (c, t)) ((b2, s2), (c2, t2)) hq h6 e1 e2 e3 e4 hm hb2
end Go.Sky
namespace Go.Proofs.YtcegclhbeflgbaaGreat
open Go.ChangeShapes Go.WideShapes Go.ChangeAt Go.RowKit Go.Joins Go.Deep Go.Sky
set_option linter.unusedVariables false
theorem own : ownKnob Tryz.prog.godebug = none := by kernel_rfl
theorem laidOut : laidOutB Tryz.prog = true := by kernel_rfl
set_option maxRecDepth 100000 in
theorem lifted (os : Os) (started : os.Started) (H : Type) (enc : TypeId × Value → H) :
    ReturnsInHanded {} Tryz.checked os 7 .any (Rows.sturmIsolatesSpec.pre6 enc Tryz.prog Tryz.f7 Rows.sturmIsolatesRow.domain false) (Rows.sturmIsolatesSpec.post enc Tryz.prog Tryz.f7 false true false false) := by
  refine returnsInHanded_of_change (C := Tryz.checked) own started (by kernel_rfl) Tryz.func7
    (ChangeSpec.witness6 (enc := enc) (C := Tryz.checked) false ⟨#[], #[.slice none 0 0, .agg #[.bool false, .string ByteArray.empty, .bool false, .string ByteArray.empty], .agg #[.bool false, .string ByteArray.empty, .bool false, .string ByteArray.empty], .int .i64 0], []⟩ 8 (by kernel_rfl) (by kernel_rfl) (by kernel_rfl) (by kernel_rfl)) ?_
  intro W base args ds gs before hval0 hW hcnd _
  have hval : ∀ (j : Nat) t v, Tryz.f7.params[j]? = some t → args[j]? = some v → Value.okWide Tryz.prog W .any base t v := hval0
  have hW' := hW
  obtain ⟨p, q, hA0, hV, rfl, hfz, hnd⟩ := hW
  have hA : DataW.TrodAll enc Tryz.prog W 0 (fun _ => true) true Tryz.f7.params.toList args.toList ds p := hA0
  rw [Tryz.params7] at hA hval
  obtain ⟨v0, vs0, d0, ds0, p0, q0, hargs, rfl, rfl, h0, r0⟩ := trodAll_cons hA
  obtain ⟨v1, vs1, d1, ds1, p1, q1, rfl, rfl, rfl, h1, r1⟩ := trodAll_cons r0
  obtain ⟨v2, vs2, d2, ds2, p2, q2, rfl, rfl, rfl, h2, r2⟩ := trodAll_cons r1
  obtain ⟨v3, vs3, d3, ds3, p3, q3, rfl, rfl, rfl, h3, r3⟩ := trodAll_cons r2
  obtain ⟨rfl, rfl, rfl⟩ := trodAll_nil r3
  obtain rfl : args = #[v0, v1, v2, v3] := by cases args; simp_all
  obtain ⟨rfl, rfl⟩ := trodVars_none hV
  have lt0 : ∀ x ∈ p0, x.block < W.heap.size := by obtain ⟨m, hm⟩ := h0; exact DataW.trod_lt m _ _ _ hm
  obtain ⟨l0, hl0⟩ := open_wides Tryz.underlying23 Tryz.underlying28 (by kernel_rfl) rfl rfl (by kernel_rfl) (by kernel_rfl) (by kernel_rfl) (by kernel_rfl) (hval 0 23 v0 rfl rfl) h0 lt0
  have lt1 : ∀ x ∈ p1, x.block < W.heap.size := by obtain ⟨m, hm⟩ := h1; exact DataW.trod_lt m _ _ _ hm
  obtain ⟨b1, s1, c1, t1, rfl⟩ := open_ratio Tryz.underlying49 Tryz.underlying28 (by kernel_rfl) (by kernel_rfl) rfl rfl rfl rfl (by kernel_rfl) (by kernel_rfl) (by kernel_rfl) (by kernel_rfl) rfl rfl (hval 1 49 v1 rfl rfl) h1
  have lt2 : ∀ x ∈ p2, x.block < W.heap.size := by obtain ⟨m, hm⟩ := h2; exact DataW.trod_lt m _ _ _ hm
  obtain ⟨b2, s2, c2, t2, rfl⟩ := open_ratio Tryz.underlying49 Tryz.underlying28 (by kernel_rfl) (by kernel_rfl) rfl rfl rfl rfl (by kernel_rfl) (by kernel_rfl) (by kernel_rfl) (by kernel_rfl) rfl rfl (hval 2 49 v2 rfl rfl) h2
  have lt3 : ∀ x ∈ p3, x.block < W.heap.size := by obtain ⟨m, hm⟩ := h3; exact DataW.trod_lt m _ _ _ hm
  obtain ⟨n3, rfl⟩ := okWide_int Tryz.underlying3 (hval 3 3 v3 rfl rfl)
  clear hA0 hval0
  refine (law_iso v0 l0 b1 s1 c1 t1 b2 s2 c2 t2 n3 W (fun p hp => by cases hp with | head => exact hl0 | tail _ hp => cases hp)).mono fun e W' ⟨_, he, _, bel, _⟩ => ?_
  subst he
  exact ⟨_, rfl, _, _, _, [], _, [], hW', trodAll_mk1 (shut_bool Tryz.underlying4 _), (trodAll_cons_mk (Below.trod laidOut (by kernel_rfl) (of_decide_eq_true (by kernel_rfl)) h0 bel lt0) (trodAll_cons_mk (Below.trod laidOut (by kernel_rfl) (of_decide_eq_true (by kernel_rfl)) h1 bel lt1) (trodAll_cons_mk (Below.trod laidOut (by kernel_rfl) (of_decide_eq_true (by kernel_rfl)) h2 bel lt2) (trodAll_cons_mk (Below.trod laidOut (by kernel_rfl) (of_decide_eq_true (by kernel_rfl)) h3 bel lt3) trodAll_mk0)))), rfl, bel.frame _, fun h => by cases h⟩
theorem x_holds : Rows.SturmIsolatesSaid :=
  OpenClaim.holds_of_wide 7 Tryz.f7 rfl rfl rfl rfl rfl rfl rfl ⟨rfl, rfl, rfl, rfl, rfl⟩ rfl rfl rfl rfl rfl (by kernel_rfl) Tryz.func7 (by kernel_rfl)
    (of_decide_eq_true (by kernel_rfl)) (by unfold Func.isWrapper; first | (rw [if_pos (by decide +kernel)]; kernel_rfl) | (rw [if_neg (by decide +kernel)]; exact ⟨rfl, rfl⟩))
    (fun os started H enc _ => lifted os started H enc)
#print axioms x_holds
end Go.Proofs.YtcegclhbeflgbaaGreat

