/- rules, arithmetic and contracts: part 16
   Proved without conditions of its own: each theorem bears its own. -/
import Derived.Test.YtcegclhbeflgbaaGreatSl02
import Derived.Test.YtcegclhbeflgbaaGreatSl01
import Derived.Test.YtcegclhbeflgbaaGreatSl03
import Derived.Test.YtcegclhbeflgbaaGreatSl13
import Derived.Test.YtcegclhbeflgbaaGreatSl11
import Derived.Test.YtcegclhbeflgbaaGreatSl14
import Derived.Test.YtcegclhbeflgbaaGreatSl12
import Derived.Test.YtcegclhbeflgbaaGreatSl09
set_option linter.all false
namespace Go.Sky
open Go.Proofs
set_option maxRecDepth 20000
set_option maxHeartbeats 4000000
set_option linter.unusedVariables false
set_option linter.unusedSimpArgs false
theorem law_w (x : Int) (hx : inI x) : Cal Tryz.prog 38 #[.int .i64 x] [] false (G := Unit) (fun _ => True) (fun _ => wv x) (fun _ => []) := by
 refine Ye Tryz.func38 J Tryz.ntmps38 J trivial ?_
 intro w0 sc hw hsc
 simp only [Zq, Zo]
 have hxa := hx.1
 have hxb := hx.2
 have hbx := inI_bl hx
 exact Zb <|Ze <|tt (Zp (i := 1) J J J Tryz.zeroValue28 J J hw) J fun b _ => Zd <|Za <|Zb <|Ze <|mv J J <|tt (Zh (n := 2) (r_num _ hx) J J J K1 cF43 Zf J hw) J fun v _ => tt (Zh (n := 2) (r_to _ _ (by omega)) J J J K1 cF17 (Zg 2 J J J Zf) J hw) J fun _ _ => tt (Zl (i := 1) J J J J J (by decide) J zT28 J J ⟨(Zc J), (Zc J), trivial⟩ J hw trivial) J fun _ _ => Zd <|Za <|Zr <|Zx (.inl J) hsc () _ (fun a w hs => Yt hs Tryz.results38 (Yq (i := 1) J J iA28 zT28 J)) J trivial J Zj
theorem law_p (v : Value) (l : List Int) (hl : ∀ x ∈ l, inI x) (hlen : l.length ≤ 1000) : Cal Tryz.prog 39 #[v] [slp 1 encZ v l] true (G := Value) (fun r => True) (fun r => r) (fun r => [slp 2 wv r (tzl l)]) := by
 refine Ye Tryz.func39 J Tryz.ntmps39 J K1 ?_
 intro w0 sc hw hsc
 simp only [Zq, Zo]
 have hsz := sz_ints hl
 exact Zb <|Ze <|Zm J J <|Zd <|Za <|Zb <|Ze <|mv J J <|tt (Zh (n := 2) (rp_nums _ _ hl hlen) J J J K1 cF33 (Zg 1 J J J Zf) J hw) J fun g hg => tt (Zh (n := 3) (rp_to _ _ (by rw [hg]; exact (Sz.tzl hsz).mono (by omega)) (by have h7 := congrArg List.length hg; rw [length_ints] at h7; have h8 := tzl_le l; omega)) J J J K1 cF25 (Zg 2 J J J Zf) J hw) J fun v _ => Zm J J <|Zd <|Za <|Zr <|Zx (.inl J) hsc _ _ (fun a w hs => Yt hs Tryz.results39 J) J trivial J (Yj 3 J J J (congrArg (slp 2 wv _) hg) Zj)
theorem law_q (x y : Int) (hx : inI x) (hy : inI y) : Cal Tryz.prog 22 #[.int .i64 x, .int .i64 y] [] false (G := Unit) (fun _ => True) (fun _ => .agg #[.bool (decide (x < 0)), .string (bstr x.natAbs), .bool (decide (y < 0)), .string (bstr y.natAbs)]) (fun _ => []) := by
 refine Ye Tryz.func22 J Tryz.ntmps22 J trivial ?_
 intro w0 sc hw hsc
 simp only [Zq, Zo]
 exact Zb <|Ze <|tt (Zp (i := 1) J J J Tryz.zeroValue49 J J hw) J fun b _ => Zd <|Za <|Zb <|Ze <|mv J J <|tt (Zh (n := 1) (law_w _ hx) J J J K1 cF38 Zf J hw) J fun _ _ => mv J J <|tt (Zh (n := 1) (law_w _ hy) J J J K1 cF38 Zf J hw) J fun _ _ => dt (Xg (ivs := [(0, _), (1, _)]) J K4 (fun a w hs => b49_01)) J <|tt (Zl (i := 1) J J J J J (by decide) J zT49 J J ⟨(Zc J), (Zc J), (Zc J), (Zc J), trivial⟩ J hw trivial) J fun _ _ => Zd <|Za <|Zr <|Zx (.inl J) hsc () _ (fun a w hs => Yt hs Tryz.results22 (Yq (i := 1) J J iA49 zT49 J)) J trivial J Zj
theorem law_same3 (v u : Value) (zs : List (R2 × R2)) (l : List Int) (hl : ∀ x ∈ l, inI x) (h1 : 2 * zs.length = l.length) (hb : l.length ≤ 1000) (h2 : ∀ i, i < zs.length → zs.getD i ((0, 0), (0, 0)) = ((l.getD (2 * i) 0, 1), (l.getD (2 * i + 1) 0, 1))) : Cal Tryz.prog 50 #[v, u] [slp 8 iq v zs, slp 1 encZ u l] false (G := Unit) (fun _ => True) (fun _ => .bool true) (fun _ => []) := by
 refine Ye Tryz.func50 J Tryz.ntmps50 J K2 ?_
 intro w0 sc hw hsc
 simp only [Zq, Zo]
 refine Yk (Qa 999 2 28 wv) <|Yk (Xa 999 J J pV) <|Zb <|Ze <|Zm J J <|Zd <|Za <|Zb <|Zb <|Ze <|mv J J <|dt (Zy J J (i := 1) J Zi uT69) J <|dt (d_mul J J J ⟨by omega, by omega⟩) J <|mv J J <|dt (Zy J J (i := 2) J Zi uT37) J <|dt (Ym J J J) J <|Zd <|Za <|Zn J (fun h19 => ?_) (fun h19 => ?_)
 ·exfalso; omega
 ·refine Zk <|Za <|Zb <|Zb <|Ze <|mv J J <|dt (Zy J J (i := 1) J Zi uT69) J <|mv J J <|Zd <|Za <|Zv <|Qc [(1, _), (13, _), (14, _)] [(0, _), (1, _), (2, _), (999, _)] (fun (i : Nat) => [(15, .int .i64 (i : Int))]) (fun (i : Nat) => []) (fun (i : Nat) => (i ≤ zs.length)) (fun (i : Nat) => zs.length - i) 0 (by first | omega | (dsimp only <;> omega)) K4 K4 ?_
  rintro i hi
  simp only [List.cons_append, List.nil_append]
  refine Zb <|Ze <|dt (Xj J J J) J <|Zd <|Za <|Zb <|Zn J (fun h22 => ?_) (fun h22 => ?_)
  ·refine Zk <|Za <|Zb <|Zv <|Zb <|Ze <|mv J J <|dt (Yn (ii := 1) J J J J Zi uT69 zT79 J (by first | omega | (simp only [List.length_set]; omega))) J <|dt (Ys (ii := 1) ((0, 0), (0, 0)) J J J Zi pY (by first | omega | (simp only [List.length_set]; omega))) J <|tt (Zp (i := 3) J J J Tryz.zeroValue79 J J hw) J fun bx _ => Zm J J <|tt (Zl (i := 3) J J J J J (by decide) J zT79 J J ⟨(Zc J), (Zc J), (Zc J), (Zc J), (Zc J), (Zc J), (Zc J), (Zc J), trivial⟩ J hw trivial) J fun _ _ => Zd <|Za <|Zb <|Xd (fun _ => False) [(0, 0), (1, 0), (2, 0), (3, 0), (4, 0), (5, 0), (7, 0), (8, 0), (9, 0), (10, 0), (11, 0), (12, 0), (6, 1), (13, 1), (14, 0), (15, 0)] (by kernel_rfl) ?_ ?_
   ·kernel_rfl
   refine r0' J J J J (st0 (d_lb8 (i := 3) J J J iA79 zT79 J J J J J J J J)) <|r0' J J J J (st0 (Zw J J)) <|r0' J J J J (st0 (Zw J J)) <|r0' J J J J (st0 (d_mul J J J ⟨by omega, by omega⟩)) <|r0' J J J J (st0 (Yn (ii := 2) (i := (2 * i)) J J J J Zi uT37 zT3 (by omega) (by omega))) <|r0' J J J J (st0 (Ys (ii := 2) 0 J J J Zi pZ (by first | omega | (simp only [List.length_set]; omega)))) <|r0' J J J J (st0 (Zw J J)) <|r0' J J J J (st0 (Zw J J)) <|r0' J J J J (st0 (d_mul J J J ⟨by omega, by omega⟩)) <|r0' J J J J (st0 (Yl J J J ⟨by omega, by omega⟩)) <|r0' J J J J (st0 (Yn (ii := 2) (i := (2 * i + 1)) J J J J Zi uT37 zT3 (by omega) (by omega))) <|r0' J J J J (st0 (Ys (ii := 2) 0 J J J Zi pZ (by first | omega | (simp only [List.length_set]; omega)))) <|r1' J J (Zh (n := 3) (law_q _ _ (getD_inI hl _) ⟨by decide, by decide⟩) J J J K2 cF22 Zf J hw) fun _ _ => r1' J J (Zh (n := 3) (law_q _ _ (getD_inI hl _) ⟨by decide, by decide⟩) J J J K2 cF22 Zf J hw) fun _ _ => r0' J J J J (st0 (Xg (ivs := [(0, _), (1, _)]) J K4 (fun a w hs => b79_01))) <|r0' J J J J (st0 (Zu (r' := .bool false) (d_eqg J J J eg79 (fun w => neq79 w _ _ _ _ _ _ _ _ _ _ _ _ _ _ _ _)) (congrArg Value.bool (by simp only [h2 i (by omega)]; simp [eqW_refl])))) <|Xo <|Za <|Yc J <|Zk <|Xq <|Za ?_
   exact Ze <|dt (Yl J J J ⟨by omega, by omega⟩) J <|mv J J <|Zd <|Xe (i + 1) (by first | omega | (dsimp only <;> omega)) (by first | omega | (dsimp only <;> omega)) K4 K4
  ·exact Yv <|Zz <|Zz <|Xz <|Za <|Zb <|Ze <|Zm J J <|Zd <|Za <|Zr <|Zx (.inl J) hsc () _ (fun a w hs => Yt hs Tryz.results50 J) J trivial J Zj
end Go.Sky
namespace Go.Sky
open Go.Proofs
set_option linter.unusedVariables false
set_option maxRecDepth 20000
instance sqDec (F : Nat) (xs : List Int) : Decidable (sqOK F xs) := by unfold sqOK; infer_instance
instance cokDec : ∀ f a b, Decidable (cok f a b)
  | 0, _, b => inferInstanceAs (Decidable (b = []))
  | f + 1, a, b => @instDecidableOr _ _ _ (@instDecidableAnd _ _ _ (@instDecidableAnd _ _ _ (cokDec f b (snext a b))))
instance chDec (F : Nat) (xs : List Int) : Decidable (chOK F xs) := by unfold chOK; infer_instance
instance evDec (F : Nat) (xs : List Int) : DecidablePred (evc F xs) := fun m => by unfold evc; infer_instance
instance isDec (F : Nat) (xs : List Int) (f : Nat) (a b : R2) (hq : Int) : Decidable (isOK F xs f a b hq) := by unfold isOK; infer_instance
instance okQDec (a : R2) : Decidable (okQ a) := by unfold okQ; infer_instance
theorem k_sq1 (v : Value) : Cal Tryz.prog 19 #[v] [slp 2 wv v [1, 2, 1]] true (G := Value) (fun r => True) (fun r => .tuple #[r, .int .i64 0]) (fun r => [slp 2 wv r [1, 1]]) := by
  have h := st_sqf v [1, 2, 1] (vp_b (by decide +kernel)) (by decide +kernel) (by decide +kernel) 12 (by decide +kernel)
  rw [show sqf 12 [1, 2, 1] = [1, 1] by decide +kernel] at h
  exact h
theorem k_sq2 (v : Value) : Cal Tryz.prog 19 #[v] [slp 2 wv v [0, 0, -6]] true (G := Value) (fun r => True) (fun r => .tuple #[r, .int .i64 0]) (fun r => [slp 2 wv r [0, 1]]) := by
  have h := st_sqf v [0, 0, -6] (vp_b (by decide +kernel)) (by decide +kernel) (by decide +kernel) 12 (by decide +kernel)
  rw [show sqf 12 [0, 0, -6] = [0, 1] by decide +kernel] at h
  exact h
theorem k_sq3 (v : Value) : Cal Tryz.prog 19 #[v] [slp 2 wv v [5]] true (G := Value) (fun r => True) (fun r => .tuple #[r, .int .i64 0]) (fun r => [slp 2 wv r [1]]) := by
  have h := st_sqf v [5] (vp_b (by decide +kernel)) (by decide +kernel) (by decide +kernel) 12 (by decide +kernel)
  rw [show sqf 12 [5] = [1] by decide +kernel] at h
  exact h
theorem k_ch1 (v : Value) : Cal Tryz.prog 20 #[v] [slp 2 wv v [-2, 0, 1]] true (G := Value × List (SL × List Int)) (fun r => r.2.map Prod.snd = [[-2, 0, 1], [0, 1], [1]]) (fun r => .tuple #[r.1, .int .i64 0]) (fun r => [deep 1 encS qZ r.1 r.2]) := by
  have h := st_chain v [-2, 0, 1] (vp_b (by decide +kernel)) (by decide +kernel) (by decide +kernel) 12 (by decide +kernel)
  rw [show chn 12 [-2, 0, 1] = [[-2, 0, 1], [0, 1], [1]] by decide +kernel] at h
  exact h
theorem k_ch2 (v : Value) : Cal Tryz.prog 20 #[v] [slp 2 wv v [-4]] true (G := Value × List (SL × List Int)) (fun r => r.2.map Prod.snd = [[1]]) (fun r => .tuple #[r.1, .int .i64 0]) (fun r => [deep 1 encS qZ r.1 r.2]) := by
  have h := st_chain v [-4] (vp_b (by decide +kernel)) (by decide +kernel) (by decide +kernel) 12 (by decide +kernel)
  rw [show chn 12 [-4] = [[1]] by decide +kernel] at h
  exact h
theorem k_cnt1 (v : Value) : Cal Tryz.prog 28 #[v, .agg #[.bool (decide ((0 : Int) < 0)), .string (bstr (0 : Int).natAbs), .bool (decide ((1 : Int) < 0)), .string (bstr (1 : Int).natAbs)], .agg #[.bool (decide ((2 : Int) < 0)), .string (bstr (2 : Int).natAbs), .bool (decide ((1 : Int) < 0)), .string (bstr (1 : Int).natAbs)]] [slp 2 wv v [-2, 0, 1]] false (G := Unit) (fun _ => True) (fun _ => .tuple #[.int .i64 1, .int .i64 0]) (fun _ => []) := by
  have h := st_count v [-2, 0, 1] (vp_b (by decide +kernel)) 0 1 2 1 (by decide +kernel) (by decide +kernel) (by decide +kernel) (by decide +kernel) (by decide) (by decide) 12 (by decide) (by decide +kernel) (by decide +kernel) (by decide +kernel) (by decide +kernel)
  rw [show cnt 12 [-2, 0, 1] 0 1 - cnt 12 [-2, 0, 1] 2 1 = 1 by decide +kernel] at h
  exact h
theorem k_cnt2 (v : Value) : Cal Tryz.prog 28 #[v, .agg #[.bool (decide ((-2 : Int) < 0)), .string (bstr (-2 : Int).natAbs), .bool (decide ((1 : Int) < 0)), .string (bstr (1 : Int).natAbs)], .agg #[.bool (decide ((2 : Int) < 0)), .string (bstr (2 : Int).natAbs), .bool (decide ((1 : Int) < 0)), .string (bstr (1 : Int).natAbs)]] [slp 2 wv v [-2, 0, 1]] false (G := Unit) (fun _ => True) (fun _ => .tuple #[.int .i64 2, .int .i64 0]) (fun _ => []) := by
  have h := st_count v [-2, 0, 1] (vp_b (by decide +kernel)) (-2) 1 2 1 (by decide +kernel) (by decide +kernel) (by decide +kernel) (by decide +kernel) (by decide) (by decide) 12 (by decide) (by decide +kernel) (by decide +kernel) (by decide +kernel) (by decide +kernel)
  rw [show cnt 12 [-2, 0, 1] (-2) 1 - cnt 12 [-2, 0, 1] 2 1 = 2 by decide +kernel] at h
  exact h
theorem k_cnt3 (v : Value) : Cal Tryz.prog 28 #[v, .agg #[.bool (decide ((0 : Int) < 0)), .string (bstr (0 : Int).natAbs), .bool (decide ((1 : Int) < 0)), .string (bstr (1 : Int).natAbs)], .agg #[.bool (decide ((1 : Int) < 0)), .string (bstr (1 : Int).natAbs), .bool (decide ((1 : Int) < 0)), .string (bstr (1 : Int).natAbs)]] [slp 2 wv v [0, 1]] false (G := Unit) (fun _ => True) (fun _ => .tuple #[.int .i64 0, .int .i64 0]) (fun _ => []) := by
  have h := st_count v [0, 1] (vp_b (by decide +kernel)) 0 1 1 1 (by decide +kernel) (by decide +kernel) (by decide +kernel) (by decide +kernel) (by decide) (by decide) 12 (by decide) (by decide +kernel) (by decide +kernel) (by decide +kernel) (by decide +kernel)
  rw [show cnt 12 [0, 1] 0 1 - cnt 12 [0, 1] 1 1 = 0 by decide +kernel] at h
  exact h
theorem k_cnt4 (v : Value) : Cal Tryz.prog 28 #[v, .agg #[.bool (decide ((-1 : Int) < 0)), .string (bstr (-1 : Int).natAbs), .bool (decide ((1 : Int) < 0)), .string (bstr (1 : Int).natAbs)], .agg #[.bool (decide ((0 : Int) < 0)), .string (bstr (0 : Int).natAbs), .bool (decide ((1 : Int) < 0)), .string (bstr (1 : Int).natAbs)]] [slp 2 wv v [0, 1]] false (G := Unit) (fun _ => True) (fun _ => .tuple #[.int .i64 1, .int .i64 0]) (fun _ => []) := by
  have h := st_count v [0, 1] (vp_b (by decide +kernel)) (-1) 1 0 1 (by decide +kernel) (by decide +kernel) (by decide +kernel) (by decide +kernel) (by decide) (by decide) 12 (by decide) (by decide +kernel) (by decide +kernel) (by decide +kernel) (by decide +kernel)
  rw [show cnt 12 [0, 1] (-1) 1 - cnt 12 [0, 1] 0 1 = 1 by decide +kernel] at h
  exact h
theorem k_cne1 (v : Value) : Cal Tryz.prog 28 #[v, .agg #[.bool (decide ((0 : Int) < 0)), .string (bstr (0 : Int).natAbs), .bool (decide ((1 : Int) < 0)), .string (bstr (1 : Int).natAbs)], .agg #[.bool (decide ((1 : Int) < 0)), .string (bstr (1 : Int).natAbs), .bool (decide ((1 : Int) < 0)), .string (bstr (1 : Int).natAbs)]] [slp 2 wv v []] false (G := Unit) (fun _ => True) (fun _ => .tuple #[.int .i64 0, .int .i64 3]) (fun _ => []) := by
  have h := st_count_err v [] (vp_b (by decide +kernel)) 0 1 1 1 (by decide +kernel) (by decide +kernel) (by decide +kernel) (by decide +kernel) (by decide) (by decide) (by decide +kernel)
  rw [show chk2r [] 0 1 1 1 = 3 by decide +kernel] at h
  exact h
theorem k_cne2 (v : Value) : Cal Tryz.prog 28 #[v, .agg #[.bool (decide ((1 : Int) < 0)), .string (bstr (1 : Int).natAbs), .bool (decide ((1 : Int) < 0)), .string (bstr (1 : Int).natAbs)], .agg #[.bool (decide ((0 : Int) < 0)), .string (bstr (0 : Int).natAbs), .bool (decide ((1 : Int) < 0)), .string (bstr (1 : Int).natAbs)]] [slp 2 wv v [1, 1]] false (G := Unit) (fun _ => True) (fun _ => .tuple #[.int .i64 0, .int .i64 3]) (fun _ => []) := by
  have h := st_count_err v [1, 1] (vp_b (by decide +kernel)) 1 1 0 1 (by decide +kernel) (by decide +kernel) (by decide +kernel) (by decide +kernel) (by decide) (by decide) (by decide +kernel)
  rw [show chk2r [1, 1] 1 1 0 1 = 3 by decide +kernel] at h
  exact h
theorem k_tot1 (v : Value) : Cal Tryz.prog 29 #[v] [slp 2 wv v [1, 0, 1]] false (G := Unit) (fun _ => True) (fun _ => .tuple #[.int .i64 0, .int .i64 0]) (fun _ => []) := by
  have h := st_total v [1, 0, 1] (vp_b (by decide +kernel)) 12 (by decide) (by decide +kernel) (by decide +kernel) (by decide +kernel)
  rw [show sleft 12 [1, 0, 1] - sright 12 [1, 0, 1] = 0 by decide +kernel] at h
  exact h
theorem k_tot2 (v : Value) : Cal Tryz.prog 29 #[v] [slp 2 wv v [0, -1, 0, 1]] false (G := Unit) (fun _ => True) (fun _ => .tuple #[.int .i64 3, .int .i64 0]) (fun _ => []) := by
  have h := st_total v [0, -1, 0, 1] (vp_b (by decide +kernel)) 12 (by decide) (by decide +kernel) (by decide +kernel) (by decide +kernel)
  rw [show sleft 12 [0, -1, 0, 1] - sright 12 [0, -1, 0, 1] = 3 by decide +kernel] at h
  exact h
theorem k_bd1 (v : Value) : Cal Tryz.prog 12 #[v] [slp 2 wv v [-2, 0, 1]] false (G := Unit) (fun _ => True) (fun _ => .tuple #[wv 4, .int .i64 0]) (fun _ => []) := by
  have h := st_bound v [-2, 0, 1] (vp_b (by decide +kernel)) (by decide +kernel)
  rw [show sbound [-2, 0, 1] = 4 by decide +kernel] at h
  exact h
theorem k_bd2 (v : Value) : Cal Tryz.prog 12 #[v] [slp 2 wv v [3]] false (G := Unit) (fun _ => True) (fun _ => .tuple #[wv 2, .int .i64 0]) (fun _ => []) := by
  have h := st_bound v [3] (vp_b (by decide +kernel)) (by decide +kernel)
  rw [show sbound [3] = 2 by decide +kernel] at h
  exact h
theorem k_is1 (v : Value) : Cal Tryz.prog 35 #[v, .agg #[.bool (decide ((-2 : Int) < 0)), .string (bstr (-2 : Int).natAbs), .bool (decide ((1 : Int) < 0)), .string (bstr (1 : Int).natAbs)], .agg #[.bool (decide ((2 : Int) < 0)), .string (bstr (2 : Int).natAbs), .bool (decide ((1 : Int) < 0)), .string (bstr (1 : Int).natAbs)], .int .i64 2] [slp 2 wv v [-2, 0, 1]] true (G := Value) (fun r => True) (fun r => .tuple #[r, .int .i64 0]) (fun r => [slp 8 iq r [((-2, 1), (-1, 1)), ((1, 1), (2, 1))]]) := by
  have h := st_isolate v [-2, 0, 1] (vp_b (by decide +kernel)) ((-2 : Int), (1 : Int)) ((2 : Int), (1 : Int)) 2 (by decide +kernel) (by decide +kernel) (by decide) (by decide +kernel) 12 (by decide) 20 (by decide +kernel)
  rw [show sisol 12 [-2, 0, 1] 20 ((-2 : Int), (1 : Int)) ((2 : Int), (1 : Int)) 2 = [((-2, 1), (-1, 1)), ((1, 1), (2, 1))] by decide +kernel] at h
  exact h
theorem k_is2 (v : Value) : Cal Tryz.prog 35 #[v, .agg #[.bool (decide ((0 : Int) < 0)), .string (bstr (0 : Int).natAbs), .bool (decide ((1 : Int) < 0)), .string (bstr (1 : Int).natAbs)], .agg #[.bool (decide ((4 : Int) < 0)), .string (bstr (4 : Int).natAbs), .bool (decide ((1 : Int) < 0)), .string (bstr (1 : Int).natAbs)], .int .i64 0] [slp 2 wv v [1, -2, 1]] true (G := Value) (fun r => True) (fun r => .tuple #[r, .int .i64 0]) (fun r => [slp 8 iq r [((0, 1), (4, 1))]]) := by
  have h := st_isolate v [1, -2, 1] (vp_b (by decide +kernel)) ((0 : Int), (1 : Int)) ((4 : Int), (1 : Int)) 0 (by decide +kernel) (by decide +kernel) (by decide) (by decide +kernel) 12 (by decide) 20 (by decide +kernel)
  rw [show sisol 12 [1, -2, 1] 20 ((0 : Int), (1 : Int)) ((4 : Int), (1 : Int)) 0 = [((0, 1), (4, 1))] by decide +kernel] at h
  exact h
theorem k_p (v : Value) (l xs : List Int) (h1 : (l.all fun x => decide (-1000000 ≤ x) && decide (x ≤ 1000000)) = true) (h2 : l.length ≤ 1000) (hx : tzl l = xs) : Cal Tryz.prog 39 #[v] [slp 1 encZ v l] true (G := Value) (fun r => True) (fun r => r) (fun r => [slp 2 wv r xs]) := by
  subst hx; exact law_p v l (inI_all h1) h2
end Go.Sky
namespace Go.Sky
set_option linter.unusedVariables false
def oe (f : Nat → Int) : Nat → Int
  | 0 => 0
  | k + 1 => err (oe f k) (f k)
end Go.Sky
namespace Go.Sky
set_option linter.unusedVariables false
def mon (d n : Nat) : List Int := mono d ((2 : Int) ^ n)
theorem bl_pow2 (n : Nat) : bl ((2 : Int) ^ n).natAbs = n + 1 := by
  rw [Int.natAbs_pow]
  refine Nat.le_antisymm ((bl_le (n + 1) _).2 (Nat.pow_lt_pow_right (by decide) (Nat.lt_succ_self n))) ?_
  rcases Nat.lt_or_ge n (bl (Int.natAbs 2 ^ n)) with h | h
  · exact h
  · have := (bl_le n _).1 h
    exact absurd this (Nat.lt_irrefl _)
theorem pow2_pos (n : Nat) : (0 : Int) < 2 ^ n := Int.pow_pos (by decide)
theorem dg_pow2 (n : Nat) : dg 256 (2 ^ n) = List.replicate (n / 8) 0 ++ [2 ^ (n % 8)] := by
  have hlt : 2 ^ (n % 8) < 256 := Nat.lt_of_lt_of_le (Nat.pow_lt_pow_right (by decide) (Nat.mod_lt n (by decide))) (by decide)
  have hp : 0 < 2 ^ (n % 8) := Nat.pow_pos (by decide)
  have e : 2 ^ n = 256 ^ (n / 8) * 2 ^ (n % 8) := by
    rw [show (256 : Nat) = 2 ^ 8 from rfl, ← Nat.pow_mul, ← Nat.pow_add]; congr 1; omega
  have hlen : (dg 256 (2 ^ n)).length = n / 8 + 1 := by
    refine Nat.le_antisymm ((dg_length_le (by omega) (n / 8 + 1) (2 ^ n)).2 ?_) ?_
    · rw [e, Nat.pow_succ]; exact Nat.mul_lt_mul_of_pos_left hlt (Nat.pow_pos (by decide))
    · rcases Nat.lt_or_ge (n / 8) (dg 256 (2 ^ n)).length with h | h
      · exact h
      · have := (dg_length_le (by omega) (n / 8) (2 ^ n)).1 h
        rw [e] at this
        have h3 : 256 ^ (n / 8) * 1 ≤ 256 ^ (n / 8) * 2 ^ (n % 8) := Nat.mul_le_mul_left _ hp
        omega
  refine eq_of_getD (by rw [hlen]; simp) fun j hj => ?_
  rw [dg_getD (by omega), e]
  rw [hlen] at hj
  rcases Nat.lt_or_ge j (n / 8) with h | h
  · have e2 : 256 ^ (n / 8) * 2 ^ (n % 8) = 256 ^ j * (256 * (256 ^ (n / 8 - j - 1) * 2 ^ (n % 8))) := by
      rw [← Nat.mul_assoc, ← Nat.mul_assoc, ← Nat.pow_succ, ← Nat.pow_add]; congr 2; omega
    rw [e2, Nat.mul_div_cancel_left _ (Nat.pow_pos (by decide)), Nat.mul_mod_right]
    simp [List.getD, List.getElem?_append, h]
  · obtain rfl : j = n / 8 := by omega
    rw [Nat.mul_div_cancel_left _ (Nat.pow_pos (by decide)), Nat.mod_eq_of_lt hlt]
    simp [List.getD]
theorem bstr_pow2 (n : Nat) : bstr ((2 : Int) ^ n).natAbs = ⟨(((List.replicate (n / 8 + 1) 0).set 0 (2 ^ (n % 8))).map UInt8.ofNat).toArray⟩ := by
  unfold bstr
  rw [Int.natAbs_pow, show Int.natAbs 2 = 2 from rfl, dg_pow2, List.reverse_append, List.reverse_replicate]
  rfl
variable {P : Program} {N : Nat} {sc : Nat → Prop} {env : Env} {H : Hp}
theorem d_shl8 {o : Oper} {t t' : TypeId} {x y : Operand} {m n : Nat} {n' : Int} (ho : o.op = .binOp .shl t x y t') (hx : ev env x = some (.int .u8 (m : Int))) (hy : ev env y = some (.int .i64 n')) (hn' : n' = (n : Int)) (hn : n ≤ 8) (hlt : m * 2 ^ n < 256) : Det P N sc o env H (.int .u8 ((m * 2 ^ n : Nat) : Int)) := fun a w hs => by
  subst hn'
  have h1 : min n 8 = n := by omega
  have h2 : IntKind.u8.wrap ((m : Int) * 2 ^ n) = ((m * 2 ^ n : Nat) : Int) := by
    simp only [IntKind.wrap, IntKind.bits, IntKind.signed]
    have : ((m : Int) * 2 ^ n) = ((m * 2 ^ n : Nat) : Int) := by push_cast; rfl
    rw [this]
    simp
    omega
  have h3 : ¬ ((n : Int) < 0) := by omega
  have h2' : IntKind.u8.wrap (↑m * 2 ^ n) = ↑m * 2 ^ n := by rw [h2]; push_cast; rfl
  simp [execOp, ho, hs.ev hx, hs.ev hy, eqGuard, binOp, Op.shift, IntKind.bits, h1, h2', h3]
end Go.Sky
namespace Go.Sky
set_option linter.unusedVariables false
set_option maxRecDepth 20000
theorem lim_pos : ∀ n, n < 512 → cnt 12 [0, -1, 0, 1] 0 1 - cnt 12 [0, -1, 0, 1] ((2 : Int) ^ n) 1 = 1 := by decide +kernel
theorem lim_neg : ∀ n, n < 512 → cnt 12 [0, -1, 0, 1] (-(2 : Int) ^ n) 1 - cnt 12 [0, -1, 0, 1] 0 1 = if n = 0 then 1 else 2 := by decide +kernel
theorem lim_near : ∀ n, n < 512 → cnt 12 [-1, 0, 4] 0 1 - cnt 12 [-1, 0, 4] 1 ((2 : Int) ^ n) = if n ≤ 1 then 1 else 0 := by decide +kernel
theorem ef_pow (n : Nat) (b : Bool) {y : Int} (hy : bl y.natAbs ≤ 512) : ef (if b then -(2 : Int) ^ n else (2 : Int) ^ n, y) = decide (512 ≤ n) ∧ ef (y, (2 : Int) ^ n) = decide (512 ≤ n) := by
  have h : bl (if b then -(2 : Int) ^ n else (2 : Int) ^ n).natAbs = n + 1 := by
    split
    · rw [Int.natAbs_neg, bl_pow2]
    · rw [bl_pow2]
  unfold ef
  dsimp only
  rw [h, bl_pow2, decide_eq_false (by omega : ¬ 512 < bl y.natAbs), Bool.or_false, Bool.false_or]
  exact ⟨decide_eq_decide.2 (by omega), decide_eq_decide.2 (by omega)⟩
theorem ef_y0 : ef (0, 1) = false := by decide +kernel
theorem lim_f1 : sfits [0, -1, 0, 1] ∧ sfits [-1, 0, 4] := by decide +kernel
theorem lim_chk (n : Nat) : chk2r [0, -1, 0, 1] 0 1 ((2 : Int) ^ n) 1 = (if 512 ≤ n then 7 else 0) ∧ chk2r [0, -1, 0, 1] (-(2 : Int) ^ n) 1 0 1 = (if 512 ≤ n then 7 else 0) ∧ chk2r [-1, 0, 4] 0 1 1 ((2 : Int) ^ n) = (if 512 ≤ n then 7 else 0) := by
  have hp := pow2_pos n
  have e1 := (ef_pow n false (y := 1) (by decide)).1
  have e2 := (ef_pow n true (y := 1) (by decide)).1
  have e3 := (ef_pow n false (y := 1) (by decide)).2
  simp only [Bool.false_eq_true, if_false, if_true] at e1 e2
  have e0 := ef_y0
  obtain ⟨f1, f2⟩ := lim_f1
  unfold chk2r
  by_cases h : 512 ≤ n
  · refine ⟨?_, ?_, ?_⟩
    · rw [if_neg (by decide), if_neg (by omega), if_neg (fun hh => by rw [e1, decide_eq_true h] at hh; cases hh.2.2), if_pos h]
    · rw [if_neg (by decide), if_neg (by omega), if_neg (fun hh => by rw [e2, decide_eq_true h] at hh; cases hh.2.1), if_pos h]
    · rw [if_neg (by decide), if_neg (by omega), if_neg (fun hh => by rw [e3, decide_eq_true h] at hh; cases hh.2.2), if_pos h]
  · refine ⟨?_, ?_, ?_⟩
    · rw [if_neg (by decide), if_neg (by omega), if_pos ⟨f1, e0, by rw [e1, decide_eq_false h]⟩, if_neg h]
    · rw [if_neg (by decide), if_neg (by omega), if_pos ⟨f1, by rw [e2, decide_eq_false h], e0⟩, if_neg h]
    · rw [if_neg (by decide), if_neg (by omega), if_pos ⟨f2, e0, by rw [e3, decide_eq_false h]⟩, if_neg h]
theorem evc_small {F : Nat} {xs : List Int} {e : Nat} {x y : Int} (h : (chn F xs).all (fun p => decide (msz p + p.length * e + 8 ≤ 65536)) = true) (hx : bl x.natAbs ≤ e) (hy : bl y.natAbs ≤ e) : ∀ p ∈ chn F xs, ¬ evfull p x y := fun p hp h2 => by
  have h3 := of_decide_eq_true (List.all_eq_true.1 h p hp)
  have h4 : msz [x, y] ≤ e := msz_le (Sz.of_mem fun z hz => by
    rcases List.mem_cons.1 hz with rfl | hz
    · exact hx
    · rw [List.mem_singleton.1 hz]; exact hy)
  have h5 : (p.length - 1) * msz [x, y] ≤ p.length * e := Nat.mul_le_mul (by omega) h4
  have := h2.2
  omega
theorem lim_a1 : (chn 12 [0, -1, 0, 1]).all (fun p => decide (msz p + p.length * 520 + 8 ≤ 65536)) = true := by decide +kernel
theorem lim_a2 : (chn 12 [-1, 0, 4]).all (fun p => decide (msz p + p.length * 520 + 8 ≤ 65536)) = true := by decide +kernel
def evB (ls : List (List Int)) (m : R2) : Bool := ls.all fun p => !decide (evfull p m.1 m.2)
def F2 : List Int := pmul [-1, 3] [-(2 ^ 1100 + 3), 3 * 2 ^ 1100]
def C2 : List (List Int) := [[2 ^ 1100 + 3, -(6 * 2 ^ 1100 + 9), 9 * 2 ^ 1100], [-(2 * 2 ^ 1100 + 3), 6 * 2 ^ 1100], [1]]
def aF : Nat → R2
  | 0 => (-1, 1)
  | d + 1 => slow (2 ^ d / 3, 2 ^ d)
def bF : Nat → R2
  | 0 => (1, 1)
  | d + 1 => slow (2 ^ d / 3 + 1, 2 ^ d)
def cvC (m : R2) : Int := chg (C2.map (fat m.1 m.2))
end Go.Sky
namespace Go.Sky
set_option linter.unusedVariables false
set_option maxRecDepth 20000
theorem pow2_mod3 (d : Nat) : (2 : Int) ^ d % 3 = 1 ∨ (2 : Int) ^ d % 3 = 2 := by
  induction d with
  | zero => left; decide
  | succ d ih => rw [Int.pow_succ]; omega
theorem f2_side {T : Int} {d : Nat} {z : R2} (hT : 3 * (2 : Int) ^ d < T) (hz : En 1 1 d z) : ((3 : Rat) * qv z < 1 ∧ ((3 * T : Int) : Rat) * qv z < ((T + 3 : Int) : Rat)) ∨ ((1 : Rat) < 3 * qv z ∧ ((T + 3 : Int) : Rat) < ((3 * T : Int) : Rat) * qv z) := by
  obtain ⟨hp, ⟨k, hk⟩, -, -⟩ := hz
  have hk2 : (2 : Int) ^ d = z.2 * k := by
    rw [← hk]; push_cast; omega
  have hP : (0 : Int) < 2 ^ d := Int.pow_pos (by decide)
  have hm := pow2_mod3 d
  have rp := rat_pos hp
  have hq : qv z * (((2 : Int) ^ d : Int) : Rat) = ((z.1 * k : Int) : Rat) := by
    rw [hk2]; unfold qv; push_cast; grind
  generalize (2 : Int) ^ d = P at *
  have rP := rat_pos hP
  have rT := rat_pos (show 0 < T by omega)
  generalize z.1 * k = u at *
  rcases (show 3 * u < P ∨ P + 1 ≤ 3 * u by omega) with h | h
  · left
    have h' : ((3 * u : Int) : Rat) < (P : Rat) := by exact_mod_cast h
    push_cast at h' ⊢
    have h1 : 3 * qv z < 1 := by
      rcases (show 3 * qv z < 1 ∨ 1 ≤ 3 * qv z by grind) with h9 | h9
      · exact h9
      · have := Rat.mul_nonneg (a := 3 * qv z - 1) (b := (P : Rat)) (by grind) (by grind); grind
    refine ⟨h1, ?_⟩
    have := Rat.mul_pos rT (show 0 < 1 - 3 * qv z by grind)
    grind
  · right
    have h' : ((P + 1 : Int) : Rat) ≤ ((3 * u : Int) : Rat) := by exact_mod_cast h
    have hT' : ((3 * P : Int) : Rat) < (T : Rat) := by exact_mod_cast hT
    push_cast at h' hT' ⊢
    have h1 : 1 < 3 * qv z := by
      rcases (show 1 < 3 * qv z ∨ 3 * qv z ≤ 1 by grind) with h9 | h9
      · exact h9
      · have := Rat.mul_nonneg (a := 1 - 3 * qv z) (b := (P : Rat)) (by grind) (by grind); grind
    refine ⟨h1, ?_⟩
    rcases (show (T : Rat) + 3 < 3 * T * qv z ∨ 3 * (T : Rat) * qv z ≤ T + 3 by grind) with h9 | h9
    · exact h9
    · exfalso
      have t1 := Rat.mul_nonneg (a := (T : Rat) + 3 - 3 * T * qv z) (b := (P : Rat)) (by grind) (by grind)
      have t2 := Rat.mul_nonneg (a := (T : Rat)) (b := 3 * (qv z * P) - (P + 1)) (by grind) (by grind)
      grind
theorem f2_away {T : Int} {s t : Rat} {p : List Int} (hT : 0 < T) (hp : ∀ x, rev p x = rev [-1, 3] x * rev [-(T + 3), 3 * T] x) (h1 : (1 : Rat) < 3 * s ∨ 3 * t < 1) (h2 : ((T + 3 : Int) : Rat) < ((3 * T : Int) : Rat) * s ∨ ((3 * T : Int) : Rat) * t < ((T + 3 : Int) : Rat)) : Away s t (rev p) :=
  (Away.lin (r := 1) (d := 3) (by decide) (by push_cast; exact h1)).mul (Away.lin (r := T + 3) (d := 3 * T) (by omega) h2) hp
theorem f2_mid {xs : List Int} {F : Nat} {T : Int} {d : Nat} {a b m : R2} (hx : Tr xs) (h0 : xs ≠ []) (hC : chOK F xs) (hT : 3 * (2 : Int) ^ d < T) (hp : ∀ x, rev xs x = rev [-1, 3] x * rev [-(T + 3), 3 * T] x) (hm : En 1 1 d m) (h1 : qv a ≤ qv m) (h2 : qv m ≤ qv b) : vch F xs (qv a) = vch F xs (qv m) ∨ vch F xs (qv m) = vch F xs (qv b) := by
  have hT0 : 0 < T := by have : (0 : Int) < 2 ^ d := Int.pow_pos (by decide)
                         omega
  rcases f2_side hT hm with ⟨c1, c2⟩ | ⟨c1, c2⟩
  · left; exact chn_const hx h0 hC h1 (f2_away hT0 hp (.inr c1) (.inr c2))
  · right; exact chn_const hx h0 hC h2 (f2_away hT0 hp (.inl c1) (.inl c2))
theorem F2_rev (x : Rat) : rev F2 x = rev [-1, 3] x * rev [-(2 ^ 1100 + 3), 3 * 2 ^ 1100] x := rev_pmul _ _ x
theorem F2_ne : F2 ≠ [] := by decide +kernel
theorem F2_sz : msz F2 ≤ 1110 := by decide +kernel
theorem F2_len : F2.length = 3 := by decide +kernel
theorem F2_V : cnt 12 F2 (-1) 1 - cnt 12 F2 1 1 = 2 := by decide +kernel
theorem F2_ev : (chn 12 F2).all (fun p => decide (msz p + p.length * 1100 + 8 ≤ 65536)) = true := by decide +kernel
theorem F2_ok : Tr F2 ∧ F2 ≠ [] ∧ Sz 1110 F2 := ⟨tr_pmul _ _, F2_ne, (msz_sz F2).mono F2_sz⟩
theorem pow_T {d n : Nat} (h : d + 2 ≤ n) : 3 * (2 : Int) ^ d < 2 ^ n := by
  have h1 : (2 : Int) ^ (d + 2) ≤ 2 ^ n := by exact_mod_cast Nat.pow_le_pow_right (by decide : 0 < 2) h
  have h2 : (2 : Int) ^ (d + 2) = 2 ^ d * 2 * 2 := by rw [Int.pow_succ, Int.pow_succ]
  have h3 : (0 : Int) < 2 ^ d := Int.pow_pos (by decide)
  omega
end Go.Sky
open Go.Proofs
namespace Go.Sky
set_option maxRecDepth 20000
theorem F2_ch : chOK 12 F2 := by decide +kernel
theorem lim_fail (bh bo bk bs : Nat) (vl : Value) (ls : List (SL × List Int)) (hq : Int) (hh : 0 ≤ hq ∧ hq ≤ 200) (hvz : ∀ z ∈ ls, Vp z.2) (hll : ls.length ≤ 1000) (hgc : ls.map Prod.snd = chn 12 F2) :
    ∀ (k d : Nat) (a b : R2), d + k = 1000 → En 1 1 d a → En 1 1 d b → qv a ≤ qv b → vch 12 F2 (qv a) - vch 12 F2 (qv b) = 2 → ∀ vo : Value,
      CalP Tryz.prog 85 #[iq (a, b), .int .i64 (cvx ls a), .int .i64 (cvx ls b), .int .i64 (d : Int), .pointer (some ⟨bh, 0, none⟩), .pointer (some ⟨bo, 0, none⟩), .pointer (some ⟨bk, 0, none⟩), .pointer (some ⟨bs, 0, none⟩)] [rbox bh 3 #[.int .i64 hq], rbox bk 44 #[vl], deep 1 encS qZ vl ls, rbox bs 113 #[.func (.func 85) #[] #[.pointer (some ⟨bh, 0, none⟩), .pointer (some ⟨bo, 0, none⟩), .pointer (some ⟨bk, 0, none⟩), .pointer (some ⟨bs, 0, none⟩)]]] (gb bo 69 8 79 iq vo []) (G := Value) (fun _ => True) (fun _ => .int .i64 7) (fun g => gb bo 69 8 79 iq g [])
  | k, d, a, b, hdk, ha, hb, hab, hV, vo => by
    obtain ⟨hx, h0, hs⟩ := F2_ok
    have hcv : ∀ z : R2, 0 < z.2 → cvx ls z = vch 12 F2 (qv z) := fun z hz => by rw [cvx_eq hgc]; exact cvc_v hz
    have ea := hcv a ha.pos
    have eb := hcv b hb.pos
    obtain ⟨B, hBe⟩ : ∃ B, B = 1100 := ⟨_, rfl⟩
    have hD : ∀ d, d ≤ 1001 → 1 * 2 ^ d < 2 ^ B := fun d h => by rw [Nat.one_mul]; exact Nat.pow_lt_pow_right (by decide) (by omega)
    have hsz : ∀ d z, d ≤ 1001 → En 1 1 d z → bl z.1.natAbs ≤ B ∧ bl z.2.natAbs ≤ B := fun d z h hz => en_bl hz (by decide) (hD d h) (by rw [Nat.one_mul]; exact hD d h)
    have sa := hsz d a (by omega) ha
    have sb := hsz d b (by omega) hb
    have oa : okQ a := ⟨by omega, by omega, ha.pos⟩
    have ob : okQ b := ⟨by omega, by omega, hb.pos⟩
    have hr : ∀ z, -100000 ≤ cvx ls z ∧ cvx ls z ≤ 100000 := fun z => by
      have h := chg_range (sgx ls (fat z.1 z.2))
      rw [length_sgx] at h
      have e : cvx ls z = chg (sgx ls (fat z.1 z.2)) := rfl
      omega
    have hne : ¬ cvx ls a = cvx ls b := by omega
    have hnl : ¬ (cvx ls a - cvx ls b = 1 ∧ hq ≤ (d : Int)) := by omega
    by_cases hd : 1000 ≤ d
    · exact st_split_deep bh bo bk bs vl ls hq hvz hll vo [] a b _ _ d oa ob (hr a) (hr b) hne hnl hd (by omega)
    · obtain ⟨k, rfl⟩ : ∃ j, k = j + 1 := ⟨k - 1, by omega⟩
      have hpw : ∀ m n : Nat, m < n → 2 ^ m < 2 ^ n := fun m n h => Nat.pow_lt_pow_right (by decide) h
      obtain ⟨m1, m2, m3, m4, m5⟩ := mid_en (B := B) ha hb (by decide) (by rw [Nat.one_mul]; exact hpw _ _ (by omega)) (by rw [Nat.one_mul, Nat.mul_one, ← Nat.pow_succ']; exact hpw _ _ (by omega)) (by omega)
      have hev : evok ls (smid a b) := by
        rw [evok_eq hgc]
        exact evc_small F2_ev (by rw [← hBe]; exact m4) (by rw [← hBe]; exact m5)
      have em := hcv _ m2.pos
      have hm := f2_mid (F := 12) (T := 2 ^ 1100) (d := d + 1) (a := a) (b := b) hx h0 F2_ch (pow_T (by omega)) F2_rev m2 (by rw [m3]; grind) (by rw [m3]; grind)
      have hd2 : ((d + 1 : Nat) : Int) = (d : Int) + 1 := by push_cast; rfl
      by_cases hc : vch 12 F2 (qv a) = vch 12 F2 (qv (smid a b))
      · refine st_split_fr bh bo bk bs vl ls hq hvz hll vo [] a b _ _ d oa ob (hr a) (hr b) hne hnl (by omega) m1 hev (by simp) (by rw [ea, em, hc]) fun vo => ?_
        rw [← hd2]
        exact lim_fail bh bo bk bs vl ls hq hh hvz hll hgc k (d + 1) (smid a b) b (by omega) m2 hb.up (by rw [m3]; grind) (by omega) vo
      · refine st_split_fl bh bo bk bs vl ls hq hvz hll vo [] a b _ _ d oa ob (hr a) (hr b) hne hnl (by omega) m1 hev fun vo => ?_
        rw [← hd2]
        have := hm.resolve_left hc
        exact lim_fail bh bo bk bs vl ls hq hh hvz hll hgc k (d + 1) a (smid a b) (by omega) ha.up m2 (by rw [m3]; grind) (by omega) vo
  termination_by k => k
theorem F2_low : slow (-1, 1) = (-1, 1) ∧ slow (1, 1) = (1, 1) ∧ ¬ rfull (-1) 1 ∧ ¬ rfull 1 1 := by decide +kernel
theorem F2_chk : chk2r F2 (-1) 1 1 1 = 0 := by decide +kernel
theorem F2_vp : Vp F2 := ⟨F2_ok.2.2.mono (by decide), F2_ok.1, by rw [F2_len]; decide⟩
theorem st_isolate_f2 (v : Value) : Cal Tryz.prog 35 #[v, .agg #[.bool (decide ((-1 : Int) < 0)), .string (bstr (-1 : Int).natAbs), .bool (decide ((1 : Int) < 0)), .string (bstr (1 : Int).natAbs)], .agg #[.bool (decide ((1 : Int) < 0)), .string (bstr (1 : Int).natAbs), .bool (decide ((1 : Int) < 0)), .string (bstr (1 : Int).natAbs)], .int .i64 0] [slp 2 wv v F2] false (G := Unit) (fun _ => True) (fun _ => .tuple #[.slice none 0 0, .int .i64 7]) (fun _ => []) := by
  obtain ⟨l1, l2, r1, r2⟩ := F2_low
  have hb1 : bl (1 : Int).natAbs ≤ 1100 := by decide
  have ea : En 1 1 0 (-1, 1) := ⟨by decide, by decide, by unfold qv; decide +kernel, by unfold qv; decide +kernel⟩
  have eb : En 1 1 0 (1, 1) := ⟨by decide, by decide, by unfold qv; decide +kernel, by unfold qv; decide +kernel⟩
  have hV : vch 12 F2 (qv (-1, 1)) - vch 12 F2 (qv (1, 1)) = 2 := by
    rw [← cvc_v (z := (-1, 1)) (by decide), ← cvc_v (z := (1, 1)) (by decide)]; exact F2_V
  refine st_isolate_full v F2 F2_vp (-1, 1) (1, 1) 0 ⟨by decide, by decide, by decide⟩ ⟨by decide, by decide, by decide⟩ (by decide) F2_chk 12 (by decide) F2_ch (evc_small F2_ev (by decide) (by decide)) (evc_small F2_ev (by decide) (by decide)) r1 r2 fun bh bo bk bs vl ls hvz hll hgc vo => ?_
  rw [l1, l2]
  exact lim_fail bh bo bk bs vl ls 0 (by decide) hvz hll hgc 1000 0 (-1, 1) (1, 1) (by decide) ea eb (by unfold qv; decide +kernel) hV vo
end Go.Sky
namespace Go.Sky
open Go.Proofs
set_option maxRecDepth 20000
set_option maxHeartbeats 4000000
set_option linter.unusedVariables false
set_option linter.unusedSimpArgs false
end Go.Sky
namespace Go.Sky
open Go.Proofs
set_option maxRecDepth 20000
set_option maxHeartbeats 4000000
set_option linter.unusedVariables false
set_option linter.unusedSimpArgs false
end Go.Sky
namespace Go.Sky
open Go.Proofs
end Go.Sky
namespace Go.Sky
open Go.Proofs
set_option maxRecDepth 20000
set_option maxHeartbeats 4000000
set_option linter.unusedVariables false
set_option linter.unusedSimpArgs false
end Go.Sky
namespace Go.Sky
open Go.Proofs
set_option maxRecDepth 20000
set_option maxHeartbeats 4000000
set_option linter.unusedVariables false
set_option linter.unusedSimpArgs false
end Go.Sky
namespace Go.Sky
open Go.Proofs
set_option maxRecDepth 20000
set_option maxHeartbeats 4000000
set_option linter.unusedVariables false
set_option linter.unusedSimpArgs false
end Go.Sky
open Go.Proofs
namespace Go.Sky
abbrev cvr (ls : List (SL × List (Int × SL))) (m : R2) : Int := chg ((intsT ls).map (fat m.1 m.2))
end Go.Sky
namespace Go.Sky
open Go.Proofs
set_option maxRecDepth 20000
set_option maxHeartbeats 4000000
set_option linter.unusedVariables false
set_option linter.unusedSimpArgs false
set_option maxHeartbeats 4000000 in
theorem r_power (n : Nat) (hn : n ≤ 2000) : Cal Tryz.prog 40 #[.int .i64 (n : Int)] [] true (G := Value) (fun r => True) (fun r => .agg #[.bool (decide ((2 : Int) ^ n < 0)), r]) (fun r => [d9p r ((2 : Int) ^ n).natAbs]) := by
 refine Ye Tryz.func40 J Tryz.ntmps40 J trivial ?_
 intro w0 sc hw hsc
 simp only [Zq, Zo]
 refine Zb <|Ze <|tt (Zp (i := 1) J J J Tryz.zeroValue39 J J hw) J fun b _ => Zd <|Za <|Zb <|Ze <|tt (Zh (n := 72) (r_num 1 ⟨by decide, by decide⟩) J J J K1 cF43 Zf J hw) J fun v _ => tt (Zp (i := 97) J J J Tryz.zeroValue39 J J hw) J fun b_2 _ => tt (Zl (i := 97) J J J J J (by decide) J zT39 J J ⟨(Zc J), (Yf (i := 72) J Zi), trivial⟩ J hw trivial) J fun _ _ => Zd <|Za <|Zb <|Zv <|Qc [(2, _), (3, _)] [(0, _), (1, _)] (fun (q : Nat × Value) => [(0, .int .i64 (q.1 : Int))]) (fun (q : Nat × Value) => [(72, d9p q.2 ((2 : Int) ^ (n - q.1)).natAbs), (97, box b_2 39 #[.bool (decide (((2 : Int) ^ (n - q.1)) < 0)), q.2])]) (fun (q : Nat × Value) => (q.1 ≤ n)) (fun (q : Nat × Value) => q.1) (n, v) (by first | omega | (dsimp only <;> omega)) K3 ⟨(by rw [Nat.sub_self]; rfl), (by rw [Nat.sub_self]; rfl), J, J, trivial⟩ ?_
 rintro ⟨m, vx⟩ hm
 dsimp only at hm
 simp only [List.cons_append, List.nil_append]
 have hbw := bl_pow2 (n - m)
 have hpw : 20 ≤ m → (2 : Int) ^ (n - (m - 20)) = 2 ^ (n - m) * 1048576 := fun h => by rw [show n - (m - 20) = n - m + 20 by omega, Int.pow_add]; rfl
 refine Zb <|Zb <|Ze <|mv J J <|dt (Qd J J J) J <|Zd <|Za <|Zn J (fun h248 => ?_) (fun h248 => ?_)
 ·refine Zk <|Za <|Zb <|Zv <|Xd (fun _ => False) [(0, 0), (1, 1), (2, 3), (3, 3)] (by kernel_rfl) ?_ ?_
  ·kernel_rfl
  exact r0' J J J J (st0 (Yg (i := 97) J J J iA39 zT39 J J)) <|r1' J J (Zh (n := 2) (r_num 1048576 ⟨by decide, by decide⟩) J J J K1 cF43 Zf J hw) fun v_2 _ => r3' J J (Zh (n := 3) (r_mul _ _ ((2 : Int) ^ (n - m)) 1048576 (by omega) (by decide +kernel)) J J J K2 cF44 (Zg 72 J J J (Zg 2 J J J Zf)) J hw) fun v_3 _ => r3' J J (Zl (i := 97) J J J J J (by decide) J zT39 J J ⟨(Zc J), (Yf (i := 3) J Zi), trivial⟩ J hw trivial) fun _ _ => Xo <|Xq <|Za <|Ze <|mv J J <|dt (Yz J J J ⟨by omega, by omega⟩) J <|Zm J J <|Zd <|Qe (s_dup 3 72 J J J) <|Xe (m - 20, v_3) (by first | omega | (dsimp only <;> omega)) (by first | omega | (dsimp only <;> omega)) ⟨by rw [show ((m - 20 : Nat) : Int) = (m : Int) - 20 by omega] <;> rfl, rfl, rfl, trivial⟩ ⟨by rw [hpw (by omega)]; rfl, by rw [hpw (by omega)]; rfl, rfl, rfl, trivial⟩
 ·refine Yv <|Zz <|Zz <|Xz <|Za <|Zb <|Zv <|Qc [(2, _), (3, _)] [(0, _), (1, _)] (fun (q : Nat × Value) => [(0, .int .i64 (q.1 : Int))]) (fun (q : Nat × Value) => [(72, d9p q.2 ((2 : Int) ^ (n - q.1)).natAbs), (97, box b_2 39 #[.bool (decide (((2 : Int) ^ (n - q.1)) < 0)), q.2])]) (fun (q : Nat × Value) => (q.1 ≤ n)) (fun (q : Nat × Value) => q.1) (m, vx) (by first | omega | (dsimp only <;> omega)) K3 K4 ?_
  rintro ⟨m, vx⟩ hm
  dsimp only at hm
  simp only [List.cons_append, List.nil_append]
  have hbw := bl_pow2 (n - m)
  have hpw : 1 ≤ m → (2 : Int) ^ (n - (m - 1)) = 2 ^ (n - m) + 2 ^ (n - m) := fun h => by rw [show n - (m - 1) = n - m + 1 by omega, Int.pow_succ]; omega
  refine Zb <|Zb <|Ze <|mv J J <|dt (Xv J J J) J <|Zd <|Za <|Zn J (fun h251 => ?_) (fun h251 => ?_)
  ·exact Zk <|Za <|Zb <|Zv <|Ze <|dt (Yg (i := 97) J J J iA39 zT39 J J) J <|dt (Yg (i := 97) J J J iA39 zT39 J J) J <|tt (Zh (n := 4) (r_add _ _ ((2 : Int) ^ (n - m)) ((2 : Int) ^ (n - m)) (by omega) (by omega)) J J J K2 cF42 (Zg 72 J J J (Zg 72 J J J Zf)) J hw) J fun v_4 _ => tt (Zl (i := 97) J J J J J (by decide) J zT39 J J ⟨(Zc J), (Yf (i := 4) J Zi), trivial⟩ J hw trivial) J fun _ _ => Zd <|Xq <|Za <|Ze <|mv J J <|dt (Yz J J J ⟨by omega, by omega⟩) J <|Zm J J <|Zd <|Qe (s_dup 4 72 J J J) <|Xe (m - 1, v_4) (by first | omega | (dsimp only <;> omega)) (by first | omega | (dsimp only <;> omega)) ⟨by rw [show ((m - 1 : Nat) : Int) = (m : Int) - 1 by omega] <;> rfl, rfl, rfl, trivial⟩ ⟨by rw [hpw (by omega)]; rfl, by rw [hpw (by omega)]; rfl, rfl, rfl, trivial⟩
  ·refine Yv <|Zz <|Zz <|Xz <|Za <|Zb ?_
   obtain rfl : m = 0 := by omega
   exact Ze <|dt (Yg (i := 97) J J J iA39 zT39 J J) J <|tt (Zl (i := 1) J J J J J (by decide) J zT39 J J ⟨(Zc J), (Yf (i := 72) J Zi), trivial⟩ J hw trivial) J fun _ _ => Zd <|Za <|Zr <|Zx (.inl J) hsc _ _ (fun a w hs => Yt hs Tryz.results40 (Yq (i := 1) J J iA39 zT39 J)) (by rw [Nat.sub_zero] <;> rfl) trivial J (Yj 72 J J J (by rw [Nat.sub_zero] <;> rfl) Zj)
end Go.Sky

