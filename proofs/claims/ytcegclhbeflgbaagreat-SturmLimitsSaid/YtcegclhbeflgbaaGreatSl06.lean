/- rules, arithmetic and contracts: part 7
   Proved without conditions of its own: each theorem bears its own. -/
import Derived.Test.YtcegclhbeflgbaaGreatSl02
import Derived.Test.YtcegclhbeflgbaaGreatSl01
import Derived.Test.YtcegclhbeflgbaaGreatSl03
import Derived.Test.YtcegclhbeflgbaaGreatSl05
set_option linter.all false
namespace Go.Sky
open Go.Proofs
set_option maxRecDepth 20000
set_option maxHeartbeats 4000000
set_option linter.unusedVariables false
set_option linter.unusedSimpArgs false
theorem poly_scale (v : Value) (xs : List Int) (c : Int) (hv : Vp xs) (hc : bl c.natAbs ≤ 65536) (hz : ∀ i, bl (cf xs i * c).natAbs ≤ 65536) : Cal Tryz.prog 113 #[v, wv c] [slp 2 wv v xs] true (G := Value) (fun r => True) (fun r => .tuple #[r, .int .i64 0]) (fun r => [slp 2 wv r (pscale xs c)]) := by
 refine Ye Tryz.func113 J Tryz.ntmps113 J K1 ?_
 intro w0 sc hw hsc
 simp only [Zq, Zo]
 have hlen := hv.len
 refine Zb <|Ze <|tt (Yy (i := 2) J J J J J J hw) J fun b _ => Zm J J <|Zm J J <|Zd <|Za <|Zb <|Zb <|Ze <|mv J J <|tt (Zh (n := 2) (poly_valid_ok _ _ (by assumption)) J J J K1 cF56 (Zg 1 J J J Zf) J hw) J fun _ _ => dt (Xx J J) J <|mv J J <|Yr (Yg (i := 2) J J J iA28 zT28 J J) J J J J <|gtt (Zh (n := 2) (wide_valid_ok _ (by assumption)) J J J K1 cF109 Zf J hw) J J J J fun _ _ => Yr (Xx J J) J J J J <|dt (Yd J J J) J <|Zd <|Za <|Yc J <|Zk <|Za <|Zb <|Ze <|tt (Zp (i := 3) J J J Tryz.zeroValue146 J J hw) J fun b_2 _ => Zd <|Za <|Zb <|Ze <|mv J J <|dt (Zy J J (i := 1) J Zi uT23) J <|tt (Qt (i := 4) (n := _) (by_ := 24) (enc := wv) 0 J J J J J J uT23 Tryz.ti28 J pV.cells pV.pos J J (by omega) (by decide) J hw) J fun v _ => Zm J J <|Zd <|Za <|Zb <|Zb <|Ze <|mv J J <|dt (Zy J J (i := 1) J Zi uT23) J <|mv J J <|Zd <|Za <|Zv ?_
 refine Qc [(3, _), (6, _), (7, _), (21, _), (22, _)] [(0, _), (1, _), (2, _), (3, _)] (fun (k : Nat) => [(23, .int .i64 (k : Int))]) (fun (k : Nat) => [(4, osl 2 28 wv v (fill xs.length k (fun i => cf xs i * c)))]) (fun (k : Nat) => (k ≤ xs.length)) (fun (k : Nat) => xs.length - k) 0 (by first | omega | (dsimp only <;> omega)) K6 ⟨by rw [fill_zero xs.length (fun i => cf xs i * c)]; rfl, rfl, rfl, rfl, rfl, trivial⟩ ?_
 rintro k hk
 simp only [List.cons_append, List.nil_append]
 refine Zb <|Ze <|dt (Xj J J J) J <|Zd <|Za <|Zb <|Zn J (fun h159 => ?_) (fun h159 => ?_)
 ·exact Zk <|Za <|Zb <|Zv <|Zb <|Ze <|mv J J <|dt (Yn (ii := 1) J J J J Zi uT23 zT28 J (by first | omega | (simp only [List.length_set]; omega))) J <|dt (Ys (ii := 1) 0 J J J Zi pV (by first | omega | (simp only [List.length_set]; omega))) J <|tt (Zp (i := 5) J J J Tryz.zeroValue28 J J hw) J fun b_3 _ => Zm J J <|tt (Zl (i := 5) J J J J J (by decide) J zT28 J J ⟨(Zc J), (Zc J), trivial⟩ J hw trivial) J fun _ _ => Zd <|Za <|Ze <|mv J J <|mv J J <|dt (Yg (i := 5) J J J iA28 zT28 J J) J <|dt (Yg (i := 2) J J J iA28 zT28 J J) J <|tt (Qg (n := 5) (i := 3) (dk_mul _ _ _ (hv.sz.getD _) hc (hz _)) J J J K3 cF114 J (by decide) Zf J hw trivial) J fun _ _ => dt (Yn (ii := 4) (i := k) J J J J (Yi pV) uT23 zT28 J (by rw [length_fill]; omega)) J <|tt (Qj (i := 4) (enc := wv) _ J J J J J J (by decide) pV (by rw [length_fill]; omega) J hw) J fun _ _ => Zd <|Xq <|Za <|Ze <|dt (Yl J J J ⟨by omega, by omega⟩) J <|mv J J <|Zd <|Xe (k + 1) (by first | omega | (dsimp only <;> omega)) (by first | omega | (dsimp only <;> omega)) K6 ⟨by rw [← fill_set (by omega)]; rfl, rfl, rfl, rfl, rfl, trivial⟩
 ·refine Yv <|Zz <|Zz <|Xz <|Za <|Zb ?_
  obtain rfl : k = xs.length := by omega
  exact Yk (Xa 4 J J pV) <|Yk (s_rbox 3 J J) <|Ze <|mv J J <|tt (Zh (n := 6) (d_done _ _ _ (by rw [fill_all]; exact mk_sz fun i _ => hz i)) J J J K2 cF115 (Zg 3 J J J (Zg 4 J J J Zf)) J hw) J fun _ _ => dt (Zt J J J) J <|dt (Zt J J J) J <|Zm J J <|Zm J J <|Zd <|Za <|Zr <|Zx (.inl J) hsc _ _ (fun a w hs => Xn hs Tryz.results113 J J) J trivial J (Yj 6 J J J (by rw [pscale_mk] <;> rfl) Zj)
theorem poly_derive (v : Value) (xs : List Int) (hv : Vp xs) (hz : ∀ i, bl (cf xs (i + 1) * ((i : Int) + 1)).natAbs ≤ 65536) : Cal Tryz.prog 65 #[v] [slp 2 wv v xs] true (G := Value) (fun r => True) (fun r => .tuple #[r, .int .i64 0]) (fun r => [slp 2 wv r (pder xs)]) := by
 refine Ye Tryz.func65 J Tryz.ntmps65 J K1 ?_
 intro w0 sc hw hsc
 simp only [Zq, Zo]
 have hlen := hv.len
 refine Zb <|Ze <|Zm J J <|Zm J J <|Zd <|Za <|Zb <|Zb <|Ze <|mv J J <|tt (Zh (n := 1) (poly_valid_ok _ _ (by assumption)) J J J K1 cF56 (Zg 1 J J J Zf) J hw) J fun _ _ => dt (Xx J J) J <|Zd <|Za <|Yc J <|Zk <|Za <|Zb <|Zb <|Ze <|mv J J <|dt (Zy J J (i := 1) J Zi uT23) J <|dt (Xh J J J) J <|Zd <|Za <|Zn J (fun h170 => ?_) (fun h170 => ?_)
 ·exact Zb <|Ze <|Zm J J <|Zm J J <|Zd <|Za <|Zr <|Yw <|Zx (.inl J) hsc _ _ (fun a w hs => Xn hs Tryz.results65 J J) J trivial J (give_none (pder_nil (by omega)) Zj)
 ·refine Zk <|Za <|Zb <|Ze <|tt (Zp (i := 2) J J J Tryz.zeroValue146 J J hw) J fun b _ => Zd <|Za <|Zb <|Ze <|mv J J <|dt (Zy J J (i := 1) J Zi uT23) J <|dt (Yz J J J ⟨by omega, by omega⟩) J <|tt (Qt (i := 3) (n := (xs.length - 1)) (by_ := 24) (enc := wv) 0 J J J J J (by omega) uT23 Tryz.ti28 J pV.cells pV.pos J J (by omega) (by decide) J hw) J fun v _ => Zm J J <|Zd <|Za <|Zb <|Zb <|Ze <|mv J J <|dt (Zy J J (i := 3) J (Yi pV) uT23) J <|mv J J <|Zd <|Za <|Zv <|Qc [(0, _), (4, _), (5, _), (18, _)] [(0, _), (1, _), (2, _)] (fun (k : Nat) => [(19, .int .i64 (k : Int))]) (fun (k : Nat) => [(3, osl 2 28 wv v (fill (xs.length - 1) k (fun i => cf xs (i + 1) * ((i : Int) + 1))))]) (fun (k : Nat) => (k ≤ xs.length - 1)) (fun (k : Nat) => xs.length - 1 - k) 0 (by first | omega | (dsimp only <;> omega)) K5 ⟨by rw [fill_zero (xs.length - 1) (fun i => cf xs (i + 1) * ((i : Int) + 1))]; rfl, rfl, rfl, rfl, trivial⟩ ?_
  rintro k hk
  simp only [List.cons_append, List.nil_append]
  have hlf : (fill (xs.length - 1) k (fun i => cf xs (i + 1) * ((i : Int) + 1))).length = xs.length - 1 := length_fill _ _ _
  refine Zb <|Ze <|dt (Xj J J J) J <|Zd <|Za <|Zb <|Zn J (fun h175 => ?_) (fun h175 => ?_)
  ·try rw [List.length_replicate] at *
   refine Zk <|Za <|Zb <|Zv <|Zb <|Ze <|mv J J <|Zm J J <|Zd <|Za <|Xd (fun x => x = b) [(0, 0), (1, 0), (2, 0), (3, 0), (4, 0), (5, 0), (6, 0), (7, 0), (8, 0), (9, 1), (10, 1), (11, 0), (12, 3)] (by kernel_rfl) ?_ ?_
   ·kernel_rfl
   exact r0' J J J J (st1 2 J (Zw J J)) <|r0' J J J J (st1 2 J (Zw J J)) <|r0' J J J J (st1 2 J (Zw J J)) <|r0' J J J J (st1 2 J (Zw J J)) <|r0' J J J J (st1 2 J (Yl J J J ⟨by omega, by omega⟩)) <|r0' J J J J (st1 2 J (Yn (ii := 1) (i := k + 1) J J J J Zi uT23 zT28 (by omega) (by omega))) <|r0' J J J J (st1 2 J (Ys (ii := 1) 0 J J J Zi pV (by omega))) <|r0' J J J J (st1 2 J (Zw J J)) <|r0' J J J J (st1 2 J (Yl J J J ⟨by omega, by omega⟩)) <|r1' J J (Zh (n := 3) (wide_of_int _ (by first | assumption | exact ⟨by omega, by omega⟩)) J J J K1 cF55 Zf J hw) fun _ _ => r1' J J (Qg (n := 3) (i := 2) (dk_mul _ (cf xs (k + 1)) ((k : Int) + 1) (hv.sz _) (Nat.le_trans (bl_mono (n := 32) (by omega)) (by decide)) (hz k)) J J J K3 cF114 J (by decide) Zf J hw J) fun _ _ => r0' J J J J (st1 2 J (Yn (ii := 3) (i := k) J J J J (Yi pV) uT23 zT28 J (by rw [length_fill]; omega))) <|r3' J J (Qj (i := 3) (enc := wv) _ J J J J J J (by decide) pV (by rw [length_fill]; omega) J hw) fun _ _ => Xo <|Xq <|Za <|Ze <|dt (Yl J J J ⟨by omega, by omega⟩) J <|mv J J <|Zd <|Xe (k + 1) (by first | omega | (dsimp only <;> omega)) (by first | omega | (dsimp only <;> omega)) K5 ⟨by rw [← fill_set (by omega)]; rfl, rfl, rfl, rfl, trivial⟩
  ·try rw [List.length_replicate] at *
   refine Yv <|Zz <|Zz <|Xz <|Za <|Zb ?_
   obtain rfl : k = xs.length - 1 := by omega
   exact Yk (Xa 3 J J pV) <|Yk (s_rbox 2 J J) <|Ze <|mv J J <|tt (Zh (n := 4) (d_done _ _ _ (by rw [fill_all]; exact mk_sz fun i _ => hz i)) J J J K2 cF115 (Zg 2 J J J (Zg 3 J J J Zf)) J hw) J fun _ _ => dt (Zt J J J) J <|dt (Zt J J J) J <|Zm J J <|Zm J J <|Zd <|Za <|Zr <|Zx (.inl J) hsc _ _ (fun a w hs => Xn hs Tryz.results65 J J) J trivial J (Yj 4 J J J (by rw [pder_mk hv.tr] <;> rfl) Zj)
theorem poly_content (v : Value) (xs : List Int) (hv : Vp xs) : Cal Tryz.prog 121 #[v] [slp 2 wv v xs] false (G := Unit) (fun _ => True) (fun _ => .tuple #[wv (pcont xs), .int .i64 0]) (fun _ => []) := by
 refine Ye Tryz.func121 J Tryz.ntmps121 J K1 ?_
 intro w0 sc hw hsc
 simp only [Zq, Zo]
 have hlen := hv.len
 have hcb : ∀ k, bl (pcont (xs.take k)).natAbs ≤ 65536 := fun k => pcont_bl _ (hv.sz.take k)
 refine Zb <|Ze <|tt (Zp (i := 2) J J J Tryz.zeroValue28 J J hw) J fun b _ => Zm J J <|Zd <|Za <|Zb <|Zb <|Ze <|mv J J <|tt (Zh (n := 2) (poly_valid_ok _ _ (by assumption)) J J J K1 cF56 (Zg 1 J J J Zf) J hw) J fun _ _ => dt (Xx J J) J <|Zd <|Za <|Yc J <|Zk <|Za <|Zb <|Ze <|tt (Zp (i := 3) J J J Tryz.zeroValue146 J J hw) J fun b_2 _ => Zd <|Za <|Zb <|Ze <|tt (Zp (i := 4) J J J Tryz.zeroValue28 J J hw) J fun b_3 _ => Zd <|Za <|Zb <|Zb <|Ze <|mv J J <|dt (Zy J J (i := 1) J Zi uT23) J <|mv J J <|Zd <|Za <|Zv <|Qc [(2, _), (4, _), (5, _), (12, _), (13, _)] [(0, _), (1, _), (2, _)] (fun (k : Nat) => [(14, .int .i64 (k : Int))]) (fun (k : Nat) => [(4, box b_3 28 #[.bool (decide (pcont (xs.take k) < 0)), .string (bstr (pcont (xs.take k)).natAbs)]), (3, box b_2 146 #[.int .i64 0])]) (fun (k : Nat) => (k ≤ xs.length)) (fun (k : Nat) => xs.length - k) 0 (by first | omega | (dsimp only <;> omega)) K6 K5 ?_
 rintro k hk
 simp only [List.cons_append, List.nil_append]
 have hgc := fun h => pcont_take_succ (p := xs) (k := k) h
 refine Zb <|Ze <|dt (Xj J J J) J <|Zd <|Za <|Zb <|Zn J (fun h264 => ?_) (fun h264 => ?_)
 ·refine Zk <|Za <|Zb <|Zv <|Zb <|Ze <|dt (Yn (ii := 1) J J J J Zi uT23 zT28 J (by first | omega | (simp only [List.length_set]; omega))) J <|dt (Ys (ii := 1) 0 J J J Zi pV (by first | omega | (simp only [List.length_set]; omega))) J <|tt (Zp (i := 5) J J J Tryz.zeroValue28 J J hw) J fun b_4 _ => tt (Zl (i := 5) J J J J J (by decide) J zT28 J J ⟨(Zc J), (Zc J), trivial⟩ J hw trivial) J fun _ _ => Zd <|Za <|Ze <|dt (Yu J J uT146 J zT144 J J) J <|dt (Yg (i := 4) J J J iA28 zT28 J J) J <|dt (Yg (i := 5) J J J iA28 zT28 J J) J <|tt (Zh (n := 5) (wide_gcd (pcont (xs.take k)) (xs.getD k 0) (hcb _) (hv.sz.getD _)) J J J K2 cF147 Zf J hw) J fun _ _ => dt (Zt J J J) J <|dt (Zt J J J) J <|tt (Qg (n := 5) (i := 3) (f_note _ _ _ _ _ _) J J J K3 cF144 J (by decide) Zf J hw trivial) J fun _ _ => tt (Zl (i := 4) J J J J J (by decide) J zT28 J J ⟨(Zc J), (Zc J), trivial⟩ J hw trivial) J fun _ _ => Zd <|Xq <|Za <|Ze <|dt (Yl J J J ⟨by omega, by omega⟩) J <|mv J J <|Zd ?_
  have hc1 := hcb (k + 1)
  rw [hgc (by omega)] at hc1
  exact Xe (k + 1) (by first | omega | (dsimp only <;> omega)) (by first | omega | (dsimp only <;> omega)) K6 ⟨by rw [hgc (by omega)]; simp only [clip_ok hc1]; rfl, by simp only [full_ok hc1]; rfl, rfl, rfl, rfl, trivial⟩
 ·exact Yv <|Zz <|Zz <|Xz <|Za <|Zb <|e_dregf [3, 4] [5] (by kernel_rfl) <|Zs (n := 0) [(0, 0), (1, 0), (2, 0), (3, 0), (4, 1), (5, 3)] (by kernel_rfl) <|r0' J J J J (stf (Yg (i := 4) J J J iA28 zT28 J J) K2) <|r0' J J J J (stf (Yu J J uT146 J zT144 J J) K2) <|r0' J J J J (stf (Yu J J uT144 J zT29 J J) K2) <|r0' J J J J (stf (Xk (i := 3) J J J iA29 J) K2) <|r1' J J (t_off 2 J J K2 (fun hoffb => (Zl (i := 2) J J J J J (by decide) J zT28 J J ⟨(Zc J), (Zc J), trivial⟩ J hw hoffb))) fun _ _ => r3' J J (Xw (Qb J J) J J) fun _ _ => Ya <|Yh (by kernel_rfl) <|Za <|Zr <|Zx (.inl J) hsc () _ (fun a w hs => Xn hs Tryz.results121 (Yq (i := 2) J J iA28 zT28 J) J) (by rw [show k = xs.length by omega, List.take_length] <;> rfl) trivial J Zj
theorem poly_quotient (v : Value) (xs : List Int) (c : Int) (hv : Sz 65536 xs) (hlen : xs.length ≤ 1000) (hc : bl c.natAbs ≤ 65536) (hd : ∀ i, c ∣ cf xs i) (hc0 : xs ≠ [] → c ≠ 0) : Cal Tryz.prog 122 #[v, wv c] [slp 2 wv v xs] true (G := Value) (fun r => True) (fun r => .tuple #[r, .int .i64 0]) (fun r => [slp 2 wv r (xs.map (· / c))]) := by
 refine Ye Tryz.func122 J Tryz.ntmps122 J K1 ?_
 intro w0 sc hw hsc
 simp only [Zq, Zo]
 refine Zb <|Ze <|tt (Yy (i := 2) J J J J J J hw) J fun b _ => Zm J J <|Zm J J <|Zd <|Za <|Zb <|Ze <|mv J J <|dt (Zy J J (i := 1) J Zi uT23) J <|tt (Qt (i := 3) (n := _) (by_ := 24) (enc := wv) 0 J J J J J J uT23 Tryz.ti28 J pV.cells pV.pos J J (by omega) (by decide) J hw) J fun v _ => Zm J J <|Zd <|Za <|Zb <|Zb <|Ze <|mv J J <|dt (Zy J J (i := 1) J Zi uT23) J <|mv J J <|Zd <|Za <|Zv <|Qc [(3, _), (6, _), (15, _), (16, _)] [(0, _), (1, _), (2, _)] (fun (k : Nat) => [(17, .int .i64 (k : Int))]) (fun (k : Nat) => [(3, osl 2 28 wv v (fill xs.length k (fun i => cf xs i / c)))]) (fun (k : Nat) => (k ≤ xs.length)) (fun (k : Nat) => xs.length - k) 0 (by first | omega | (dsimp only <;> omega)) K5 ⟨by rw [fill_zero xs.length (fun i => cf xs i / c)]; rfl, rfl, rfl, rfl, trivial⟩ ?_
 rintro k hk
 simp only [List.cons_append, List.nil_append]
 have hcl : clip (xs.getD k 0 / c) = cf xs k / c := clip_ok (ediv_bl_le (hd k) (hv k))
 refine Zb <|Ze <|dt (Xj J J J) J <|Zd <|Za <|Zb <|Zn J (fun h273 => ?_) (fun h273 => ?_)
 ·refine Zk <|Za <|Zb <|Zv <|Zb <|Ze <|mv J J <|dt (Yn (ii := 1) J J J J Zi uT23 zT28 J (by first | omega | (simp only [List.length_set]; omega))) J <|dt (Ys (ii := 1) 0 J J J Zi pV (by first | omega | (simp only [List.length_set]; omega))) J <|tt (Zp (i := 4) J J J Tryz.zeroValue28 J J hw) J fun b_2 _ => Zm J J <|tt (Zl (i := 4) J J J J J (by decide) J zT28 J J ⟨(Zc J), (Zc J), trivial⟩ J hw trivial) J fun _ _ => Zd <|Za <|Zb <|Ze <|dt (Yg (i := 4) J J J iA28 zT28 J J) J <|dt (Yg (i := 2) J J J iA28 zT28 J J) J <|tt (Zh (n := 4) (wide_quo _ _ (hv.getD _) hc (hc0 (by intro e; rw [e] at h273; simp at h273; omega))) J J J K2 cF53 Zf J hw) J fun _ _ => mv J J <|dt (Zt J J J) J <|dt (Zt J J J) J <|dt (Zt J J J) J <|tt (Zp (i := 5) J J J Tryz.zeroValue28 J J hw) J fun b_3 _ => tt (Zp (i := 6) J J J Tryz.zeroValue28 J J hw) J fun b_4 _ => tt (Zl (i := 5) J J J J J (by decide) J zT28 J J ⟨(Zc J), (Zc J), trivial⟩ J hw trivial) J fun _ _ => tt (Zl (i := 6) J J J J J (by decide) J zT28 J J ⟨(Zc J), (Zc J), trivial⟩ J hw trivial) J fun _ _ => Zm J J <|Zd <|Za <|Zb <|Zb <|Ze <|mv J J <|dt (Ym J J J) J <|Zd <|Za <|Zn J (fun h275 => ?_) (fun h275 => ?_)
  ·exfalso; simp_all
  ·exact Zk <|Za <|Ze <|mv J J <|mv J J <|dt (Yg (i := 5) J J J iA28 zT28 J J) J <|dt (Yn (ii := 3) (i := k) J J J J (Yi pV) uT23 zT28 J (by rw [length_fill]; omega)) J <|tt (Qj (i := 3) (enc := wv) _ J J J J J J (by decide) pV (by rw [length_fill]; omega) J hw) J fun _ _ => Zd <|Xq <|Za <|Ze <|dt (Yl J J J ⟨by omega, by omega⟩) J <|mv J J <|Zd <|Xe (k + 1) (by first | omega | (dsimp only <;> omega)) (by first | omega | (dsimp only <;> omega)) K5 ⟨by rw [← fill_set (by omega)]; simp only [hcl]; rfl, rfl, rfl, rfl, trivial⟩
 ·refine Yv <|Zz <|Zz <|Xz <|Za <|Zb <|Ze <|mv J J <|Zm J J <|Zm J J <|Zd <|Za <|Zr ?_
  obtain rfl : k = xs.length := by omega
  exact Zx (.inl J) hsc _ _ (fun a w hs => Xn hs Tryz.results122 J J) J trivial J (Xs 3 J J pV (by rw [fill_all, mk_map xs (· / c)] <;> rfl) Zj)
theorem poly_primitive (v : Value) (xs : List Int) (hv : Vp xs) : Cal Tryz.prog 68 #[v] [slp 2 wv v xs] true (G := Value) (fun r => True) (fun r => .tuple #[r, .int .i64 0]) (fun r => [slp 2 wv r (pprim xs)]) := by
 refine Ye Tryz.func68 J Tryz.ntmps68 J K1 ?_
 intro w0 sc hw hsc
 simp only [Zq, Zo]
 have hlen := hv.len
 refine Zb <|Ze <|Zm J J <|Zm J J <|Zd <|Za <|Zb <|Ze <|mv J J <|tt (Zh (n := 1) (poly_content _ _ (by assumption)) J J J K1 cF121 (Zg 1 J J J Zf) J hw) J fun _ _ => mv J J <|dt (Zt J J J) J <|dt (Zt J J J) J <|tt (Zp (i := 2) J J J Tryz.zeroValue28 J J hw) J fun b _ => tt (Zl (i := 2) J J J J J (by decide) J zT28 J J ⟨(Zc J), (Zc J), trivial⟩ J hw trivial) J fun _ _ => Zm J J <|Zd <|Za <|Zb <|Zb <|Ze <|mv J J <|dt (Ym J J J) J <|Zd <|Za <|Zn J (fun h286 => ?_) (fun h286 => ?_)
 ·exfalso; simp_all
 ·exact Zk <|Za <|Zb <|Ze <|mv J J <|dt (Yg (i := 2) J J J iA28 zT28 J J) J <|tt (Zh (n := 3) (poly_quotient _ _ _ hv.sz (by omega) (pcont_bl _ hv.sz) (pcont_dvd _) hv.ne) J J J K2 cF122 (Zg 1 J J J Zf) J hw) J fun _ _ => dt (Zt J J J) J <|dt (Zt J J J) J <|Zm J J <|Zm J J <|Zd <|Za <|Zr <|Zx (.inl J) hsc _ _ (fun a w hs => Xn hs Tryz.results68 J J) J trivial J (Yj 3 J J J J Zj)
theorem poly_eval (v : Value) (xs : List Int) (x y : Int) (hv : Vp xs) (hx : bl x.natAbs ≤ 65536) (hy : bl y.natAbs ≤ 65536) (hy0 : 0 < y) : Cal Tryz.prog 150 #[v, .agg #[.bool (decide (x < 0)), .string (bstr x.natAbs), .bool (decide (y < 0)), .string (bstr y.natAbs)]] [slp 2 wv v xs] false (G := Unit) (fun _ => True) (fun _ => .tuple #[wv (evv xs x y), .int .i64 (eve xs x y)]) (fun _ => []) := by
 refine Ye Tryz.func150 J Tryz.ntmps150 J K1 ?_
 intro w0 sc hw hsc
 simp only [Zq, Zo]
 have hlen := hv.len
 refine Zb <|Ze <|tt (Yy (i := 2) J J J J J J hw) J fun b _ => tt (Zp (i := 3) J J J Tryz.zeroValue28 J J hw) J fun b_2 _ => Zm J J <|Zd <|Za <|Zb <|Zb <|Ze <|mv J J <|tt (Zh (n := 3) (poly_valid_ok _ _ (by assumption)) J J J K1 cF56 (Zg 1 J J J Zf) J hw) J fun _ _ => dt (Xx J J) J <|mv J J <|Yr (Xb (i := 2) J J J iA49 zT49 J J J J) J J J J <|gtt (Zh (n := 3) (wide_validratio_ok _ _ (by assumption) (by assumption) (by assumption)) J J J K1 cF98 Zf J hw) J J J J fun _ _ => Yr (Xx J J) J J J J <|dt (Yd J J J) J <|Zd <|Za <|Yc J <|Zk <|Za <|Zb <|Zb <|Ze <|mv J J <|dt (Zy J J (i := 1) J Zi uT23) J <|dt (Xh J J J) J <|Zd <|Za <|Zn J (fun h186 => ?_) (fun h186 => ?_)
 ·exact Zb <|Ze <|dt (Xg (ivs := []) J trivial (fun a w hs => b28_)) J <|tt (Zl (i := 3) J J J J J (by decide) J zT28 J J ⟨(Zc J), (Zc J), trivial⟩ J hw trivial) J fun _ _ => Zm J J <|Zd <|Za <|Zr <|Yw <|Zx (.inl J) hsc () _ (fun a w hs => Xn hs Tryz.results150 (Yq (i := 3) J J iA28 zT28 J) J) (by rw [List.eq_nil_of_length_eq_zero (l := xs) (by omega)]; rfl) trivial J Zj
 ·have hne : xs ≠ [] := fun e => by rw [e] at h186; simp at h186
  have hm1 := msz_le hv.sz
  have hsxy : Sz 65536 [x, y] := Sz.of_mem (by intro z hz; simp at hz; rcases hz with rfl | rfl <;> assumption)
  have hm2 := msz_le hsxy
  have hm3 : (xs.length - 1) * msz [x, y] ≤ 24 * 65536 := Nat.mul_le_mul (by omega) hm2
  have hm4 : ((xs.length : Int) - 1) * (msz [x, y] : Int) = (((xs.length - 1) * msz [x, y] : Nat) : Int) := by rw [Int.natCast_mul]; congr 1; omega
  refine Zk <|Za <|Zb <|Qm [(0, _), (3, _), (4, _)] [(0, _), (1, _), (2, _), (3, _)] (fun (_ : Unit) => [(37, .bool (decide ((65536 : Int) < (msz xs : Int) + ((xs.length : Int) - 1) * (msz [x, y] : Int) + 8)))]) (fun (_ : Unit) => []) (fun (_ : Unit) => True) K3 K4 ?_ ?_
  ·refine Xr (fun _ => False) [] (by kernel_rfl) <|Zs (n := 7) [(0, 0), (2, 0), (3, 0), (4, 0), (5, 0), (6, 0), (7, 0), (8, 0)] (by kernel_rfl) <|r0' J J J J (st0 (Zw J J)) <|r0' J J J J (st0 (Zw J J)) <|r0' J J J J (st0 (Zy J J (i := 1) J Zi uT23)) <|r0' J J J J (st0 (Yz J J J ⟨by omega, by omega⟩)) <|r0' J J J J (st0 (Yu J J uT49 J zT28 J J)) <|r0' J J J J (st0 (Yg (i := 2) J J J iA28 zT28 J J)) <|r0' J J J J (st0 (Yu J J uT49 J zT28 J J)) <|r0' J J J J (st0 (Yg (i := 2) J J J iA28 zT28 J J)) <|Ya <|Xy (n := 6) 1 9 (by kernel_rfl) ?_ ?_
   ·exact Yo J J (Zh (n := 3) (poly_size _ _ (by first | exact hv.sz | exact hsxy)) J J J K1 cF110 (Zg 1 J J J Zf) J hw) fun _ _ => Zs (n := 0) [(9, 1), (10, 1), (11, 0), (12, 0), (13, 0), (14, 0)] (by kernel_rfl) <|r1' J J (Xf (i := 90) (ivs := [(0, _), (1, _)]) (enc := wv) [x, y] J J J K4 uT22 Tryz.ti28 J J J J J J pV.cells J J hw) fun v _ => r1' J J (Zh (n := 3) (poly_size _ _ (by first | exact hv.sz | exact hsxy)) J J J K1 cF110 (Xl 90 J J pV Zf) J hw) fun _ _ => r0' J J J J (st0 (d_mul J J J (by rw [hm4]; exact ⟨by omega, by omega⟩))) <|r0' J J J J (st0 (Yl J J J (by rw [hm4]; exact ⟨by omega, by omega⟩))) <|r0' J J J J (st0 (Yl J J J (by rw [hm4]; exact ⟨by omega, by omega⟩))) <|r0' J J J J (st0 (Xv J J J)) <|Ya <|Yh (by kernel_rfl) <|Yx () trivial K4 K4
   ·exact Yo J J (Xf (i := 90) (ivs := [(0, _), (1, _)]) (enc := wv) [x, y] J J J K4 uT22 Tryz.ti28 J J J J J J pV.cells J J hw) fun v_2 _ => Zs (n := 0) [(1, 1), (10, 1), (11, 0), (12, 0), (13, 0), (14, 0)] (by kernel_rfl) <|r1' J J (Zh (n := 3) (poly_size _ _ (by first | exact hv.sz | exact hsxy)) J J J K1 cF110 (Zg 1 J J J Zf) J hw) fun _ _ => r1' J J (Zh (n := 3) (poly_size _ _ (by first | exact hv.sz | exact hsxy)) J J J K1 cF110 (Xl 90 J J pV Zf) J hw) fun _ _ => r0' J J J J (st0 (d_mul J J J (by rw [hm4]; exact ⟨by omega, by omega⟩))) <|r0' J J J J (st0 (Yl J J J (by rw [hm4]; exact ⟨by omega, by omega⟩))) <|r0' J J J J (st0 (Yl J J J (by rw [hm4]; exact ⟨by omega, by omega⟩))) <|r0' J J J J (st0 (Xv J J J)) <|Ya <|Yh (by kernel_rfl) <|Yx () trivial K4 K4
  ·rintro _ -
   simp only [List.cons_append, List.nil_append]
   refine Zn J (fun h189 => ?_) (fun h189 => ?_)
   ·have hE : evfull xs x y := ⟨hne, by rw [hm4] at h189; omega⟩
    exact Zb <|Ze <|dt (Xg (ivs := []) J trivial (fun a w hs => b28_)) J <|tt (Zl (i := 3) J J J J J (by decide) J zT28 J J ⟨(Zc J), (Zc J), trivial⟩ J hw trivial) J fun _ _ => Zm J J <|Zd <|Za <|Zr <|Yw <|Zx (.inl J) hsc () _ (fun a w hs => Xn hs Tryz.results150 (Yq (i := 3) J J iA28 zT28 J) J) (by unfold evv eve; rw [if_pos hE, if_pos hE] <;> rfl) trivial J Zj
   ·have hF : msz xs + (xs.length - 1) * msz [x, y] + 8 ≤ 65536 := by rw [hm4] at h189; omega
    refine Zk <|Za <|Zb <|Ze <|tt (Zp (i := 4) J J J Tryz.zeroValue146 J J hw) J fun b_3 _ => Zd <|Za <|Qm [(0, _), (3, _), (4, _), (6, _)] [(0, _), (1, _), (2, _), (3, _), (4, _)] (fun (q : Nat × Nat) => [(7, .pointer (some ⟨q.1, 0, none⟩)), (8, .pointer (some ⟨q.2, 0, none⟩))]) (fun (q : Nat × Nat) => [(97, box q.1 28 (wc (xs.getD (xs.length - 1) 0))), (98, box q.2 28 (wc 1))]) (fun (q : Nat × Nat) => True) K4 K5 ?_ ?_
    ·refine Xr (fun _ => False) [9, 10] (by kernel_rfl) <|Zs (n := 5) [(0, 0), (1, 0), (2, 0), (3, 0), (4, 0), (5, 0)] (by kernel_rfl) <|r0' J J J J (st0 (Zw J J)) <|r0' J J J J (st0 (Zw J J)) <|r0' J J J J (st0 (Zy J J (i := 1) J Zi uT23)) <|r0' J J J J (st0 (Yz J J J ⟨by omega, by omega⟩)) <|r0' J J J J (st0 (Yn (ii := 1) (i := (xs.length - 1)) J J J J Zi uT23 zT28 (by omega) (by omega))) <|r0' J J J J (st0 (Ys (ii := 1) 0 J J J Zi pV (by omega))) <|Ya <|a_br3 (n := 4) 6 7 8 (by kernel_rfl) ?_ ?_ ?_
     ·refine Yo J J (Zh (n := 4) (wide_of_int _ (by first | assumption | exact ⟨by omega, by omega⟩)) J J J K1 cF55 Zf J hw) fun _ _ => Xy (n := 3) 7 8 (by kernel_rfl) ?_ ?_
      ·exact Yo J J (Zp (i := 97) J J J Tryz.zeroValue28 J J hw) fun b_4 _ => Zs (n := 0) [(8, 1), (9, 3), (10, 3)] (by kernel_rfl) <|r1' J J (Zp (i := 98) J J J Tryz.zeroValue28 J J hw) fun b_5 _ => r3' J J (Zl (i := 97) J J J J J (by decide) J zT28 J J ⟨(Zc J), (Zc J), trivial⟩ J hw trivial) fun _ _ => r3' J J (Zl (i := 98) J J J J J (by decide) J zT28 J J ⟨(Zc J), (Zc J), trivial⟩ J hw trivial) fun _ _ => Ya <|Yh (by kernel_rfl) <|Yx (_, _) trivial K6 K7
      ·exact Yo J J (Zp (i := 98) J J J Tryz.zeroValue28 J J hw) fun b_6 _ => Zs (n := 0) [(7, 1), (9, 3), (10, 3)] (by kernel_rfl) <|r1' J J (Zp (i := 97) J J J Tryz.zeroValue28 J J hw) fun b_7 _ => r3' J J (Zl (i := 97) J J J J J (by decide) J zT28 J J ⟨(Zc J), (Zc J), trivial⟩ J hw trivial) fun _ _ => r3' J J (Zl (i := 98) J J J J J (by decide) J zT28 J J ⟨(Zc J), (Zc J), trivial⟩ J hw trivial) fun _ _ => Ya <|Yh (by kernel_rfl) <|Yx (_, _) trivial K6 K7
     ·refine Yo J J (Zp (i := 97) J J J Tryz.zeroValue28 J J hw) fun b_8 _ => Xy (n := 3) 6 8 (by kernel_rfl) ?_ ?_
      ·exact Yo J J (Zh (n := 4) (wide_of_int _ (by first | assumption | exact ⟨by omega, by omega⟩)) J J J K1 cF55 Zf J hw) fun _ _ => Zs (n := 0) [(8, 1), (9, 3), (10, 3)] (by kernel_rfl) <|r1' J J (Zp (i := 98) J J J Tryz.zeroValue28 J J hw) fun b_9 _ => r3' J J (Zl (i := 97) J J J J J (by decide) J zT28 J J ⟨(Zc J), (Zc J), trivial⟩ J hw trivial) fun _ _ => r3' J J (Zl (i := 98) J J J J J (by decide) J zT28 J J ⟨(Zc J), (Zc J), trivial⟩ J hw trivial) fun _ _ => Ya <|Yh (by kernel_rfl) <|Yx (_, _) trivial K6 K7
      ·exact Yo J J (Zp (i := 98) J J J Tryz.zeroValue28 J J hw) fun b_10 _ => Zs (n := 0) [(6, 1), (9, 3), (10, 3)] (by kernel_rfl) <|r1' J J (Zh (n := 4) (wide_of_int _ (by first | assumption | exact ⟨by omega, by omega⟩)) J J J K1 cF55 Zf J hw) fun _ _ => r3' J J (Zl (i := 97) J J J J J (by decide) J zT28 J J ⟨(Zc J), (Zc J), trivial⟩ J hw trivial) fun _ _ => r3' J J (Zl (i := 98) J J J J J (by decide) J zT28 J J ⟨(Zc J), (Zc J), trivial⟩ J hw trivial) fun _ _ => Ya <|Yh (by kernel_rfl) <|Yx (_, _) trivial K6 K7
     ·refine Yo J J (Zp (i := 98) J J J Tryz.zeroValue28 J J hw) fun b_11 _ => Xy (n := 3) 6 7 (by kernel_rfl) ?_ ?_
      ·exact Yo J J (Zh (n := 4) (wide_of_int _ (by first | assumption | exact ⟨by omega, by omega⟩)) J J J K1 cF55 Zf J hw) fun _ _ => Zs (n := 0) [(7, 1), (9, 3), (10, 3)] (by kernel_rfl) <|r1' J J (Zp (i := 97) J J J Tryz.zeroValue28 J J hw) fun b_12 _ => r3' J J (Zl (i := 97) J J J J J (by decide) J zT28 J J ⟨(Zc J), (Zc J), trivial⟩ J hw trivial) fun _ _ => r3' J J (Zl (i := 98) J J J J J (by decide) J zT28 J J ⟨(Zc J), (Zc J), trivial⟩ J hw trivial) fun _ _ => Ya <|Yh (by kernel_rfl) <|Yx (_, _) trivial K6 K7
      ·exact Yo J J (Zp (i := 97) J J J Tryz.zeroValue28 J J hw) fun b_13 _ => Zs (n := 0) [(6, 1), (9, 3), (10, 3)] (by kernel_rfl) <|r1' J J (Zh (n := 4) (wide_of_int _ (by first | assumption | exact ⟨by omega, by omega⟩)) J J J K1 cF55 Zf J hw) fun _ _ => r3' J J (Zl (i := 97) J J J J J (by decide) J zT28 J J ⟨(Zc J), (Zc J), trivial⟩ J hw trivial) fun _ _ => r3' J J (Zl (i := 98) J J J J J (by decide) J zT28 J J ⟨(Zc J), (Zc J), trivial⟩ J hw trivial) fun _ _ => Ya <|Yh (by kernel_rfl) <|Yx (_, _) trivial K6 K7
    ·rintro ⟨b7, b8⟩ -
     simp only [List.cons_append, List.nil_append]
     refine Zb <|Zb <|Ze <|mv J J <|dt (Zy J J (i := 1) J Zi uT23) J <|dt (Yz J J J ⟨by omega, by omega⟩) J <|Zm J J <|Zd <|Za <|Zv <|Qc [(0, _), (3, _), (4, _), (6, _), (7, _), (8, _)] [(0, _), (1, _), (2, _), (3, _), (4, _)] (fun (k : Nat) => [(9, .int .i64 ((k : Int) - 1))]) (fun (k : Nat) => [(97, box b7 28 (wc (hor xs x y k))), (98, box b8 28 (wc (y ^ (xs.length - 1 - k))))]) (fun (k : Nat) => (k ≤ xs.length - 1)) (fun (k : Nat) => k) (xs.length - 1) (by first | omega | (dsimp only <;> omega)) ⟨by rw [show ((xs.length - 1 : Nat) : Int) - 1 = (xs.length : Int) - 2 by omega]; rfl, rfl, rfl, rfl, rfl, rfl, rfl, trivial⟩ ⟨by rw [hor_top x y (by omega)]; rfl, by rw [Nat.sub_self, Int.pow_zero]; rfl, rfl, rfl, rfl, rfl, rfl, trivial⟩ ?_
     rintro k hk
     simp only [List.cons_append, List.nil_append]
     refine Zb <|Zb <|Ze <|mv J J <|dt (Qd J J J) J <|Zd <|Za <|Zn J (fun h194 => ?_) (fun h194 => ?_)
     ·have hpw : y ^ (xs.length - 1 - k) * y = y ^ (xs.length - 1 - (k - 1)) := pow_step y (by omega) hk
      have hst : hor xs x y k * x + xs.getD (k - 1) 0 * y ^ (xs.length - 1 - (k - 1)) = hor xs x y (k - 1) := hor_step' x y (by omega) hk
      refine Zk <|Za <|Zb <|Zv <|Zb <|Ze <|dt (Yg (i := 98) J J J iA28 zT28 J J) J <|dt (Yu J J uT49 J zT28 J J) J <|dt (Yg (i := 2) J J J iA28 zT28 J J) J <|tt (Qg (n := 4) (i := 4) (dk_mul _ _ _ (ev_pow hF) hy (by rw [hpw]; exact ev_pow hF)) J J J K3 cF114 J (by decide) Zf J hw trivial) J fun _ _ => tt (Zl (i := 98) J J J J J (by decide) J zT28 J J ⟨(Zc J), (Zc J), trivial⟩ J hw trivial) J fun _ _ => Zd <|Za <|Xd (fun x => x = b_3) [(0, 0), (1, 0), (2, 0), (4, 0), (5, 0), (6, 0), (7, 0), (8, 0), (3, 1), (9, 1), (10, 1), (11, 3)] (by kernel_rfl) ?_ ?_
      ·kernel_rfl
      refine r0' J J J J (st1 4 J (Yg (i := 97) J J J iA28 zT28 J J)) <|r0' J J J J (st1 4 J (Yu J J uT49 J zT28 J J)) <|r0' J J J J (st1 4 J (Yg (i := 2) J J J iA28 zT28 J J)) <|r0' J J J J (st1 4 J (Zw J J)) <|r0' J J J J (st1 4 J (Zw J J)) <|r0' J J J J (st1 4 J (Yn (ii := 1) (i := (k - 1)) J J J J Zi uT23 zT28 (by omega) (by omega))) <|r0' J J J J (st1 4 J (Ys (ii := 1) 0 J J J Zi pV (by omega))) <|r0' J J J J (st1 4 J (Yg (i := 98) J J J iA28 zT28 J J)) <|r1' J J (Qg (n := 4) (i := 4) (dk_mul _ _ _ (by first | exact ev_hor hF hlen _ | exact hv.sz.getD _) (by first | exact hx | (rw [hpw]; exact ev_pow hF)) (by first | exact ev_mul hF hlen (by omega) hk | (rw [hpw]; exact ev_term hF))) J J J K3 cF114 J (by decide) Zf J hw J) fun _ _ => r1' J J (Qg (n := 4) (i := 4) (dk_mul _ _ _ (by first | exact ev_hor hF hlen _ | exact hv.sz.getD _) (by first | exact hx | (rw [hpw]; exact ev_pow hF)) (by first | exact ev_mul hF hlen (by omega) hk | (rw [hpw]; exact ev_term hF))) J J J K3 cF114 J (by decide) Zf J hw J) fun _ _ => r1' J J (Qg (n := 4) (i := 4) (dk_add _ _ _ (ev_mul hF hlen (by omega) hk) (by rw [hpw]; exact ev_term hF) (by rw [hpw, hst]; exact ev_hor hF hlen _)) J J J K3 cF163 J (by decide) Zf J hw J) (fun _ _ => ?_)
      exact r3' J J (Zl (i := 97) J J J J J (by decide) J zT28 J J ⟨(Zc J), (Zc J), trivial⟩ J hw trivial) fun _ _ => Xo <|Xq <|Za <|Ze <|mv J J <|dt (Yz J J J ⟨by omega, by omega⟩) J <|Zm J J <|Zd <|Xe (k - 1) (by first | omega | (dsimp only <;> omega)) (by first | omega | (dsimp only <;> omega)) ⟨by rw [show ((k - 1 : Nat) : Int) - 1 = (k : Int) - 1 - 1 by omega]; rfl, rfl, rfl, rfl, rfl, rfl, rfl, trivial⟩ ⟨by rw [hpw, hst]; rfl, by rw [hpw]; rfl, rfl, rfl, rfl, rfl, rfl, trivial⟩
     ·refine Yv <|Zz <|Zz <|Xz <|Za <|Zb <|Zb <|Ze <|dt (Yu J J uT146 J zT144 J J) J <|dt (Yu J J uT144 J zT29 J J) J <|dt (Xk (i := 4) J J J iA29 J) J <|dt (Ym J J J) J <|Zd <|Za <|Zn J (fun h198 => ?_) (fun h198 => ?_)
      ·exfalso; simp_all
      ·refine Zk <|Za <|Zb <|Ze <|dt (Yg (i := 97) J J J iA28 zT28 J J) J <|tt (Zl (i := 3) J J J J J (by decide) J zT28 J J ⟨(Zc J), (Zc J), trivial⟩ J hw trivial) J fun _ _ => Zm J J <|Zd <|Za <|Zr ?_
       obtain rfl : k = 0 := by omega
       have hE : ¬ evfull xs x y := fun h => by have := h.2; omega
       exact Zx (.inl J) hsc () _ (fun a w hs => Xn hs Tryz.results150 (Yq (i := 3) J J iA28 zT28 J) J) (by unfold evv eve; rw [if_neg hE, if_neg hE, ← hor_zero] <;> rfl) trivial J Zj
theorem poly_signat (v : Value) (xs : List Int) (x y : Int) (hv : Vp xs) (hx : bl x.natAbs ≤ 65536) (hy : bl y.natAbs ≤ 65536) (hy0 : 0 < y) : Cal Tryz.prog 127 #[v, .agg #[.bool (decide (x < 0)), .string (bstr x.natAbs), .bool (decide (y < 0)), .string (bstr y.natAbs)]] [slp 2 wv v xs] false (G := Unit) (fun _ => True) (fun _ => .tuple #[.int .i64 (evv xs x y).sign, .int .i64 (eve xs x y)]) (fun _ => []) := by
 refine Ye Tryz.func127 J Tryz.ntmps127 J K1 ?_
 intro w0 sc hw hsc
 simp only [Zq, Zo]
 have hlen := hv.len
 exact Zb <|Ze <|tt (Yy (i := 2) J J J J J J hw) J fun b _ => Zm J J <|Zm J J <|Zd <|Za <|Zb <|Ze <|mv J J <|dt (Xb (i := 2) J J J iA49 zT49 J J J J) J <|tt (Zh (n := 2) (poly_eval _ _ _ _ hv hx hy hy0) J J J K2 cF150 (Zg 1 J J J Zf) J hw) J fun _ _ => mv J J <|dt (Zt J J J) J <|dt (Zt J J J) J <|tt (Zp (i := 3) J J J Tryz.zeroValue28 J J hw) J fun b_2 _ => tt (Zl (i := 3) J J J J J (by decide) J zT28 J J ⟨(Zc J), (Zc J), trivial⟩ J hw trivial) J fun _ _ => Zm J J <|Zd <|Za <|Zb <|Ze <|dt (Yg (i := 3) J J J iA28 zT28 J J) J <|tt (Zh (n := 3) (wide_sign _ (evv_bl hlen)) J J J K1 cF80 Zf J hw) J fun _ _ => mv J J <|Zm J J <|Zm J J <|Zd <|Za <|Zr <|Zx (.inl J) hsc () _ (fun a w hs => Xn hs Tryz.results127 J J) J trivial J Zj
end Go.Sky
namespace Go.Sky
open Go.Proofs
set_option maxRecDepth 20000
set_option maxHeartbeats 4000000
set_option linter.unusedVariables false
set_option linter.unusedSimpArgs false
theorem d_done_b (bd : Nat) (v : Value) (xs : List Int) (hs : Sz 65536 xs) : CalB Tryz.prog 115 #[.pointer (some ⟨bd, 0, none⟩), v] [slp 2 wv v xs] true bd 146 #[.int .i64 0] (G := Unit) (fun _ => True) (fun _ => .tuple #[preV v (tzl xs).length, .int .i64 0]) (fun _ => #[.int .i64 0]) (fun _ => [slp 2 wv (preV v (tzl xs).length) (tzl xs)]) := by
 refine calb_in Tryz.func115 J Tryz.ntmps115 J K1 ?_
 intro w0 sc hw hsc
 simp only [Zq, Zo]
 refine Zb <|Ze <|Zm J J <|Zm J J <|Zd <|Za <|Zb <|Zb <|Ze <|mv J J <|dt (d_nc J J) J <|dt (Yu J J uT146 J zT144 J J) J <|dt (Yu J J uT144 J zT29 J J) J <|dt (Xk (i := 1) J J J iA29 J) J <|dt (Ym J J J) J <|Zd <|Za <|Zn J (fun h43 => ?_) (fun h43 => ?_)
 ·exfalso; simp_all
 ·exact Zk <|Za <|Zb <|Ze <|mv J J <|tt (Zh (n := 3) (poly_trim _ _ (by assumption)) J J J K1 cF120 (Zg 2 J J J Zf) J hw) J fun _ _ => Zm J J <|Zm J J <|Zd <|Za <|Zr <|x_endb (.inl J) hsc () _ (fun a w hs => Xn hs Tryz.results115 J J) J trivial 1 J J J J (Qf 3 J J J Zj)
theorem clone_p (v : Value) (xs : List Int) (hx : xs.length * 24 ≤ 140737488355328) : CalO Tryz.prog 118 #[v] [slp 2 wv v xs] (G := Value) (fun r => True) (fun r => r) (fun r => osl 2 28 wv r xs) := by
 refine calo_in Tryz.func118 J Tryz.ntmps118 J K1 ?_
 intro w0 sc hw hsc
 simp only [Zq, Zo]
 refine Qn (f_nil (i := 1) J Zi) fun hnil => Zb <|Ze <|Zm J J <|Zd <|Za <|Zb <|Zb <|Ze <|mv J J <|dt (d_isnil J J J (i := 1) J Zi uT23) J <|Zd <|Za <|Qq J (fun h357 => ?_) (fun h357 => ?_)
 ·refine Zb <|Ze <|Zm J J <|Zd <|Za <|Zr <|Yw ?_
  obtain rfl : xs = [] := hnil (by simpa using h357)
  exact Qe (Qa 9 2 28 wv) <|x_endo (.inl J) (.slice none 0 0) _ (fun a w hs => Yt hs Tryz.results118 J) J trivial J 9 J J J
 ·exact Zk <|Za <|Zb <|Ze <|tt (t_bs0 (i := 2) (enc := wv) J J J uT23 pV J hw) J fun v _ => mv J J <|tt (t_appa (i := 2) (j := 1) (by_ := 24) J J J J J J (by decide) J Zi uT23 Tryz.ti28 J pV J J J (by simp; omega) (by decide) J hw) J fun v_2 _ => Zm J J <|Zd <|Za <|Zr <|x_endo (.inl J) _ _ (fun a w hs => Yt hs Tryz.results118 J) J trivial J 2 J (by rfl) J
theorem poly_degree (v : Value) (xs : List Int) (hv : Vp xs) : Cal Tryz.prog 57 #[v] [slp 2 wv v xs] false (G := Unit) (fun _ => True) (fun _ => .tuple #[.int .i64 ((xs.length : Int) - 1), .int .i64 0]) (fun _ => []) := by
 refine Ye Tryz.func57 J Tryz.ntmps57 J K1 ?_
 intro w0 sc hw hsc
 simp only [Zq, Zo]
 have hlen := hv.len
 exact Zb <|Ze <|Zm J J <|Zm J J <|Zd <|Za <|Zb <|Zb <|Ze <|mv J J <|tt (Zh (n := 1) (poly_valid_ok _ _ (by assumption)) J J J K1 cF56 (Zg 1 J J J Zf) J hw) J fun _ _ => dt (Xx J J) J <|Zd <|Za <|Yc J <|Zk <|Za <|Zb <|Ze <|mv J J <|dt (Zy J J (i := 1) J Zi uT23) J <|dt (Yz J J J ⟨by omega, by omega⟩) J <|Zm J J <|Zm J J <|Zd <|Za <|Zr <|Zx (.inl J) hsc () _ (fun a w hs => Xn hs Tryz.results57 J J) J trivial J Zj
theorem poly_bits (v : Value) (xs : List Int) (hv : Vp xs) : Cal Tryz.prog 58 #[v] [slp 2 wv v xs] false (G := Unit) (fun _ => True) (fun _ => .tuple #[.int .i64 (msz xs : Int), .int .i64 0]) (fun _ => []) := by
 refine Ye Tryz.func58 J Tryz.ntmps58 J K1 ?_
 intro w0 sc hw hsc
 simp only [Zq, Zo]
 exact Zb <|Ze <|Zm J J <|Zm J J <|Zd <|Za <|Zb <|Zb <|Ze <|mv J J <|tt (Zh (n := 1) (poly_valid_ok _ _ (by assumption)) J J J K1 cF56 (Zg 1 J J J Zf) J hw) J fun _ _ => dt (Xx J J) J <|Zd <|Za <|Yc J <|Zk <|Za <|Zb <|Ze <|mv J J <|tt (Zh (n := 1) (poly_size _ _ hv.sz) J J J K1 cF110 (Zg 1 J J J Zf) J hw) J fun _ _ => Zm J J <|Zm J J <|Zd <|Za <|Zr <|Zx (.inl J) hsc () _ (fun a w hs => Xn hs Tryz.results58 J J) J trivial J Zj
end Go.Sky

