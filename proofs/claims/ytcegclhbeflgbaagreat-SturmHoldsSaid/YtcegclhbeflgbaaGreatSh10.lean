/- rules, arithmetic and contracts: part 11
   Proved without conditions of its own: each theorem bears its own. -/
import Derived.Test.YtcegclhbeflgbaaGreatSh02
import Derived.Test.YtcegclhbeflgbaaGreatSh01
import Derived.Test.YtcegclhbeflgbaaGreatSh03
import Derived.Test.YtcegclhbeflgbaaGreatSh09
import Derived.Test.YtcegclhbeflgbaaGreatSh04
set_option linter.all false
namespace Go.Sky
open Go.Proofs
set_option maxRecDepth 20000
set_option maxHeartbeats 4000000
set_option linter.unusedVariables false
set_option linter.unusedSimpArgs false
theorem wide_pair (x y x2 y2 : Int) (hx : bl x.natAbs ≤ 65536) (hy : bl y.natAbs ≤ 65536) (hx2 : bl x2.natAbs ≤ 65536) (hy2 : bl y2.natAbs ≤ 65536) (hp : 0 < y) (hp2 : 0 < y2) : Cal Tryz.prog 137 #[.agg #[.bool (decide (x < 0)), .string (bstr x.natAbs), .bool (decide (y < 0)), .string (bstr y.natAbs)], .agg #[.bool (decide (x2 < 0)), .string (bstr x2.natAbs), .bool (decide (y2 < 0)), .string (bstr y2.natAbs)]] [] false (G := Unit) (fun _ => True) (fun _ => .bool true) (fun _ => []) := by
 refine Ya Tryz.func137 J Tryz.ntmps137 J trivial ?_
 intro w0 sc hw hsc
 simp only [Zp, Zo]
 exact Zb <|Zd <|tt (Yq (i := 1) J J J J J J hw) J fun b _ => tt (Yq (i := 2) J J J J J J hw) J fun b_2 _ => Zl J J <|Zc <|Za <|Zb <|Zd <|dt (Yt (i := 1) J J J iA49 zT49 J J J J) J <|tt (Zg (n := 2) (wide_validratio_ok _ _ (by assumption) (by assumption) (by assumption)) J J J K1 cF98 Ze J hw) J fun _ _ => mv J J <|Yj (Yt (i := 2) J J J iA49 zT49 J J J J) J J J J <|gtt (Zg (n := 2) (wide_validratio_ok _ _ (by assumption) (by assumption) (by assumption)) J J J K1 cF98 Ze J hw) J J J J fun _ _ => dt (Ym J J J) J <|Zl J J <|Zc <|Za <|Zq <|Zr (.inl J) hsc () _ (fun a w hs => Yr hs Tryz.results137 J) J trivial J Zj
theorem wide_crossed (x y x2 y2 : Int) (hx : bl x.natAbs ≤ 65536) (hy : bl y.natAbs ≤ 65536) (hx2 : bl x2.natAbs ≤ 65536) (hy2 : bl y2.natAbs ≤ 65536) : Cal Tryz.prog 138 #[.agg #[.bool (decide (x < 0)), .string (bstr x.natAbs), .bool (decide (y < 0)), .string (bstr y.natAbs)], .agg #[.bool (decide (x2 < 0)), .string (bstr x2.natAbs), .bool (decide (y2 < 0)), .string (bstr y2.natAbs)]] [] true (G := Bool × Value × Bool × Value × Bool × Value) (fun r => sg r.1 (x * y2) ∧ sg r.2.2.1 (x2 * y) ∧ sg r.2.2.2.2.1 (y * y2)) (fun r => .tuple #[.agg #[.bool r.1, r.2.1], .agg #[.bool r.2.2.1, r.2.2.2.1], .agg #[.bool r.2.2.2.2.1, r.2.2.2.2.2]]) (fun r => [dgp r.2.1 (x * y2).natAbs, dgp r.2.2.2.1 (x2 * y).natAbs, dgp r.2.2.2.2.2 (y * y2).natAbs]) := by
 refine Ya Tryz.func138 J Tryz.ntmps138 J trivial ?_
 intro w0 sc hw hsc
 simp only [Zp, Zo]
 have b1 := bl_imul x y2
 have b2 := bl_imul x2 y
 have b3 := bl_imul y y2
 have b4 := bl_imul x x2
 refine Zb <|Zd <|tt (Yq (i := 1) J J J J J J hw) J fun b _ => tt (Yq (i := 2) J J J J J J hw) J fun b_2 _ => tt (Zx (i := 3) J J J Tryz.zeroValue129 J J hw) J fun b_3 _ => tt (Zx (i := 4) J J J Tryz.zeroValue129 J J hw) J fun b_4 _ => tt (Zx (i := 5) J J J Tryz.zeroValue129 J J hw) J fun b_5 _ => Zc <|Za <|Zb <|e_dregf [1, 2] [23] (by kernel_rfl) <|Yu (n := 0) [(0, 0), (1, 0), (3, 0), (4, 0), (7, 0), (8, 0), (10, 0), (11, 0), (14, 0), (15, 0), (17, 0), (18, 0), (2, 1), (5, 1), (6, 1), (9, 1), (12, 1), (13, 1), (16, 1), (19, 1), (20, 1), (21, 1), (22, 1), (23, 3)] (by kernel_rfl) <|r0' J J J J (stf (Yk J J uT49 J zT28 J J) K2) <|r0' J J J J (stf (Yc (i := 1) J J J iA28 zT28 J J) K2) <|r0' J J J J (stf (Yk J J uT49 J zT28 J J) K2) <|r0' J J J J (stf (Yc (i := 2) J J J iA28 zT28 J J) K2) <|r0' J J J J (stf (Yk J J uT49 J zT28 J J) K2) <|r0' J J J J (stf (Yc (i := 2) J J J iA28 zT28 J J) K2) <|r0' J J J J (stf (Yk J J uT49 J zT28 J J) K2) <|r0' J J J J (stf (Yc (i := 1) J J J iA28 zT28 J J) K2) <|r0' J J J J (stf (Yk J J uT49 J zT28 J J) K2) <|r0' J J J J (stf (Yc (i := 1) J J J iA28 zT28 J J) K2) <|r0' J J J J (stf (Yk J J uT49 J zT28 J J) K2) ?_
 refine r0' J J J J (stf (Yc (i := 2) J J J iA28 zT28 J J) K2) <|r1' J J (Zg (n := 6) (wide_of _ _ (sg_dec _) (by omega)) J J J K1 cF102 Ze J hw) fun g hg => r1' J J (Zg (n := 7) (wide_of _ _ (sg_dec _) (by omega)) J J J K1 cF102 Ze J hw) fun g_2 hg_2 => r1' J J (Zg (n := 8) (num_mul _ _ _ _ _ _ (by assumption) (by assumption) (by omega) (by omega)) J J J K2 cF151 (Zf 6 J J J (Zf 7 J J J Ze)) J hw) fun g_3 hg_3 => r1' J J (Zg (n := 9) (wide_of _ _ (sg_dec _) (by omega)) J J J K1 cF102 Ze J hw) fun g_4 hg_4 => r1' J J (Zg (n := 10) (wide_of _ _ (sg_dec _) (by omega)) J J J K1 cF102 Ze J hw) fun g_5 hg_5 => r1' J J (Zg (n := 11) (num_mul _ _ _ _ _ _ (by assumption) (by assumption) (by omega) (by omega)) J J J K2 cF151 (Zf 9 J J J (Zf 10 J J J Ze)) J hw) fun g_6 hg_6 => r1' J J (Zg (n := 12) (wide_of _ _ (sg_dec _) (by omega)) J J J K1 cF102 Ze J hw) fun g_7 hg_7 => r1' J J (Zg (n := 13) (wide_of _ _ (sg_dec _) (by omega)) J J J K1 cF102 Ze J hw) fun g_8 hg_8 => r1' J J (Zg (n := 14) (num_mul _ _ _ _ _ _ (by assumption) (by assumption) (by omega) (by omega)) J J J K2 cF151 (Zf 12 J J J (Zf 13 J J J Ze)) J hw) (fun g_9 hg_9 => ?_)
 exact r1' J J (t_off 3 J J K2 (fun hoffb => (Zu (i := 3) J J J J J (by decide) J zT129 J J ⟨(Zh J), (Yb (i := 8) J Zi), trivial⟩ J hw hoffb))) fun _ _ => r1' J J (t_off 4 J J K2 (fun hoffb => (Zu (i := 4) J J J J J (by decide) J zT129 J J ⟨(Zh J), (Yb (i := 11) J Zi), trivial⟩ J hw hoffb))) fun _ _ => r3' J J (Zu (i := 5) J J J J J (by decide) J zT129 J J ⟨(Zh J), (Yb (i := 14) J Zi), trivial⟩ J hw trivial) fun _ _ => Xh <|Xg (by kernel_rfl) <|Za <|Zq <|Zr (.inl J) hsc (_, _, _, _, _, _) _ (fun a w hs => res3 hs Tryz.results138 (Yl (i := 3) J J iA129 zT129 J) (Yl (i := 4) J J iA129 zT129 J) (Yl (i := 5) J J iA129 zT129 J)) J ⟨by assumption, by assumption, by assumption⟩ J (Xw 8 J J J (Xw 11 J J J (Xw 14 J J J Zj)))
theorem wide_compareratio (x y x2 y2 : Int) (hx : bl x.natAbs ≤ 65536) (hy : bl y.natAbs ≤ 65536) (hx2 : bl x2.natAbs ≤ 65536) (hy2 : bl y2.natAbs ≤ 65536) (hp : 0 < y) (hp2 : 0 < y2) : Cal Tryz.prog 100 #[.agg #[.bool (decide (x < 0)), .string (bstr x.natAbs), .bool (decide (y < 0)), .string (bstr y.natAbs)], .agg #[.bool (decide (x2 < 0)), .string (bstr x2.natAbs), .bool (decide (y2 < 0)), .string (bstr y2.natAbs)]] [] false (G := Unit) (fun _ => True) (fun _ => .tuple #[.int .i64 (x * y2 - x2 * y).sign, .int .i64 0]) (fun _ => []) := by
 refine Ya Tryz.func100 J Tryz.ntmps100 J trivial ?_
 intro w0 sc hw hsc
 simp only [Zp, Zo]
 have b1 := bl_imul x y2
 have b2 := bl_imul x2 y
 have b3 := bl_imul y y2
 have b4 := bl_imul x x2
 have b5 := bl_neg (x2 * y)
 have b6 := bl_iadd (x * y2) (-(x2 * y))
 refine Zb <|Zd <|tt (Yq (i := 1) J J J J J J hw) J fun b _ => tt (Yq (i := 2) J J J J J J hw) J fun b_2 _ => Zl J J <|Zl J J <|Zc <|Za <|Zb <|Zb <|Zd <|dt (Yt (i := 1) J J J iA49 zT49 J J J J) J <|dt (Yt (i := 2) J J J iA49 zT49 J J J J) J <|tt (Zg (n := 2) (wide_pair _ _ _ _ (by assumption) (by assumption) (by assumption) (by assumption) (by assumption) (by assumption)) J J J K2 cF137 Ze J hw) J fun _ _ => dt (Xf J J) J <|Zc <|Za <|Yd J <|Zk <|Za <|Zb <|Zd <|dt (Yt (i := 1) J J J iA49 zT49 J J J J) J <|dt (Yt (i := 2) J J J iA49 zT49 J J J J) J <|tt (Zg (n := 3) (wide_crossed _ _ _ _ (by assumption) (by assumption) (by assumption) (by assumption)) J J J K2 cF138 Ze J hw) J (fun g hg => ?_)
 obtain ⟨hc1, hc2, hc3⟩ := hg
 refine mv J J <|dt (Zw J J J) J <|dt (Zw J J J) J <|dt (Zw J J J) J <|tt (Zx (i := 6) J J J Tryz.zeroValue129 J J hw) J fun b_3 _ => tt (Zx (i := 7) J J J Tryz.zeroValue129 J J hw) J fun b_4 _ => tt (Zx (i := 8) J J J Tryz.zeroValue129 J J hw) J fun b_5 _ => tt (Zu (i := 6) J J J J J (by decide) J zT129 J J ⟨(Zh J), (Yb (i := 3) J Zi), trivial⟩ J hw trivial) J fun _ _ => tt (Zu (i := 7) J J J J J (by decide) J zT129 J J ⟨(Zh J), (Yb (i := 4) J Zi), trivial⟩ J hw trivial) J fun _ _ => tt (Zu (i := 8) J J J J J (by decide) J zT129 J J ⟨(Zh J), (Yb (i := 5) J Zi), trivial⟩ J hw trivial) J fun _ _ => Zc <|Za <|Zb <|Xa (fun _ => False) [(0, 0), (1, 0), (2, 1), (3, 1), (4, 1), (5, 3), (6, 3)] (by kernel_rfl) ?_ ?_
 ·kernel_rfl
 exact r0' J J J J (st0 (Yc (i := 6) J J J iA129 zT129 J J)) <|r0' J J J J (st0 (Yc (i := 7) J J J iA129 zT129 J J)) <|r1' J J (Zg (n := 9) (num_neg _ _ _ (by assumption)) J J J K1 cF104 (Zf 4 J J J Ze) J hw) fun g_2 hg_2 => r1' J J (Zg (n := 10) (num_add _ _ _ _ _ _ (by assumption) (by assumption) (by omega) (by omega)) J J J K2 cF103 (Zf 3 J J J (Zf 9 J J J Ze)) J hw) fun g_3 hg_3 => r1' J J (Zg (n := 10) (num_sign _ _ _ (by assumption) (by omega)) J J J K1 cF105 (Zf 10 J J J Ze) J hw) fun _ _ => r3' J J (Qa (Qf J J) J J) fun _ _ => r3' J J (Qa (Qf J J) J J) fun _ _ => Xn <|Za <|Zq <|Zr (.inl J) hsc () _ (fun a w hs => Xp hs Tryz.results100 J J) (by rw [Int.sub_eq_add_neg] <;> rfl) trivial J Zj
theorem wide_addratio (x y x2 y2 : Int) (hx : bl x.natAbs ≤ 65536) (hy : bl y.natAbs ≤ 65536) (hx2 : bl x2.natAbs ≤ 65536) (hy2 : bl y2.natAbs ≤ 65536) (hp : 0 < y) (hp2 : 0 < y2) : Cal Tryz.prog 130 #[.agg #[.bool (decide (x < 0)), .string (bstr x.natAbs), .bool (decide (y < 0)), .string (bstr y.natAbs)], .agg #[.bool (decide (x2 < 0)), .string (bstr x2.natAbs), .bool (decide (y2 < 0)), .string (bstr y2.natAbs)]] [] false (G := Unit) (fun _ => True) (fun _ => ratioV (x * y2 + x2 * y) (y * y2)) (fun _ => []) := by
 refine Ya Tryz.func130 J Tryz.ntmps130 J trivial ?_
 intro w0 sc hw hsc
 simp only [Zp, Zo]
 have b1 := bl_imul x y2
 have b2 := bl_imul x2 y
 have b3 := bl_imul y y2
 have b4 := bl_imul x x2
 have b6 := bl_iadd (x * y2) (x2 * y)
 refine Zb <|Zd <|tt (Yq (i := 1) J J J J J J hw) J fun b _ => tt (Yq (i := 2) J J J J J J hw) J fun b_2 _ => tt (Zx (i := 3) J J J Tryz.zeroValue49 J J hw) J fun b_3 _ => Zl J J <|Zc <|Za <|Zb <|Zb <|Zd <|dt (Yt (i := 1) J J J iA49 zT49 J J J J) J <|dt (Yt (i := 2) J J J iA49 zT49 J J J J) J <|tt (Zg (n := 3) (wide_pair _ _ _ _ (by assumption) (by assumption) (by assumption) (by assumption) (by assumption) (by assumption)) J J J K2 cF137 Ze J hw) J fun _ _ => dt (Xf J J) J <|Zc <|Za <|Yd J <|Zk <|Za <|Zb <|Zd <|dt (Yt (i := 1) J J J iA49 zT49 J J J J) J <|dt (Yt (i := 2) J J J iA49 zT49 J J J J) J <|tt (Zg (n := 4) (wide_crossed _ _ _ _ (by assumption) (by assumption) (by assumption) (by assumption)) J J J K2 cF138 Ze J hw) J (fun g hg => ?_)
 obtain ⟨hc1, hc2, hc3⟩ := hg
 refine mv J J <|dt (Zw J J J) J <|dt (Zw J J J) J <|dt (Zw J J J) J <|tt (Zx (i := 7) J J J Tryz.zeroValue129 J J hw) J fun b_4 _ => tt (Zx (i := 8) J J J Tryz.zeroValue129 J J hw) J fun b_5 _ => tt (Zx (i := 9) J J J Tryz.zeroValue129 J J hw) J fun b_6 _ => tt (Zu (i := 7) J J J J J (by decide) J zT129 J J ⟨(Zh J), (Yb (i := 4) J Zi), trivial⟩ J hw trivial) J fun _ _ => tt (Zu (i := 8) J J J J J (by decide) J zT129 J J ⟨(Zh J), (Yb (i := 5) J Zi), trivial⟩ J hw trivial) J fun _ _ => tt (Zu (i := 9) J J J J J (by decide) J zT129 J J ⟨(Zh J), (Yb (i := 6) J Zi), trivial⟩ J hw trivial) J fun _ _ => Zc <|Za <|Zb <|Xa (fun _ => False) [(0, 0), (1, 0), (3, 0), (2, 1), (4, 1), (5, 0), (6, 0), (7, 3), (8, 3)] (by kernel_rfl) ?_ ?_
 ·kernel_rfl
 exact r0' J J J J (st0 (Yc (i := 7) J J J iA129 zT129 J J)) <|r0' J J J J (st0 (Yc (i := 8) J J J iA129 zT129 J J)) <|r0' J J J J (st0 (Yc (i := 9) J J J iA129 zT129 J J)) <|r1' J J (Zg (n := 10) (num_add _ _ _ _ _ _ (by assumption) (by assumption) (by omega) (by omega)) J J J K2 cF103 (Zf 4 J J J (Zf 5 J J J Ze)) J hw) fun g_2 hg_2 => r1' J J (Zg (n := 10) (wide_lowest _ _ _ _ _ _ (by assumption) (by assumption) (by omega) (by omega) (Int.mul_ne_zero (by omega) (by omega))) J J J K2 cF132 (Zf 10 J J J (Zf 6 J J J Ze)) J hw) fun _ _ => r0' J J J J (st0 (Zw J J J)) <|r0' J J J J (st0 (Zw J J J)) <|r3' J J (Zu (i := 3) J J J J J (by decide) J zT49 J J ⟨(Zh J), (Zh J), (Zh J), (Zh J), trivial⟩ J hw trivial) fun _ _ => r3' J J (Qa (Qf J J) J J) fun _ _ => Xn <|Za <|Zq <|Zr (.inl J) hsc () _ (fun a w hs => Xp hs Tryz.results130 (Yl (i := 3) J J iA49 zT49 J) J) J trivial J Zj
theorem wide_mulratio (x y x2 y2 : Int) (hx : bl x.natAbs ≤ 65536) (hy : bl y.natAbs ≤ 65536) (hx2 : bl x2.natAbs ≤ 65536) (hy2 : bl y2.natAbs ≤ 65536) (hp : 0 < y) (hp2 : 0 < y2) : Cal Tryz.prog 131 #[.agg #[.bool (decide (x < 0)), .string (bstr x.natAbs), .bool (decide (y < 0)), .string (bstr y.natAbs)], .agg #[.bool (decide (x2 < 0)), .string (bstr x2.natAbs), .bool (decide (y2 < 0)), .string (bstr y2.natAbs)]] [] false (G := Unit) (fun _ => True) (fun _ => ratioV (x * x2) (y * y2)) (fun _ => []) := by
 refine Ya Tryz.func131 J Tryz.ntmps131 J trivial ?_
 intro w0 sc hw hsc
 simp only [Zp, Zo]
 have b1 := bl_imul x y2
 have b2 := bl_imul x2 y
 have b3 := bl_imul y y2
 have b4 := bl_imul x x2
 refine Zb <|Zd <|tt (Yq (i := 1) J J J J J J hw) J fun b _ => tt (Yq (i := 2) J J J J J J hw) J fun b_2 _ => tt (Zx (i := 3) J J J Tryz.zeroValue49 J J hw) J fun b_3 _ => Zl J J <|Zc <|Za <|Zb <|Zb <|Zd <|dt (Yt (i := 1) J J J iA49 zT49 J J J J) J <|dt (Yt (i := 2) J J J iA49 zT49 J J J J) J <|tt (Zg (n := 3) (wide_pair _ _ _ _ (by assumption) (by assumption) (by assumption) (by assumption) (by assumption) (by assumption)) J J J K2 cF137 Ze J hw) J fun _ _ => dt (Xf J J) J <|Zc <|Za <|Yd J <|Zk <|Za <|Zb <|Xa (fun _ => False) [(0, 0), (1, 0), (3, 0), (4, 0), (7, 0), (8, 0), (10, 0), (11, 0), (2, 1), (5, 1), (6, 1), (9, 1), (12, 1), (13, 1), (14, 1), (15, 0), (16, 0), (17, 3), (18, 3)] (by kernel_rfl) ?_ ?_
 ·kernel_rfl
 refine r0' J J J J (st0 (Yk J J uT49 J zT28 J J)) <|r0' J J J J (st0 (Yc (i := 1) J J J iA28 zT28 J J)) <|r0' J J J J (st0 (Yk J J uT49 J zT28 J J)) <|r0' J J J J (st0 (Yc (i := 2) J J J iA28 zT28 J J)) <|r0' J J J J (st0 (Yk J J uT49 J zT28 J J)) <|r0' J J J J (st0 (Yc (i := 1) J J J iA28 zT28 J J)) <|r0' J J J J (st0 (Yk J J uT49 J zT28 J J)) <|r0' J J J J (st0 (Yc (i := 2) J J J iA28 zT28 J J)) <|r1' J J (Zg (n := 4) (wide_of _ _ (sg_dec _) (by omega)) J J J K1 cF102 Ze J hw) fun g hg => r1' J J (Zg (n := 5) (wide_of _ _ (sg_dec _) (by omega)) J J J K1 cF102 Ze J hw) fun g_2 hg_2 => r1' J J (Zg (n := 6) (num_mul _ _ _ _ _ _ (by assumption) (by assumption) (by omega) (by omega)) J J J K2 cF151 (Zf 4 J J J (Zf 5 J J J Ze)) J hw) fun g_3 hg_3 => r1' J J (Zg (n := 7) (wide_of _ _ (sg_dec _) (by omega)) J J J K1 cF102 Ze J hw) fun g_4 hg_4 => r1' J J (Zg (n := 8) (wide_of _ _ (sg_dec _) (by omega)) J J J K1 cF102 Ze J hw) fun g_5 hg_5 => r1' J J (Zg (n := 9) (num_mul _ _ _ _ _ _ (by assumption) (by assumption) (by omega) (by omega)) J J J K2 cF151 (Zf 7 J J J (Zf 8 J J J Ze)) J hw) (fun g_6 hg_6 => ?_)
 exact r1' J J (Zg (n := 9) (wide_lowest _ _ _ _ _ _ (by assumption) (by assumption) (by omega) (by omega) (Int.mul_ne_zero (by omega) (by omega))) J J J K2 cF132 (Zf 6 J J J (Zf 9 J J J Ze)) J hw) fun _ _ => r0' J J J J (st0 (Zw J J J)) <|r0' J J J J (st0 (Zw J J J)) <|r3' J J (Zu (i := 3) J J J J J (by decide) J zT49 J J ⟨(Zh J), (Zh J), (Zh J), (Zh J), trivial⟩ J hw trivial) fun _ _ => r3' J J (Qa (Qf J J) J J) fun _ _ => Xn <|Za <|Zq <|Zr (.inl J) hsc () _ (fun a w hs => Xp hs Tryz.results131 (Yl (i := 3) J J iA49 zT49 J) J) J trivial J Zj
theorem wide_compare (x y : Int) (hx : bl x.natAbs ≤ 65536) (hy : bl y.natAbs ≤ 65536) : Cal Tryz.prog 52 #[wv x, wv y] [] false (G := Unit) (fun _ => True) (fun _ => .int .i64 (x - y).sign) (fun _ => []) := by
 refine Ya Tryz.func52 J Tryz.ntmps52 J trivial ?_
 intro w0 sc hw hsc
 simp only [Zp, Zo]
 have b5 := bl_neg y
 have b6 := bl_iadd x (-y)
 refine Zb <|Zd <|tt (Yq (i := 1) J J J J J J hw) J fun b _ => tt (Yq (i := 2) J J J J J J hw) J fun b_2 _ => Zl J J <|Zc <|Za <|Zb <|Zb <|Zd <|dt (Yc (i := 1) J J J iA28 zT28 J J) J <|dt (Yc (i := 2) J J J iA28 zT28 J J) J <|tt (Zg (n := 2) (wide_both_ok _ _ (by assumption) (by assumption)) J J J K2 cF101 Ze J hw) J fun _ _ => dt (Xf J J) J <|Zc <|Za <|Yd J <|Zk <|Za <|Zb <|Xa (fun _ => False) [(0, 0), (2, 0), (1, 1), (3, 1), (4, 1), (5, 1), (6, 1), (7, 3)] (by kernel_rfl) ?_ ?_
 ·kernel_rfl
 exact r0' J J J J (st0 (Yc (i := 1) J J J iA28 zT28 J J)) <|r0' J J J J (st0 (Yc (i := 2) J J J iA28 zT28 J J)) <|r1' J J (Zg (n := 3) (wide_of _ _ (sg_dec _) (by omega)) J J J K1 cF102 Ze J hw) fun g hg => r1' J J (Zg (n := 4) (wide_of _ _ (sg_dec _) (by omega)) J J J K1 cF102 Ze J hw) fun g_2 hg_2 => r1' J J (Zg (n := 5) (num_neg _ _ _ (by assumption)) J J J K1 cF104 (Zf 4 J J J Ze) J hw) fun g_3 hg_3 => r1' J J (Zg (n := 6) (num_add _ _ _ _ _ _ (by assumption) (by assumption) (by omega) (by omega)) J J J K2 cF103 (Zf 3 J J J (Zf 5 J J J Ze)) J hw) fun g_4 hg_4 => r1' J J (Zg (n := 6) (num_sign _ _ _ (by assumption) (by omega)) J J J K1 cF105 (Zf 6 J J J Ze) J hw) fun _ _ => r3' J J (Qa (Qf J J) J J) fun _ _ => Xn <|Za <|Zq <|Zr (.inl J) hsc () _ (fun a w hs => Yr hs Tryz.results52 J) (by rw [Int.sub_eq_add_neg] <;> rfl) trivial J Zj
end Go.Sky
namespace Go.Sky
open Go.Proofs
set_option maxRecDepth 20000
set_option maxHeartbeats 4000000
set_option linter.unusedVariables false
set_option linter.unusedSimpArgs false
theorem st_fits (v : Value) (xs : List Int) (hv : Vp xs) : Cal Tryz.prog 14 #[v] [slp 2 wv v xs] false (G := Unit) (fun _ => True) (fun _ => .bool (decide (sfits xs))) (fun _ => []) := by
 refine Ya Tryz.func14 J Tryz.ntmps14 J K1 ?_
 intro w0 sc hw hsc
 simp only [Zp, Zo]
 have hlen := hv.len
 have hmz := msz_le hv.sz
 have q1 : (xs.length + 2) * (xs.length + 2) ≤ 27 * 27 := Nat.mul_le_mul (by omega) (by omega)
 have q2 : (xs.length + 2) * (xs.length + 2) * (msz xs + 16) ≤ 27 * 27 * 65552 := Nat.mul_le_mul q1 (by omega)
 have q3 : ((xs.length : Int) - 1 + 3) * ((xs.length : Int) - 1 + 3) = (((xs.length + 2) * (xs.length + 2) : Nat) : Int) := by rw [show (xs.length : Int) - 1 + 3 = ((xs.length + 2 : Nat) : Int) by omega]; push_cast; rfl
 have q4 : ((xs.length : Int) - 1 + 3) * ((xs.length : Int) - 1 + 3) * ((msz xs : Int) + 16) = (((xs.length + 2) * (xs.length + 2) * (msz xs + 16) : Nat) : Int) := by rw [q3]; push_cast; rfl
 refine Zb <|Zd <|Zl J J <|Zc <|Za <|Zb <|Zb <|Zd <|mv J J <|tt (Zg (n := 1) (poly_valid_ok _ _ (by assumption)) J J J K1 cF56 (Zf 1 J J J Ze) J hw) J fun _ _ => dt (Xf J J) J <|Zc <|Za <|Yd J <|Zk <|Za <|Zb <|Zd <|mv J J <|tt (Zg (n := 1) (poly_degree _ _ hv) J J J K1 cF57 (Zf 1 J J J Ze) J hw) J fun _ _ => mv J J <|dt (Zw J J J) J <|dt (Zw J J J) J <|Zl J J <|Zl J J <|Zc <|Za <|Zb <|Zd <|mv J J <|tt (Zg (n := 1) (poly_bits _ _ hv) J J J K1 cF58 (Zf 1 J J J Ze) J hw) J fun _ _ => mv J J <|dt (Zw J J J) J <|dt (Zw J J J) J <|Zl J J <|Zl J J <|Zc <|Za <|Zb <|Zd <|mv J J <|dt (Zy J J (i := 1) J Zi uT23) J <|dt (Xu J J J) J <|mv J J <|Xo (d := 23) J (fun s24 => ?_) (fun s24 => ?_)
 ·exact Yy J J J J J <|Yy J J J J J <|Yy J J J J J <|Yy J J J J J <|Yy J J J J J <|Yy J J J J J <|Yy J J J J J <|Yy J J J J J <|Yy J J J J J <|dt (Ym J J J) J <|Zl J J <|Zc <|Za <|Zq <|Zr (.inl J) hsc () _ (fun a w hs => Yr hs Tryz.results14 J) (by first | exact sf_t (by omega) | exact sf_i (by omega) q4) trivial J Zj
 ·exact Yj (Zv J J) J J J J <|Yj (Yg J J J ⟨by omega, by omega⟩) J J J J <|Yj (Zv J J) J J J J <|Yj (Yg J J J ⟨by omega, by omega⟩) J J J J <|Yj (d_mul J J J (by rw [q3]; exact ⟨by omega, by omega⟩)) J J J J <|Yj (Zv J J) J J J J <|Yj (Yg J J J ⟨by omega, by omega⟩) J J J J <|Yj (d_mul J J J (by rw [q4]; exact ⟨by omega, by omega⟩)) J J J J <|Yj (d_leq J J J) J J J J <|dt (Zs J J J) J <|Zl J J <|Zc <|Za <|Zq <|Zr (.inl J) hsc () _ (fun a w hs => Yr hs Tryz.results14 J) (by first | exact sf_t (by omega) | exact sf_i (by omega) q4) trivial J Zj
theorem st_check0 (v : Value) (xs : List Int) (hv : Vp xs) : Cal Tryz.prog 51 #[v, .slice none 0 0] [slp 2 wv v xs] false (G := Unit) (fun _ => True) (fun _ => .int .i64 (chk0 xs)) (fun _ => []) := by
 refine Ya Tryz.func51 J Tryz.ntmps51 J K1 ?_
 intro w0 sc hw hsc
 simp only [Zp, Zo]
 refine Yh (Xy 999 2 28 wv) <|Yh (Xk 999 J J pV) <|Zb <|Zd <|Zl J J <|Zc <|Za <|Zb <|Zd <|mv J J <|tt (Zg (n := 1) (st_fits _ _ hv) J J J K1 cF14 (Zf 1 J J J Ze) J hw) J fun _ _ => dt (d_not J J) J <|Zl J J <|Zc <|Za <|Zb <|Zb <|Zd <|mv J J <|dt (Zy J J (i := 999) J Zi uT87) J <|mv J J <|Zc <|Za <|Zm <|Xv [(0, _), (1, _), (13, _), (14, _)] [(0, _), (1, _), (999, _)] (fun (_ : Unit) => [(15, .int .i64 0), (5, .bool (decide (¬ sfits xs)))]) (fun (_ : Unit) => []) (fun (_ : Unit) => True) (fun (_ : Unit) => 0) () trivial K6 K3 ?_
 rintro _ -
 simp only [List.cons_append, List.nil_append]
 refine Zb <|Zd <|dt (Zz (r' := .bool false) (Yw J J J) (congrArg Value.bool (by decide))) J <|Zc <|Za <|Zb <|Yd J <|Yo <|Zt <|Zt <|Xr <|Za <|Zb <|Zb <|Zd <|mv J J <|tt (Zg (n := 1) (poly_valid_ok _ _ (by assumption)) J J J K1 cF56 (Zf 1 J J J Ze) J hw) J fun _ _ => dt (Xf J J) J <|Zc <|Za <|Yd J <|Zk <|Za <|Zb <|Zb <|Zd <|mv J J <|dt (Zy J J (i := 1) J Zi uT23) J <|dt (Xu J J J) J <|Zc <|Za <|Zn J (fun h39 => ?_) (fun h39 => ?_)
 ·exact Zb <|Zd <|Zl J J <|Zc <|Za <|Zq <|Yp <|Zr (.inl J) hsc () _ (fun a w hs => Yr hs Tryz.results51 J) (by unfold chk0; rw [if_pos (by omega)]) trivial J Zj
 ·refine Zk <|Za <|Zb <|Zb <|Zd <|mv J J <|dt (Zy J J (i := 999) J Zi uT87) J <|dt (Zz (r' := .bool false) (Xu J J J) (congrArg Value.bool (by decide))) J <|Zc <|Za <|Yd J <|Zk <|Za <|Zb <|Zb <|Zd <|mv J J <|Zc <|Za <|Qn J (fun h47 => ?_) (fun h47 => ?_)
  ·exact Zb <|Zd <|Zl J J <|Zc <|Za <|Zq <|Yp <|Zr (.inl J) hsc () _ (fun a w hs => Yr hs Tryz.results51 J) (by unfold chk0; rw [if_neg (by omega), if_neg (by simpa using h47)]) trivial J Zj
  ·exact Zk <|Za <|Zb <|Zd <|Zl J J <|Zc <|Za <|Zq <|Zr (.inl J) hsc () _ (fun a w hs => Yr hs Tryz.results51 J) (by unfold chk0; rw [if_neg (by omega), if_pos (by simpa using h47)]) trivial J Zj
theorem st_check2 (v : Value) (xs : List Int) (hv : Vp xs) (u : Value) (x y x2 y2 : Int) (hx : bl x.natAbs ≤ 65536) (hy : bl y.natAbs ≤ 65536) (hx2 : bl x2.natAbs ≤ 65536) (hy2 : bl y2.natAbs ≤ 65536) (hp : 0 < y) (hp2 : 0 < y2) : Cal Tryz.prog 51 #[v, u] [slp 2 wv v xs, slp 4 rq u [(x, y), (x2, y2)]] false (G := Unit) (fun _ => True) (fun _ => .int .i64 (chk2r xs x y x2 y2)) (fun _ => []) := by
 refine Ya Tryz.func51 J Tryz.ntmps51 J K2 ?_
 intro w0 sc hw hsc
 simp only [Zp, Zo]
 have hll : ([(x, y), (x2, y2)] : List (Int × Int)).length = 2 := rfl
 have hzx : ∀ i, i < 2 → bl ([(x, y), (x2, y2)].getD i (0, 0)).1.natAbs ≤ 65536 := fun i hi => by match i, hi with | 0, _ => exact hx | 1, _ => exact hx2
 have hzy : ∀ i, i < 2 → bl ([(x, y), (x2, y2)].getD i (0, 0)).2.natAbs ≤ 65536 := fun i hi => by match i, hi with | 0, _ => exact hy | 1, _ => exact hy2
 have hzp : ∀ i, i < 2 → 0 < ([(x, y), (x2, y2)].getD i (0, 0)).2 := fun i hi => by match i, hi with | 0, _ => exact hp | 1, _ => exact hp2
 refine Yh (Xy 999 2 28 wv) <|Yh (Xk 999 J J pV) <|Zb <|Zd <|Zl J J <|Zc <|Za <|Zb <|Zd <|mv J J <|tt (Zg (n := 2) (st_fits _ _ hv) J J J K1 cF14 (Zf 1 J J J Ze) J hw) J fun _ _ => dt (d_not J J) J <|Zl J J <|Zc <|Za <|Zb <|Zb <|Zd <|mv J J <|dt (Zy J J (i := 2) J Zi uT87) J <|mv J J <|Zc <|Za <|Zm <|Xv [(0, _), (1, _), (13, _), (14, _)] [(0, _), (1, _), (2, _), (999, _)] (fun (q : Nat × Bool) => [(15, .int .i64 (q.1 : Int)), (5, .bool q.2)]) (fun (q : Nat × Bool) => []) (fun (q : Nat × Bool) => (q.1 ≤ 2) ∧ (q.2 = (!decide (sfits xs) || ([(x, y), (x2, y2)].take q.1).any ef))) (fun (q : Nat × Bool) => 2 - q.1) (0, decide (¬ sfits xs)) ⟨by first | omega | (dsimp only <;> omega), by simp⟩ K6 K4 ?_
 rintro ⟨i, fl⟩ ⟨hi, hfl⟩
 dsimp only at hi hfl
 simp only [List.cons_append, List.nil_append]
 refine Zb <|Zd <|dt (Yw J J J) J <|Zc <|Za <|Zb <|Zn J (fun h30 => ?_) (fun h30 => ?_)
 ·refine Zk <|Za <|Zb <|Zm <|Zb <|Zd <|dt (Yf (ii := 2) J J J J Zi uT87 zT49 J (by first | omega | (simp only [List.length_set]; omega))) J <|dt (Yn (ii := 2) (0, 0) J J J Zi pQ (by first | omega | (simp only [List.length_set]; omega))) J <|tt (Zx (i := 3) J J J Tryz.zeroValue49 J J hw) J fun bx _ => tt (Zu (i := 3) J J J J J (by decide) J zT49 J J ⟨(Zh J), (Zh J), (Zh J), (Zh J), trivial⟩ J hw trivial) J fun _ _ => Zc <|Za <|Zb <|Zb <|Zd <|dt (Yt (i := 3) J J J iA49 zT49 J J J J) J <|tt (Zg (n := 3) (wide_validratio_ok _ _ (hzx i (by omega)) (hzy i (by omega)) (hzp i (by omega))) J J J K1 cF98 Ze J hw) J fun _ _ => dt (Xf J J) J <|Zc <|Za <|Yd J <|Zk <|Za <|Zd <|mv J J <|mv J J <|Qp (d := 23) J (fun s34 => ?_) (fun s34 => ?_)
  ·exact Yy J J J J J <|Yy J J J J J <|Yy J J J J J <|Yy J J J J J <|dt (Ym J J J) J <|mv J J <|Yy J J J J J <|Yy J J J J J <|Yy J J J J J <|Yy J J J J J <|dt (Ym J J J) J <|Zl J J <|Zc <|Xl <|Za <|Zd <|dt (Yg J J J ⟨by omega, by omega⟩) J <|mv J J <|Zc <|Yv (i + 1, _) ⟨by first | omega | (dsimp only <;> omega), st_fl (by omega) hfl (by first | exact ef_1 _ (by assumption) | exact ef_2 _ (by assumption) | exact ef_3 (by assumption) (by assumption))⟩ (by first | omega | (dsimp only <;> omega)) K6 K4
  ·refine Yj (Yk J J uT49 J zT28 J J) J J J J <|Yj (Yc (i := 3) J J J iA28 zT28 J J) J J J J <|gtt (Zg (n := 3) (wide_len _ (hzx i (by omega))) J J J K1 cF99 Ze J hw) J J J J fun _ _ => Yj (Xd J J J) J J J J <|dt (Zs J J J) J <|mv J J <|Xo (d := 29) J (fun s34_2 => ?_) (fun s34_2 => ?_)
   ·exact Yy J J J J J <|Yy J J J J J <|Yy J J J J J <|Yy J J J J J <|dt (Ym J J J) J <|Zl J J <|Zc <|Xl <|Za <|Zd <|dt (Yg J J J ⟨by omega, by omega⟩) J <|mv J J <|Zc <|Yv (i + 1, _) ⟨by first | omega | (dsimp only <;> omega), st_fl (by omega) hfl (by first | exact ef_1 _ (by assumption) | exact ef_2 _ (by assumption) | exact ef_3 (by assumption) (by assumption))⟩ (by first | omega | (dsimp only <;> omega)) K6 K4
   ·exact Yj (Yk J J uT49 J zT28 J J) J J J J <|Yj (Yc (i := 3) J J J iA28 zT28 J J) J J J J <|gtt (Zg (n := 3) (wide_len _ (hzy i (by omega))) J J J K1 cF99 Ze J hw) J J J J fun _ _ => Yj (Xd J J J) J J J J <|dt (Zs J J J) J <|Zl J J <|Zc <|Xl <|Za <|Zd <|dt (Yg J J J ⟨by omega, by omega⟩) J <|mv J J <|Zc <|Yv (i + 1, _) ⟨by first | omega | (dsimp only <;> omega), st_fl (by omega) hfl (by first | exact ef_1 _ (by assumption) | exact ef_2 _ (by assumption) | exact ef_3 (by assumption) (by assumption))⟩ (by first | omega | (dsimp only <;> omega)) K6 K4
 ·refine Yo <|Zt <|Zt <|Xr <|Za <|Zb <|Zb ?_
  obtain rfl : i = 2 := by omega
  refine Zd <|mv J J <|tt (Zg (n := 3) (poly_valid_ok _ _ (by assumption)) J J J K1 cF56 (Zf 1 J J J Ze) J hw) J fun _ _ => dt (Xf J J) J <|Zc <|Za <|Yd J <|Zk <|Za <|Zb <|Zb <|Zd <|mv J J <|dt (Zy J J (i := 1) J Zi uT23) J <|dt (Xu J J J) J <|Zc <|Za <|Zn J (fun h39 => ?_) (fun h39 => ?_)
  ·exact Zb <|Zd <|Zl J J <|Zc <|Za <|Zq <|Yp <|Zr (.inl J) hsc () _ (fun a w hs => Yr hs Tryz.results51 J) (by unfold chk2r; rw [if_pos (by omega)]) trivial J Zj
  ·refine Zk <|Za <|Zb <|Zb <|Zd <|mv J J <|dt (Zy J J (i := 2) J Zi uT87) J <|dt (Zz (r' := .bool true) (Xu J J J) (congrArg Value.bool (decide_eq_true J))) J <|Zc <|Za <|Qi J <|Zb <|Xa (fun _ => False) [(0, 0), (1, 0), (2, 0), (3, 0), (4, 0), (5, 0), (6, 1), (7, 0), (8, 0), (9, 0), (10, 0), (11, 3)] (by kernel_rfl) ?_ ?_
   ·kernel_rfl
   refine r0' J J J J (st0 (Zv J J)) <|r0' J J J J (st0 (Yf (ii := 2) J J J J Zi uT87 zT49 J (by first | omega | (simp only [List.length_set]; omega)))) <|r0' J J J J (st0 (Yn (ii := 2) (0, 0) J J J Zi pQ (by first | omega | (simp only [List.length_set]; omega)))) <|r0' J J J J (st0 (Zv J J)) <|r0' J J J J (st0 (Yf (ii := 2) J J J J Zi uT87 zT49 J (by first | omega | (simp only [List.length_set]; omega)))) <|r0' J J J J (st0 (Yn (ii := 2) (0, 0) J J J Zi pQ (by first | omega | (simp only [List.length_set]; omega)))) <|r1' J J (Zg (n := 3) (wide_compareratio _ _ _ _ hx hy hx2 hy2 hp hp2) J J J K2 cF100 Ze J hw) fun _ _ => r0' J J J J (st0 (Zv J J)) <|r0' J J J J (st0 (Zw J J J)) <|r0' J J J J (st0 (Zw J J J)) <|r0' J J J J (st0 (Qf J J)) <|r3' J J (Qa (Qf J J) J J) fun _ _ => Xn <|Za <|Zb <|Zd <|mv J J <|dt (Xd J J J) J <|Zc <|Za <|Zn J (fun h43 => ?_) (fun h43 => ?_)
   ·exact Zb <|Zd <|Zl J J <|Zc <|Za <|Zq <|Yp <|Zr (.inl J) hsc () _ (fun a w hs => Yr hs Tryz.results51 J) (by unfold chk2r; rw [if_neg (by omega), if_pos (int_sign_pos (by omega))]) trivial J Zj
   ·refine Zk <|Za <|Zb <|Zb <|Zd <|mv J J <|Zc <|Za <|Qn J (fun h47 => ?_) (fun h47 => ?_)
    ·exact Zb <|Zd <|Zl J J <|Zc <|Za <|Zq <|Yp <|Zr (.inl J) hsc () _ (fun a w hs => Yr hs Tryz.results51 J) (by unfold chk2r; rw [if_neg (by omega), if_neg (fun h => by have := int_pos_sign h; omega), if_neg (st_flt (h47 ▸ hfl))]) trivial J Zj
    ·exact Zk <|Za <|Zb <|Zd <|Zl J J <|Zc <|Za <|Zq <|Zr (.inl J) hsc () _ (fun a w hs => Yr hs Tryz.results51 J) (by unfold chk2r; rw [if_neg (by omega), if_neg (fun h => by have := int_pos_sign h; omega), if_pos (st_flf (h47 ▸ hfl))]) trivial J Zj
theorem st_positive (v : Value) (xs : List Int) (hv : Vp xs) (h0 : xs ≠ []) : Cal Tryz.prog 64 #[v] [slp 2 wv v xs] true (G := Value) (fun r => True) (fun r => .tuple #[r, .int .i64 0]) (fun r => [slp 2 wv r (nrm xs)]) := by
 refine Ya Tryz.func64 J Tryz.ntmps64 J K1 ?_
 intro w0 sc hw hsc
 simp only [Zp, Zo]
 have hvp := vp_pprim hv
 have hl0 := List.length_pos_iff.2 h0
 have hlp := length_pprim xs
 have hlen := hv.len
 refine Zb <|Zd <|Zl J J <|Zl J J <|Zc <|Za <|Zb <|Zd <|mv J J <|tt (Zg (n := 2) (poly_primitive _ _ hv) J J J K1 cF68 (Zf 1 J J J Ze) J hw) J fun _ _ => mv J J <|dt (Zw J J J) J <|dt (Zw J J J) J <|Zl J J <|Zl J J <|Zc <|Za <|Zb <|Zb <|Zd <|mv J J <|dt (Zz (r' := .bool true) (Xu J J J) (congrArg Value.bool (by decide))) J <|mv J J <|Yj (Zv J J) J J J J <|Yj (Zv J J) J J J J <|Yj (Zy J J (i := 2) J Zi uT23) J J J J <|Yj (Xc J J J ⟨by omega, by omega⟩) J J J J <|Yj (Yf (ii := 2) (i := ((pprim xs).length - 1)) J J J J Zi uT23 zT28 (by omega) (by omega)) J J J J <|Yj (Yn (ii := 2) 0 J J J Zi pV (by first | omega | (simp only [List.length_set]; omega))) J J J J <|gtt (Zg (n := 2) (wide_sign _ (hvp.sz _)) J J J K1 cF80 Ze J hw) J J J J fun _ _ => Yj (Yw J J J) J J J J <|dt (Ym J J J) J <|Zc <|Za <|Zn J (fun h56 => ?_) (fun h56 => ?_)
 ·exact Zb <|Zd <|mv J J <|tt (Zg (n := 2) (wide_of_int _ ⟨by decide, by decide⟩) J J J K1 cF55 Ze J hw) J fun _ _ => tt (Zg (n := 3) (poly_scale _ _ _ hvp (by decide +kernel) (fun i => bl_negm hvp.sz i)) J J J K2 cF113 (Zf 2 J J J Ze) J hw) J fun _ _ => dt (Zw J J J) J <|dt (Zw J J J) J <|Zl J J <|Zl J J <|Zc <|Za <|Zq <|Yp <|Zr (.inl J) hsc _ _ (fun a w hs => Xp hs Tryz.results64 J J) J trivial J (Yi 3 J J J (by rw [nrm_neg (by omega) ((sign_neg_iff _).1 (by assumption))] <;> rfl) Zj)
 ·exact Zk <|Za <|Zb <|Zd <|mv J J <|mv J J <|Zl J J <|Zl J J <|Zc <|Za <|Zq <|Zr (.inl J) hsc _ _ (fun a w hs => Xp hs Tryz.results64 J J) J trivial J (Yi 2 J J J (by rw [nrm_pos (fun h => by have h2 := (sign_neg_iff _).2 h; exact absurd h2 (by assumption))] <;> rfl) Zj)
theorem st_sqf (v : Value) (xs : List Int) (hv : Vp xs) (h0 : xs ≠ []) (hf : sfits xs) (F : Nat) (hS : sqOK F xs) : Cal Tryz.prog 19 #[v] [slp 2 wv v xs] true (G := Value) (fun r => True) (fun r => .tuple #[r, .int .i64 0]) (fun r => [slp 2 wv r (sqf F xs)]) := by
 refine Ya Tryz.func19 J Tryz.ntmps19 J K1 ?_
 intro w0 sc hw hsc
 simp only [Zp, Zo]
 obtain ⟨hS1, hS2, hS3, hS4, hS5⟩ := hS
 have hvn := vp_nrm hv
 have hln := length_nrm hv.tr
 have hvd : Vp (pder (nrm xs)) := vp_pder hvn (fun i hi => hS1 i (by omega))
 have hvg := vp_pgcd hvn hvd hS3
 have hc0 := chk0_ok h0 hf
 refine Yh (Xy 999 2 28 wv) <|Yh (Xk 999 J J pV) <|Zb <|Zd <|Zl J J <|Zl J J <|Zc <|Za <|Zb <|Zb <|Zd <|mv J J <|tt (Zg (n := 1) (st_check0 _ _ hv) J J J K2 cF51 (Zf 1 J J J Ze) J hw) J fun _ _ => Zl J J <|Zc <|Za <|Zb <|Zd <|mv J J <|dt (Ys J J J) J <|Zc <|Za <|Zn J (fun h64 => ?_) (fun h64 => ?_)
 ·exfalso; omega
 ·refine Zk <|Za <|Zb <|Zd <|mv J J <|tt (Zg (n := 2) (st_positive _ _ hv h0) J J J K1 cF64 (Zf 1 J J J Ze) J hw) J fun _ _ => mv J J <|dt (Zw J J J) J <|dt (Zw J J J) J <|Zl J J <|Zl J J <|Zc <|Za <|Zb <|Zb <|Zd <|mv J J <|dt (Zz (r' := .bool false) (Ys J J J) (congrArg Value.bool (by decide))) J <|Zc <|Za <|Yd J <|Zk <|Za <|Zb <|Zd <|mv J J <|tt (Zg (n := 3) (poly_derive _ _ hvn (fun i => by by_cases hi : i < xs.length; exact hS1 i hi; rw [cf_ge (by omega)]; simp [bl_zero])) J J J K1 cF65 (Zf 2 J J J Ze) J hw) J fun _ _ => mv J J <|dt (Zw J J J) J <|dt (Zw J J J) J <|Zl J J <|Zl J J <|Zc <|Za <|Zb <|Zb <|Zd <|mv J J <|dt (Zz (r' := .bool false) (Ys J J J) (congrArg Value.bool (by decide))) J <|Zc <|Za <|Yd J <|Zk <|Za <|Zb <|Zd <|mv J J <|mv J J <|tt (Zg (n := 4) (poly_gcd _ _ _ _ hvn hvd F hS2 hS3) J J J K2 cF66 (Zf 2 J J J (Zf 3 J J J Ze)) J hw) J fun _ _ => mv J J <|dt (Zw J J J) J <|dt (Zw J J J) J <|Zl J J <|Zl J J <|Zc <|Za <|Zb <|Zb <|Zd <|mv J J <|dt (Zz (r' := .bool false) (Ys J J J) (congrArg Value.bool (by decide))) J <|Zc <|Za <|Yd J <|Zk <|Za <|Zb <|Zd <|mv J J <|mv J J ?_
  exact tt (Zg (n := 5) (poly_divide _ _ _ _ hvn hvg hS4) J J J K2 cF67 (Zf 2 J J J (Zf 4 J J J Ze)) J hw) J fun _ _ => dt (Zw J J J) J <|dt (Zw J J J) J <|Zl J J <|Zl J J <|Zc <|Za <|Zq <|Zr (.inl J) hsc _ _ (fun a w hs => Xp hs Tryz.results19 J J) (by rw [if_pos hS5] <;> rfl) trivial J (Yi 5 J J J (by rw [if_pos hS5] <;> rfl) Zj)
end Go.Sky
namespace Go.Sky
open Go.Proofs
set_option maxRecDepth 20000
set_option maxHeartbeats 4000000
set_option linter.unusedVariables false
set_option linter.unusedSimpArgs false
theorem st_next (v u : Value) (xs ys : List Int) (hv : Vp xs) (hu : Vp ys) (h0 : ys ≠ []) (hd : derr xs ys = 0) (hl : ys.length ≤ xs.length) : Cal Tryz.prog 69 #[v, u] [slp 2 wv v xs, slp 2 wv u ys] true (G := Value) (fun r => True) (fun r => .tuple #[r, .int .i64 0]) (fun r => [slp 2 wv r (snext xs ys)]) := by
 refine Ya Tryz.func69 J Tryz.ntmps69 J K2 ?_
 intro w0 sc hw hsc
 simp only [Zp, Zo]
 have hvr := vp_prest hv hd
 have hvp := vp_pprim hvr
 have hlen := hv.len
 have hlen2 := hu.len
 have hl0 := List.length_pos_iff.2 h0
 refine Yh (Xy 999 2 28 wv) <|Yh (Xk 999 J J pV) <|Zb <|Zd <|Zl J J <|Zl J J <|Zc <|Za <|Zb <|Zd <|mv J J <|mv J J <|tt (Zg (n := 3) (poly_rest _ _ _ _ hv hu hd) J J J K2 cF116 (Zf 1 J J J (Zf 2 J J J Ze)) J hw) J fun _ _ => mv J J <|dt (Zw J J J) J <|dt (Zw J J J) J <|Zl J J <|Zl J J <|Zc <|Za <|Zb <|Zb <|Zd <|mv J J <|dt (Zz (r' := .bool false) (Ys J J J) (congrArg Value.bool (by decide))) J <|mv J J <|Yj (Zv J J) J J J J <|Yj (Zy J J (i := 3) J Zi uT23) J J J J <|Yj (Xu J J J) J J J J <|dt (Zs J J J) J <|Zc <|Za <|Zn J (fun h85 => ?_) (fun h85 => ?_)
 ·exact Zb <|Zd <|mv J J <|Zl J J <|Zl J J <|Zc <|Za <|Zq <|Yp <|Zr (.inl J) hsc (.slice none 0 0) _ (fun a w hs => Xp hs Tryz.results69 J J) J trivial J (give_none (snext_nil (by omega)) Zj)
 ·refine Zk <|Za <|Zb <|Zd <|mv J J <|tt (Zg (n := 4) (poly_primitive _ _ hvr) J J J K1 cF68 (Zf 3 J J J Ze) J hw) J fun _ _ => mv J J <|dt (Zw J J J) J <|dt (Zw J J J) J <|Zl J J <|Zl J J <|Zc <|Za <|Zb <|Zb <|Zd <|mv J J <|dt (Zz (r' := .bool false) (Ys J J J) (congrArg Value.bool (by decide))) J <|Zc <|Za <|Yd J <|Zk <|Za <|Zb <|Zd <|mv J J <|dt (Zy J J (i := 1) J Zi uT23) J <|mv J J <|dt (Zy J J (i := 2) J Zi uT23) J <|dt (Xc J J J ⟨by omega, by omega⟩) J <|dt (Yg J J J ⟨by omega, by omega⟩) J <|Zl J J <|Zc <|Za <|Zb <|Zb <|Zd <|mv J J <|mv J J <|dt (Zy J J (i := 2) J Zi uT23) J <|dt (Xc J J J ⟨by omega, by omega⟩) J <|dt (Yf (ii := 2) (i := (ys.length - 1)) J J J J Zi uT23 zT28 (by omega) (by omega)) J <|dt (Yn (ii := 2) 0 J J J Zi pV (by first | omega | (simp only [List.length_set]; omega))) J <|tt (Zg (n := 4) (wide_sign _ (hu.sz _)) J J J K1 cF80 Ze J hw) J fun _ _ => dt (Yw J J J) J <|mv J J <|Xo (d := 45) J (fun s94 => ?_) (fun s94 => ?_)
  ·refine Yj (Zv J J) J J J J <|Yj (d_rem J J J (by omega) (by omega)) J J J J <|Yj (Xu J J J) J J J J <|dt (Ym J J J) J <|Zc <|Za <|Zn J (fun h94 => ?_) (fun h94 => ?_)
   ·exact Zb <|Zd <|mv J J <|Zl J J <|Zl J J <|Zc <|Za <|Zq <|Yp <|Zr (.inl J) hsc _ _ (fun a w hs => Xp hs Tryz.results69 J J) J trivial J (Yi 4 J J J (by rw [snext_a hl (by assumption) (by assumption)] <;> rfl) Zj)
   ·exact Zk <|Za <|Zb <|Zd <|mv J J <|tt (Zg (n := 4) (wide_of_int _ ⟨by decide, by decide⟩) J J J K1 cF55 Ze J hw) J fun _ _ => tt (Zg (n := 5) (poly_scale _ _ _ hvp (by decide +kernel) (fun i => bl_negm hvp.sz i)) J J J K2 cF113 (Zf 4 J J J Ze) J hw) J fun _ _ => dt (Zw J J J) J <|dt (Zw J J J) J <|Zl J J <|Zl J J <|Zc <|Za <|Zq <|Zr (.inl J) hsc _ _ (fun a w hs => Xp hs Tryz.results69 J J) J trivial J (Yi 5 J J J (by first | (rw [snext_b (by assumption)] <;> rfl) | (rw [snext_c hl (by assumption)] <;> rfl)) Zj)
  ·exact Yy J J J J J <|Yy J J J J J <|Yy J J J J J <|dt (Zs J J J) J <|Zc <|Za <|Yd J <|Zk <|Za <|Zb <|Zd <|mv J J <|tt (Zg (n := 5) (wide_of_int _ ⟨by decide, by decide⟩) J J J K1 cF55 Ze J hw) J fun _ _ => tt (Zg (n := 6) (poly_scale _ _ _ hvp (by decide +kernel) (fun i => bl_negm hvp.sz i)) J J J K2 cF113 (Zf 4 J J J Ze) J hw) J fun _ _ => dt (Zw J J J) J <|dt (Zw J J J) J <|Zl J J <|Zl J J <|Zc <|Za <|Zq <|Zr (.inl J) hsc _ _ (fun a w hs => Xp hs Tryz.results69 J J) J trivial J (Yi 6 J J J (by first | (rw [snext_b (by assumption)] <;> rfl) | (rw [snext_c hl (by assumption)] <;> rfl)) Zj)
theorem st_chain (v : Value) (xs : List Int) (hv : Vp xs) (h0 : xs ≠ []) (hf : sfits xs) (F : Nat) (hC : chOK F xs) : Cal Tryz.prog 20 #[v] [slp 2 wv v xs] true (G := Value × List (SL × List Int)) (fun r => r.2.map Prod.snd = chn F xs) (fun r => .tuple #[r.1, .int .i64 0]) (fun r => [deep 1 encS qZ r.1 r.2]) := by
 refine Ya Tryz.func20 J Tryz.ntmps20 J K1 ?_
 intro w0 sc hw hsc
 simp only [Zp, Zo]
 obtain ⟨hC1, hC2, hC3⟩ := hC
 have hvq := vp_sqf hv h0 hC1
 have hlq := length_sqf hv hC1
 have hvqd : Vp (pder (sqf F xs)) := vp_pder hvq (fun i hi => hC2 i (by omega))
 refine Yh (Xy 999 2 28 wv) <|Yh (Xk 999 J J pV) <|Zb <|Zd <|Zl J J <|Zl J J <|Zc <|Za <|Zb <|Zd <|mv J J <|tt (Zg (n := 2) (st_sqf _ _ hv h0 hf F hC1) J J J K1 cF19 (Zf 1 J J J Ze) J hw) J fun _ _ => mv J J <|dt (Zw J J J) J <|dt (Zw J J J) J <|Zl J J <|Zl J J <|Zc <|Za <|Zb <|Zb <|Zd <|mv J J <|dt (Zz (r' := .bool false) (Ys J J J) (congrArg Value.bool (by decide))) J <|Zc <|Za <|Yd J <|Zk <|Za <|Zb <|Zd <|mv J J <|tt (Zg (n := 3) (poly_derive _ _ hvq (fun i => by by_cases hi : i < xs.length; exact hC2 i hi; rw [cf_ge (by omega)]; simp [bl_zero])) J J J K1 cF65 (Zf 2 J J J Ze) J hw) J fun _ _ => mv J J <|dt (Zw J J J) J <|dt (Zw J J J) J <|Zl J J <|Zl J J <|Zc <|Za <|Zb <|Zb <|Zd <|mv J J <|dt (Zz (r' := .bool true) (Xu J J J) (congrArg Value.bool (by decide))) J <|Zc <|Za <|Qi J <|Zd <|mv J J <|tt (Zg (n := 80) (poly_primitive _ _ hvqd) J J J K1 cF68 (Zf 3 J J J Ze) J hw) J fun _ _ => mv J J <|dt (Zw J J J) J <|dt (Zw J J J) J <|Zl J J <|Zl J J <|Zc <|Za <|Zb <|Zb <|Zd <|mv J J <|dt (Zz (r' := .bool false) (Ys J J J) (congrArg Value.bool (by decide))) J <|Zc <|Za <|Yd J <|Zk <|Za <|Zb ?_
 refine e_ex (f_slice 2 J Zi) (fun ss hss => ?_)
 subst hss
 refine Yh (s_many_nil qZ 71) <|Yh (Qe (q := qZ) (z := (ss, sqf F xs)) 71 2 71 J J J J J) <|e_ex (f_slice 80 J Zi) (fun sd0 hsd => ?_)
 subst hsd
 refine Zd <|mv J J <|tt (Xm (i := 70) (ivs := [(0, _)]) (enc := encS) [(ss, sqf F xs)] J J J K2 uT44 Tryz.ti23 J J J J J J pS.cells J J hw) J fun v _ => Zl J J <|Zc <|Za <|Zb <|Zm <|Xv [] [(0, _), (1, _), (999, _), (2, _), (3, _)] (fun (q : List (SL × List Int) × SL × List Int × SL × List Int × Nat × Value) => [(7, q.2.2.2.2.2.2), (6, svv q.2.2.2.1)]) (fun (q : List (SL × List Int) × SL × List Int × SL × List Int × Nat × Value) => [(70, osl 1 23 encS q.2.2.2.2.2.2 (q.1 ++ [(q.2.1, q.2.2.1)])), (71, many qZ (q.1 ++ [(q.2.1, q.2.2.1)])), (80, slp 2 wv (svv q.2.2.2.1) q.2.2.2.2.1)]) (fun (q : List (SL × List Int) × SL × List Int × SL × List Int × Nat × Value) => (Vp q.2.2.1) ∧ (Vp q.2.2.2.2.1) ∧ (cok q.2.2.2.2.2.1 q.2.2.1 q.2.2.2.2.1) ∧ (q.1.map Prod.snd ++ schain q.2.2.2.2.2.1 q.2.2.1 q.2.2.2.2.1 = chn F xs) ∧ (q.1.length + q.2.2.2.2.1.length ≤ 25)) (fun (q : List (SL × List Int) × SL × List Int × SL × List Int × Nat × Value) => q.2.2.2.2.1.length) ([], ss, sqf F xs, sd0, pprim (pder (sqf F xs)), F, _) ⟨hvq, vp_pprim hvqd, hC3, J, by rw [length_pprim]; simp; have := hvqd.len; omega⟩ K2 K8 ?_
 rintro ⟨ws, sx, x, sd, y, f, vo⟩ ⟨hvx, hvy, hck, hch, hwl⟩
 dsimp only at hvx hvy hck hch hwl
 simp only [List.cons_append, List.nil_append]
 refine Zb <|Zb <|Zd <|mv J J <|dt (Zy J J (i := 80) J Zi uT23) J <|dt (Xd J J J) J <|Zc <|Za <|Zn J (fun h114 => ?_) (fun h114 => ?_)
 ·have hy0 : y ≠ [] := fun e => by rw [e] at h114; simp at h114
  obtain ⟨f0, rfl, hd, hle, hck2, hsc2⟩ := cok_step hck hy0
  refine Zk <|Za <|Zm <|Zb <|Zd <|mv J J <|mv J J <|tt (Xm (i := 4) (ivs := [(0, _)]) (enc := encS) [(sd, y)] J J J K2 uT44 Tryz.ti23 J J J J J J pS.cells J J hw) J fun v_2 _ => tt (t_appa (i := 70) (j := 4) (by_ := 24) J J J J J J (by decide) J (Ye pS) uT44 Tryz.ti23 J pS J J J (by simp; omega) (by decide) J hw) J fun v_3 _ => Zl J J <|Zc <|Za <|Zb ?_
  have hll : (ws ++ [(sx, x)] ++ [(sd, y)]).length = ws.length + 2 := by simp
  refine Yh (Qe (q := qZ) (z := (sd, y)) 71 80 71 J J J J J) <|Yh (s_many (q := qZ) 71 92 (sx, x) J J (by simp) J) <|Zd <|mv J J <|mv J J <|dt (Zy J J (i := 70) J (Ye pS) uT44) J <|dt (Xc J J J ⟨by omega, by omega⟩) J <|dt (Yf (ii := 70) (i := ws.length) J J J J (Ye pS) uT44 zT23 (by omega) (by omega)) J <|dt (Zz (r' := svv sx) (Yn (ii := 70) Z0 J J J (Ye pS) pS (by omega)) (by simp [List.getD_eq_getElem?_getD])) J ?_
  refine mv J J <|tt (Zg (n := 80) (st_next _ _ _ _ hvx hvy hy0 hd hle) J J J K2 cF69 (Zf 92 J J J (Zf 80 J J J Ze)) J hw) J fun _ _ => l_ex (f_slice 80 J Zi) (fun sn hsn => ?_)
  subst hsn
  exact mv J J <|dt (Zw J J J) J <|dt (Zw J J J) J <|Zl J J <|Zl J J <|Zc <|Za <|Zb <|Zd <|mv J J <|dt (Zz (r' := .bool false) (Ys J J J) (congrArg Value.bool (by decide))) J <|Zc <|Za <|Yd J <|Zk <|Xl <|Yv (ws ++ [(sx, x)], sd, y, sn, snext x y, f0, _) ⟨hvy, vp_snext hvx hd, hck2, by rw [← hch, hsc2]; simp, by have h7 := length_prest_lt x hy0; have h8 := length_snext (y := y) hvx.tr; simp; omega⟩ (by have h7 := length_prest_lt x hy0; have h8 := length_snext (y := y) hvx.tr; dsimp only; omega) K2 K8
 ·refine Yo <|Zt <|Zt <|Xr <|Za <|Zb ?_
  obtain rfl : y = [] := List.eq_nil_of_length_eq_zero (by omega)
  exact Yh (Xk 70 J J pS) <|Yh (s_mkdeep 70 71 72 J J J J) <|Zd <|mv J J <|Zl J J <|Zl J J <|Zc <|Za <|Zq <|Zr (.inl J) hsc (_, ws ++ [(sx, x)]) _ (fun a w hs => Xp hs Tryz.results20 J J) J (by rw [← hch, schain_nil]; simp) J (Xw 72 J J J Zj)
end Go.Sky
namespace Go.Sky
open Go.Proofs
set_option maxRecDepth 20000
set_option maxHeartbeats 4000000
set_option linter.unusedVariables false
set_option linter.unusedSimpArgs false
theorem st_at1 (v : Value) (br : Nat) (xs : List Int) (x y : Int) (hx : bl x.natAbs ≤ 65536) (hy : bl y.natAbs ≤ 65536) (hp : 0 < y) (hv : Vp xs) (hE : ¬ evfull xs x y) : Cal Tryz.prog 126 #[v, .pointer (some ⟨br, 0, none⟩)] [slp 2 wv v xs, rbox br 49 #[.bool (decide (x < 0)), .string (bstr x.natAbs), .bool (decide (y < 0)), .string (bstr y.natAbs)]] false (G := Unit) (fun _ => True) (fun _ => .tuple #[.int .i64 (fat x y xs), .int .i64 0]) (fun _ => []) := by
 refine Ya Tryz.func126 J Tryz.ntmps126 J K2 ?_
 intro w0 sc hw hsc
 simp only [Zp, Zo]
 exact Zb <|Zd <|Zl J J <|Zl J J <|Zc <|Za <|Zb <|Zd <|mv J J <|dt (d_lr4 (i := 2) J J J iA49 zT49 J J J J) J <|tt (Zg (n := 2) (poly_signat _ _ _ _ hv hx hy hp) J J J K2 cF127 (Zf 1 J J J Ze) J hw) J fun _ _ => dt (Zw J J J) J <|dt (Zw J J J) J <|Zl J J <|Zl J J <|Zc <|Za <|Zq <|Zr (.inl J) hsc () _ (fun a w hs => Xp hs Tryz.results126 J J) (by unfold fat; rw [show evv xs x y = pev xs x y from if_neg hE, show eve xs x y = 0 from if_neg hE] <;> rfl) trivial J Zj
theorem st_tot1 (v : Value) (xs : List Int) (hv : Vp xs) (h0 : xs ≠ []) : Cal Tryz.prog 79 #[v] [slp 2 wv v xs] false (G := Unit) (fun _ => True) (fun _ => .tuple #[.int .i64 (fr xs), .int .i64 0]) (fun _ => []) := by
 refine Ya Tryz.func79 J Tryz.ntmps79 J K1 ?_
 intro w0 sc hw hsc
 simp only [Zp, Zo]
 have hlen := hv.len
 have hl0 := List.length_pos_iff.2 h0
 exact Zb <|Zd <|Zl J J <|Zl J J <|Zc <|Za <|Zb <|Zd <|mv J J <|mv J J <|dt (Zy J J (i := 1) J Zi uT23) J <|dt (Xc J J J ⟨by omega, by omega⟩) J <|dt (Yf (ii := 1) (i := (xs.length - 1)) J J J J Zi uT23 zT28 (by omega) (by omega)) J <|dt (Yn (ii := 1) 0 J J J Zi pV (by first | omega | (simp only [List.length_set]; omega))) J <|tt (Zg (n := 1) (wide_sign _ (hv.sz _)) J J J K1 cF80 Ze J hw) J fun _ _ => Zl J J <|Zl J J <|Zc <|Za <|Zq <|Zr (.inl J) hsc () _ (fun a w hs => Xp hs Tryz.results79 J J) J trivial J Zj
theorem st_tot2 (v : Value) (xs : List Int) (hv : Vp xs) (h0 : xs ≠ []) : Cal Tryz.prog 81 #[v] [slp 2 wv v xs] false (G := Unit) (fun _ => True) (fun _ => .tuple #[.int .i64 (fl xs), .int .i64 0]) (fun _ => []) := by
 refine Ya Tryz.func81 J Tryz.ntmps81 J K1 ?_
 intro w0 sc hw hsc
 simp only [Zp, Zo]
 have hlen := hv.len
 have hl0 := List.length_pos_iff.2 h0
 have hsr := sg_range (cf xs (xs.length - 1))
 refine Zb <|Zd <|Zl J J <|Zl J J <|Zc <|Za <|Zb <|Zd <|mv J J <|mv J J <|dt (Zy J J (i := 1) J Zi uT23) J <|dt (Xc J J J ⟨by omega, by omega⟩) J <|dt (Yf (ii := 1) (i := (xs.length - 1)) J J J J Zi uT23 zT28 (by omega) (by omega)) J <|dt (Yn (ii := 1) 0 J J J Zi pV (by first | omega | (simp only [List.length_set]; omega))) J <|tt (Zg (n := 1) (wide_sign _ (hv.sz _)) J J J K1 cF80 Ze J hw) J fun _ _ => Zl J J <|Zc <|Za <|Zb <|Zb <|Zd <|mv J J <|dt (Zy J J (i := 1) J Zi uT23) J <|dt (d_rem J J J (by omega) (by omega)) J <|dt (Xu J J J) J <|Zc <|Za <|Zn J (fun h176 => ?_) (fun h176 => ?_)
 ·exact Zd <|mv J J <|dt (d_negi J J ⟨by show _ ≤ -(cf xs (xs.length - 1)).sign; omega, by show -(cf xs (xs.length - 1)).sign ≤ _; omega⟩) J <|Zl J J <|Zc <|Za <|Zb <|Zd <|mv J J <|Zl J J <|Zl J J <|Zc <|Za <|Zq <|Zr (.inl J) hsc () _ (fun a w hs => Xp hs Tryz.results81 J J) (by unfold fl; first | (rw [if_pos (by omega)] <;> rfl) | (rw [if_neg (by omega)] <;> rfl)) trivial J Zj
 ·exact Zk <|Za <|Zb <|Zd <|mv J J <|Zl J J <|Zl J J <|Zc <|Za <|Zq <|Zr (.inl J) hsc () _ (fun a w hs => Xp hs Tryz.results81 J J) (by unfold fl; first | (rw [if_pos (by omega)] <;> rfl) | (rw [if_neg (by omega)] <;> rfl)) trivial J Zj
theorem st_chg_at (v : Value) (ls : List (SL × List Int)) (br : Nat) (hvp : ∀ z ∈ ls, Vp z.2) (x y : Int) (hx : bl x.natAbs ≤ 65536) (hy : bl y.natAbs ≤ 65536) (hp : 0 < y) (hE : ∀ z ∈ ls, ¬ evfull z.2 x y) : Cal Tryz.prog 78 #[v, .func (.func 126) #[] #[.pointer (some ⟨br, 0, none⟩)]] [deep 1 encS qZ v ls, rbox br 49 #[.bool (decide (x < 0)), .string (bstr x.natAbs), .bool (decide (y < 0)), .string (bstr y.natAbs)]] false (G := Unit) (fun _ => True) (fun _ => .tuple #[.int .i64 (chg (sgx ls (fat x y))), .int .i64 0]) (fun _ => []) := by
 refine Ya Tryz.func78 J Tryz.ntmps78 J K2 ?_
 intro w0 sc hw hsc
 simp only [Zp, Zo]
 refine Qh (f_len (i := 1) J Yx) (fun hlen => ?_)
 have hLl := length_sgx ls (fat x y)
 have hLg := fun i (h : i < ls.length) => sgx_getD ls (fat x y) h
 refine Zb <|Zd <|Zl J J <|Zl J J <|Zc <|Za <|Zb <|Zd <|Zl J J <|Zl J J <|Zc <|Za <|Zb <|Zb <|Zd <|mv J J <|dt (Zy J J (i := 1) J Yx uT107) J <|mv J J <|Zc <|Za <|Zm <|Xv [(1, _), (12, _), (13, _)] [(0, _), (1, _), (2, _)] (fun (q : Nat × Int × Int) => [(14, .int .i64 (q.1 : Int)), (6, .int .i64 q.2.1), (7, .int .i64 q.2.2)]) (fun (q : Nat × Int × Int) => []) (fun (q : Nat × Int × Int) => (q.1 ≤ ls.length) ∧ ((q.2.1, q.2.2) = ((sgx ls (fat x y)).take q.1).foldl chg1 (0, 0)) ∧ (0 ≤ q.2.1) ∧ (q.2.1 ≤ (q.1 : Int)) ∧ (-1 ≤ q.2.2) ∧ (q.2.2 ≤ 1)) (fun (q : Nat × Int × Int) => ls.length - q.1) (0, 0, 0) ⟨by first | omega | (dsimp only <;> omega), by simp, by first | omega | (dsimp only <;> omega), by first | omega | (dsimp only <;> omega), by first | omega | (dsimp only <;> omega), by first | omega | (dsimp only <;> omega)⟩ K6 K3 ?_
 rintro ⟨i, n, l⟩ ⟨hi, hc, hn0, hn1, hl0, hl1⟩
 dsimp only at hi hc hn0 hn1 hl0 hl1
 simp only [List.cons_append, List.nil_append]
 have hfr := fat_r x y (ls.getD i Z0).2
 refine Zb <|Zd <|dt (Yw J J J) J <|Zc <|Za <|Zb <|Zn J (fun h129 => ?_) (fun h129 => ?_)
 ·refine Zk <|Za <|Zb <|Zm <|Zb <|Zd <|dt (Yf (ii := 1) J J J J Yx uT107 zT23 J (by first | omega | (simp only [List.length_set]; omega))) J <|dt (Yn (ii := 1) Z0 J J J Yx pS (by first | omega | (simp only [List.length_set]; omega))) J <|Zl J J <|Zc <|Za <|Zb <|Yh (s_deep 1 91 (ls.getD i Z0) J J (getD_mem (by omega)) J) <|Zd <|mv J J <|mv J J <|tt (t_callc (n := 2) (fs := []) (vs := [_]) (us := [_]) (st_at1 _ _ _ _ _ hx hy hp (hvp (ls.getD i Z0) (getD_mem (by omega))) (hE (ls.getD i Z0) (getD_mem (by omega)))) J J J J K1 cF126 (Zf 91 J J J (Zf 2 J J J Ze)) J hw) J fun _ _ => mv J J <|dt (Zw J J J) J <|dt (Zw J J J) J <|Zl J J <|Zl J J <|Zc <|Za <|Zb <|Zb <|Zd <|mv J J <|dt (Zz (r' := .bool false) (Ys J J J) (congrArg Value.bool (by decide))) J <|Zc <|Za <|Yd J <|Zk <|Za <|Zb <|Zd <|mv J J <|dt (Ys J J J) J <|Zc <|Za <|Zn J (fun h134 => ?_) (fun h134 => ?_)
  ·refine Zb <|Zb <|Zd <|mv J J <|mv J J <|dt (d_negi J J ⟨by omega, by omega⟩) J <|dt (Xu J J J) J <|Zc <|Za <|Zn J (fun h135 => ?_) (fun h135 => ?_)
   ·exact Zd <|mv J J <|dt (Yg J J J ⟨by omega, by omega⟩) J <|Zl J J <|Zc <|Za <|Zd <|mv J J <|Zl J J <|Zc <|Xl <|Za <|Zd <|dt (Yg J J J ⟨by omega, by omega⟩) J <|mv J J <|Zc <|Yv (i + 1, _, _) ⟨by first | omega | (dsimp only <;> omega), by first | exact chg_0 (by omega) hc (hLg i (by omega)) (Decidable.byContradiction (by assumption)) | exact chg_a (by omega) hc (hLg i (by omega)) (by assumption) (by assumption) | exact chg_b (by omega) hc (hLg i (by omega)) (by assumption) (by assumption), by first | exact hn0 | (dsimp only; omega), by dsimp only; omega, by first | exact hl0 | exact hfr.1, by first | exact hl1 | exact hfr.2⟩ (by first | omega | (dsimp only <;> omega)) K6 K3
   ·exact Zk <|Za <|Zd <|mv J J <|Zl J J <|Zc <|Xl <|Za <|Zd <|dt (Yg J J J ⟨by omega, by omega⟩) J <|mv J J <|Zc <|Yv (i + 1, _, _) ⟨by first | omega | (dsimp only <;> omega), by first | exact chg_0 (by omega) hc (hLg i (by omega)) (Decidable.byContradiction (by assumption)) | exact chg_a (by omega) hc (hLg i (by omega)) (by assumption) (by assumption) | exact chg_b (by omega) hc (hLg i (by omega)) (by assumption) (by assumption), by first | exact hn0 | (dsimp only; omega), by dsimp only; omega, by first | exact hl0 | exact hfr.1, by first | exact hl1 | exact hfr.2⟩ (by first | omega | (dsimp only <;> omega)) K6 K3
  ·exact Zk <|Xl <|Za <|Zd <|dt (Yg J J J ⟨by omega, by omega⟩) J <|mv J J <|Zc <|Yv (i + 1, _, _) ⟨by first | omega | (dsimp only <;> omega), by first | exact chg_0 (by omega) hc (hLg i (by omega)) (Decidable.byContradiction (by assumption)) | exact chg_a (by omega) hc (hLg i (by omega)) (by assumption) (by assumption) | exact chg_b (by omega) hc (hLg i (by omega)) (by assumption) (by assumption), by first | exact hn0 | (dsimp only; omega), by dsimp only; omega, by first | exact hl0 | exact hfr.1, by first | exact hl1 | exact hfr.2⟩ (by first | omega | (dsimp only <;> omega)) K6 K3
 ·exact Yo <|Zt <|Zt <|Xr <|Za <|Zb <|Zd <|mv J J <|Zl J J <|Zl J J <|Zc <|Za <|Zq <|Zr (.inl J) hsc () _ (fun a w hs => Xp hs Tryz.results78 J J) (by rw [chg_end (by omega) hc]) trivial J Zj
theorem st_chg_r (v : Value) (ls : List (SL × List Int)) (hvp : ∀ z ∈ ls, Vp z.2) (h0 : ∀ z ∈ ls, z.2 ≠ []) : Cal Tryz.prog 78 #[v, .func (.func 79) #[] #[]] [deep 1 encS qZ v ls] false (G := Unit) (fun _ => True) (fun _ => .tuple #[.int .i64 (chg (sgx ls fr)), .int .i64 0]) (fun _ => []) := by
 refine Ya Tryz.func78 J Tryz.ntmps78 J K1 ?_
 intro w0 sc hw hsc
 simp only [Zp, Zo]
 refine Qh (f_len (i := 1) J Yx) (fun hlen => ?_)
 have hLl := length_sgx ls fr
 have hLg := fun i (h : i < ls.length) => sgx_getD ls fr h
 refine Zb <|Zd <|Zl J J <|Zl J J <|Zc <|Za <|Zb <|Zd <|Zl J J <|Zl J J <|Zc <|Za <|Zb <|Zb <|Zd <|mv J J <|dt (Zy J J (i := 1) J Yx uT107) J <|mv J J <|Zc <|Za <|Zm <|Xv [(1, _), (12, _), (13, _)] [(0, _), (1, _)] (fun (q : Nat × Int × Int) => [(14, .int .i64 (q.1 : Int)), (6, .int .i64 q.2.1), (7, .int .i64 q.2.2)]) (fun (q : Nat × Int × Int) => []) (fun (q : Nat × Int × Int) => (q.1 ≤ ls.length) ∧ ((q.2.1, q.2.2) = ((sgx ls fr).take q.1).foldl chg1 (0, 0)) ∧ (0 ≤ q.2.1) ∧ (q.2.1 ≤ (q.1 : Int)) ∧ (-1 ≤ q.2.2) ∧ (q.2.2 ≤ 1)) (fun (q : Nat × Int × Int) => ls.length - q.1) (0, 0, 0) ⟨by first | omega | (dsimp only <;> omega), by simp, by first | omega | (dsimp only <;> omega), by first | omega | (dsimp only <;> omega), by first | omega | (dsimp only <;> omega), by first | omega | (dsimp only <;> omega)⟩ K6 K2 ?_
 rintro ⟨i, n, l⟩ ⟨hi, hc, hn0, hn1, hl0, hl1⟩
 dsimp only at hi hc hn0 hn1 hl0 hl1
 simp only [List.cons_append, List.nil_append]
 have hfr := fr_r (ls.getD i Z0).2
 refine Zb <|Zd <|dt (Yw J J J) J <|Zc <|Za <|Zb <|Zn J (fun h129 => ?_) (fun h129 => ?_)
 ·refine Zk <|Za <|Zb <|Zm <|Zb <|Zd <|dt (Yf (ii := 1) J J J J Yx uT107 zT23 J (by first | omega | (simp only [List.length_set]; omega))) J <|dt (Yn (ii := 1) Z0 J J J Yx pS (by first | omega | (simp only [List.length_set]; omega))) J <|Zl J J <|Zc <|Za <|Zb <|Yh (s_deep 1 91 (ls.getD i Z0) J J (getD_mem (by omega)) J) <|Zd <|mv J J <|mv J J <|tt (t_callc (n := 1) (fs := []) (vs := [_]) (us := []) (st_tot1 _ _ (hvp (ls.getD i Z0) (getD_mem (by omega))) (h0 (ls.getD i Z0) (getD_mem (by omega)))) J J J J K1 cF79 (Zf 91 J J J Ze) J hw) J fun _ _ => mv J J <|dt (Zw J J J) J <|dt (Zw J J J) J <|Zl J J <|Zl J J <|Zc <|Za <|Zb <|Zb <|Zd <|mv J J <|dt (Zz (r' := .bool false) (Ys J J J) (congrArg Value.bool (by decide))) J <|Zc <|Za <|Yd J <|Zk <|Za <|Zb <|Zd <|mv J J <|dt (Ys J J J) J <|Zc <|Za <|Zn J (fun h134 => ?_) (fun h134 => ?_)
  ·refine Zb <|Zb <|Zd <|mv J J <|mv J J <|dt (d_negi J J ⟨by omega, by omega⟩) J <|dt (Xu J J J) J <|Zc <|Za <|Zn J (fun h135 => ?_) (fun h135 => ?_)
   ·exact Zd <|mv J J <|dt (Yg J J J ⟨by omega, by omega⟩) J <|Zl J J <|Zc <|Za <|Zd <|mv J J <|Zl J J <|Zc <|Xl <|Za <|Zd <|dt (Yg J J J ⟨by omega, by omega⟩) J <|mv J J <|Zc <|Yv (i + 1, _, _) ⟨by first | omega | (dsimp only <;> omega), by first | exact chg_0 (by omega) hc (hLg i (by omega)) (Decidable.byContradiction (by assumption)) | exact chg_a (by omega) hc (hLg i (by omega)) (by assumption) (by assumption) | exact chg_b (by omega) hc (hLg i (by omega)) (by assumption) (by assumption), by first | exact hn0 | (dsimp only; omega), by dsimp only; omega, by first | exact hl0 | exact hfr.1, by first | exact hl1 | exact hfr.2⟩ (by first | omega | (dsimp only <;> omega)) K6 K2
   ·exact Zk <|Za <|Zd <|mv J J <|Zl J J <|Zc <|Xl <|Za <|Zd <|dt (Yg J J J ⟨by omega, by omega⟩) J <|mv J J <|Zc <|Yv (i + 1, _, _) ⟨by first | omega | (dsimp only <;> omega), by first | exact chg_0 (by omega) hc (hLg i (by omega)) (Decidable.byContradiction (by assumption)) | exact chg_a (by omega) hc (hLg i (by omega)) (by assumption) (by assumption) | exact chg_b (by omega) hc (hLg i (by omega)) (by assumption) (by assumption), by first | exact hn0 | (dsimp only; omega), by dsimp only; omega, by first | exact hl0 | exact hfr.1, by first | exact hl1 | exact hfr.2⟩ (by first | omega | (dsimp only <;> omega)) K6 K2
  ·exact Zk <|Xl <|Za <|Zd <|dt (Yg J J J ⟨by omega, by omega⟩) J <|mv J J <|Zc <|Yv (i + 1, _, _) ⟨by first | omega | (dsimp only <;> omega), by first | exact chg_0 (by omega) hc (hLg i (by omega)) (Decidable.byContradiction (by assumption)) | exact chg_a (by omega) hc (hLg i (by omega)) (by assumption) (by assumption) | exact chg_b (by omega) hc (hLg i (by omega)) (by assumption) (by assumption), by first | exact hn0 | (dsimp only; omega), by dsimp only; omega, by first | exact hl0 | exact hfr.1, by first | exact hl1 | exact hfr.2⟩ (by first | omega | (dsimp only <;> omega)) K6 K2
 ·exact Yo <|Zt <|Zt <|Xr <|Za <|Zb <|Zd <|mv J J <|Zl J J <|Zl J J <|Zc <|Za <|Zq <|Zr (.inl J) hsc () _ (fun a w hs => Xp hs Tryz.results78 J J) (by rw [chg_end (by omega) hc]) trivial J Zj
theorem st_chg_l (v : Value) (ls : List (SL × List Int)) (hvp : ∀ z ∈ ls, Vp z.2) (h0 : ∀ z ∈ ls, z.2 ≠ []) : Cal Tryz.prog 78 #[v, .func (.func 81) #[] #[]] [deep 1 encS qZ v ls] false (G := Unit) (fun _ => True) (fun _ => .tuple #[.int .i64 (chg (sgx ls fl)), .int .i64 0]) (fun _ => []) := by
 refine Ya Tryz.func78 J Tryz.ntmps78 J K1 ?_
 intro w0 sc hw hsc
 simp only [Zp, Zo]
 refine Qh (f_len (i := 1) J Yx) (fun hlen => ?_)
 have hLl := length_sgx ls fl
 have hLg := fun i (h : i < ls.length) => sgx_getD ls fl h
 refine Zb <|Zd <|Zl J J <|Zl J J <|Zc <|Za <|Zb <|Zd <|Zl J J <|Zl J J <|Zc <|Za <|Zb <|Zb <|Zd <|mv J J <|dt (Zy J J (i := 1) J Yx uT107) J <|mv J J <|Zc <|Za <|Zm <|Xv [(1, _), (12, _), (13, _)] [(0, _), (1, _)] (fun (q : Nat × Int × Int) => [(14, .int .i64 (q.1 : Int)), (6, .int .i64 q.2.1), (7, .int .i64 q.2.2)]) (fun (q : Nat × Int × Int) => []) (fun (q : Nat × Int × Int) => (q.1 ≤ ls.length) ∧ ((q.2.1, q.2.2) = ((sgx ls fl).take q.1).foldl chg1 (0, 0)) ∧ (0 ≤ q.2.1) ∧ (q.2.1 ≤ (q.1 : Int)) ∧ (-1 ≤ q.2.2) ∧ (q.2.2 ≤ 1)) (fun (q : Nat × Int × Int) => ls.length - q.1) (0, 0, 0) ⟨by first | omega | (dsimp only <;> omega), by simp, by first | omega | (dsimp only <;> omega), by first | omega | (dsimp only <;> omega), by first | omega | (dsimp only <;> omega), by first | omega | (dsimp only <;> omega)⟩ K6 K2 ?_
 rintro ⟨i, n, l⟩ ⟨hi, hc, hn0, hn1, hl0, hl1⟩
 dsimp only at hi hc hn0 hn1 hl0 hl1
 simp only [List.cons_append, List.nil_append]
 have hfr := fl_r (ls.getD i Z0).2
 refine Zb <|Zd <|dt (Yw J J J) J <|Zc <|Za <|Zb <|Zn J (fun h129 => ?_) (fun h129 => ?_)
 ·refine Zk <|Za <|Zb <|Zm <|Zb <|Zd <|dt (Yf (ii := 1) J J J J Yx uT107 zT23 J (by first | omega | (simp only [List.length_set]; omega))) J <|dt (Yn (ii := 1) Z0 J J J Yx pS (by first | omega | (simp only [List.length_set]; omega))) J <|Zl J J <|Zc <|Za <|Zb <|Yh (s_deep 1 91 (ls.getD i Z0) J J (getD_mem (by omega)) J) <|Zd <|mv J J <|mv J J <|tt (t_callc (n := 1) (fs := []) (vs := [_]) (us := []) (st_tot2 _ _ (hvp (ls.getD i Z0) (getD_mem (by omega))) (h0 (ls.getD i Z0) (getD_mem (by omega)))) J J J J K1 cF81 (Zf 91 J J J Ze) J hw) J fun _ _ => mv J J <|dt (Zw J J J) J <|dt (Zw J J J) J <|Zl J J <|Zl J J <|Zc <|Za <|Zb <|Zb <|Zd <|mv J J <|dt (Zz (r' := .bool false) (Ys J J J) (congrArg Value.bool (by decide))) J <|Zc <|Za <|Yd J <|Zk <|Za <|Zb <|Zd <|mv J J <|dt (Ys J J J) J <|Zc <|Za <|Zn J (fun h134 => ?_) (fun h134 => ?_)
  ·refine Zb <|Zb <|Zd <|mv J J <|mv J J <|dt (d_negi J J ⟨by omega, by omega⟩) J <|dt (Xu J J J) J <|Zc <|Za <|Zn J (fun h135 => ?_) (fun h135 => ?_)
   ·exact Zd <|mv J J <|dt (Yg J J J ⟨by omega, by omega⟩) J <|Zl J J <|Zc <|Za <|Zd <|mv J J <|Zl J J <|Zc <|Xl <|Za <|Zd <|dt (Yg J J J ⟨by omega, by omega⟩) J <|mv J J <|Zc <|Yv (i + 1, _, _) ⟨by first | omega | (dsimp only <;> omega), by first | exact chg_0 (by omega) hc (hLg i (by omega)) (Decidable.byContradiction (by assumption)) | exact chg_a (by omega) hc (hLg i (by omega)) (by assumption) (by assumption) | exact chg_b (by omega) hc (hLg i (by omega)) (by assumption) (by assumption), by first | exact hn0 | (dsimp only; omega), by dsimp only; omega, by first | exact hl0 | exact hfr.1, by first | exact hl1 | exact hfr.2⟩ (by first | omega | (dsimp only <;> omega)) K6 K2
   ·exact Zk <|Za <|Zd <|mv J J <|Zl J J <|Zc <|Xl <|Za <|Zd <|dt (Yg J J J ⟨by omega, by omega⟩) J <|mv J J <|Zc <|Yv (i + 1, _, _) ⟨by first | omega | (dsimp only <;> omega), by first | exact chg_0 (by omega) hc (hLg i (by omega)) (Decidable.byContradiction (by assumption)) | exact chg_a (by omega) hc (hLg i (by omega)) (by assumption) (by assumption) | exact chg_b (by omega) hc (hLg i (by omega)) (by assumption) (by assumption), by first | exact hn0 | (dsimp only; omega), by dsimp only; omega, by first | exact hl0 | exact hfr.1, by first | exact hl1 | exact hfr.2⟩ (by first | omega | (dsimp only <;> omega)) K6 K2
  ·exact Zk <|Xl <|Za <|Zd <|dt (Yg J J J ⟨by omega, by omega⟩) J <|mv J J <|Zc <|Yv (i + 1, _, _) ⟨by first | omega | (dsimp only <;> omega), by first | exact chg_0 (by omega) hc (hLg i (by omega)) (Decidable.byContradiction (by assumption)) | exact chg_a (by omega) hc (hLg i (by omega)) (by assumption) (by assumption) | exact chg_b (by omega) hc (hLg i (by omega)) (by assumption) (by assumption), by first | exact hn0 | (dsimp only; omega), by dsimp only; omega, by first | exact hl0 | exact hfr.1, by first | exact hl1 | exact hfr.2⟩ (by first | omega | (dsimp only <;> omega)) K6 K2
 ·exact Yo <|Zt <|Zt <|Xr <|Za <|Zb <|Zd <|mv J J <|Zl J J <|Zl J J <|Zc <|Za <|Zq <|Zr (.inl J) hsc () _ (fun a w hs => Xp hs Tryz.results78 J J) (by rw [chg_end (by omega) hc]) trivial J Zj
theorem st_at (v : Value) (ls : List (SL × List Int)) (x y : Int) (hx : bl x.natAbs ≤ 65536) (hy : bl y.natAbs ≤ 65536) (hp : 0 < y) (hvp : ∀ z ∈ ls, Vp z.2) (hE : ∀ z ∈ ls, ¬ evfull z.2 x y) : Cal Tryz.prog 77 #[v, .agg #[.bool (decide (x < 0)), .string (bstr x.natAbs), .bool (decide (y < 0)), .string (bstr y.natAbs)]] [deep 1 encS qZ v ls] false (G := Unit) (fun _ => True) (fun _ => .tuple #[.int .i64 (chg (sgx ls (fat x y))), .int .i64 0]) (fun _ => []) := by
 refine Ya Tryz.func77 J Tryz.ntmps77 J K1 ?_
 intro w0 sc hw hsc
 simp only [Zp, Zo]
 exact Zb <|Zd <|tt (Yq (i := 2) J J J J J J hw) J fun b _ => Zl J J <|Zl J J <|Zc <|Za <|Zb <|Zd <|mv J J <|dt (d_mkc (vs := []) (us := [_]) J trivial K1) J <|tt (Zg (n := 2) (st_chg_at _ _ _ hvp x y hx hy hp hE) J J J K2 cF78 (Zf 1 J J J (pre_lendb 2 J J Ze)) J hw) J fun _ _ => dt (Zw J J J) J <|dt (Zw J J J) J <|Zl J J <|Zl J J <|Zc <|Za <|Zq <|Zr (.inl J) hsc () _ (fun a w hs => Xp hs Tryz.results77 J J) J trivial J Zj
end Go.Sky
namespace Go.Sky
open Go.Proofs
set_option maxRecDepth 20000
set_option maxHeartbeats 4000000
set_option linter.unusedVariables false
set_option linter.unusedSimpArgs false
theorem st_count (v : Value) (xs : List Int) (hv : Vp xs) (x y x2 y2 : Int) (hx : bl x.natAbs ≤ 65536) (hy : bl y.natAbs ≤ 65536) (hx2 : bl x2.natAbs ≤ 65536) (hy2 : bl y2.natAbs ≤ 65536) (hp : 0 < y) (hp2 : 0 < y2) (F : Nat) (hFb : F ≤ 1000000) (hC : chOK F xs) (hk : chk2r xs x y x2 y2 = 0) (hE1 : ∀ p ∈ chn F xs, ¬ evfull p x y) (hE2 : ∀ p ∈ chn F xs, ¬ evfull p x2 y2) : Cal Tryz.prog 28 #[v, .agg #[.bool (decide (x < 0)), .string (bstr x.natAbs), .bool (decide (y < 0)), .string (bstr y.natAbs)], .agg #[.bool (decide (x2 < 0)), .string (bstr x2.natAbs), .bool (decide (y2 < 0)), .string (bstr y2.natAbs)]] [slp 2 wv v xs] false (G := Unit) (fun _ => True) (fun _ => .tuple #[.int .i64 (cnt F xs x y - cnt F xs x2 y2), .int .i64 0]) (fun _ => []) := by
 refine Ya Tryz.func28 J Tryz.ntmps28 J K1 ?_
 intro w0 sc hw hsc
 simp only [Zp, Zo]
 obtain ⟨h0, hf⟩ := chk2_fits hk
 have hr1 := chg_range ((chn F xs).map (fat x y))
 have hr2 := chg_range ((chn F xs).map (fat x2 y2))
 have hll := length_schain F (sqf F xs) (pprim (pder (sqf F xs)))
 rw [List.length_map] at hr1 hr2
 have hF : F ≤ 1000000 := hFb
 refine Yh (Xy 999 2 28 wv) <|Yh (Xk 999 J J pV) <|Zb <|Zd <|tt (Yq (i := 2) J J J J J J hw) J fun bx _ => tt (Yq (i := 3) J J J J J J hw) J fun bx_2 _ => Zl J J <|Zl J J <|Zc <|Za <|Zb <|Zb <|Zd <|mv J J <|dt (Yt (i := 2) J J J iA49 zT49 J J J J) J <|dt (Yt (i := 3) J J J iA49 zT49 J J J J) J <|tt (Xm (i := 4) (ivs := [(0, _), (1, _)]) (enc := rq) [(x, y), (x2, y2)] J J J K4 uT87 Tryz.ti49 J J J (fill24 _ _ _ _ _ _ _ _ _ _ _ _) J J pQ.cells J J hw) J fun v _ => tt (Zg (n := 4) (st_check2 _ _ hv _ _ _ _ _ hx hy hx2 hy2 hp hp2) J J J K2 cF51 (Zf 1 J J J (Xe 4 J J pQ Ze)) J hw) J fun _ _ => Zl J J <|Zc <|Za <|Zb <|Zd <|mv J J <|dt (Zz (r' := .bool false) (Ys J J J) (congrArg Value.bool (by rw [hk]; rfl))) J <|Zc <|Za <|Yd J <|Zk <|Za <|Zb <|Zd <|mv J J <|tt (Zg (n := 5) (st_chain _ _ hv h0 hf F hC) J J J K1 cF20 (Zf 1 J J J Ze) J hw) J fun g hg => mv J J <|dt (Zw J J J) J <|dt (Zw J J J) J <|Zl J J <|Zl J J <|Zc <|Za <|Zb <|Zb <|Zd <|mv J J <|dt (Zz (r' := .bool false) (Ys J J J) (congrArg Value.bool (by decide))) J <|Zc <|Za <|Yd J <|Zk <|Za <|Zb <|Zd <|mv J J <|dt (Yt (i := 2) J J J iA49 zT49 J J J J) J ?_
 refine tt (Zg (n := 5) (st_at _ _ _ _ hx hy hp (mem_snd hg (vp_chn hv h0 hC)) (mem_snd hg hE1)) J J J K2 cF77 (Zf 5 J J J Ze) J hw) J fun _ _ => mv J J <|dt (Zw J J J) J <|dt (Zw J J J) J <|Zl J J <|Zl J J <|Zc <|Za <|Zb <|Zb <|Zd <|mv J J <|dt (Zz (r' := .bool false) (Ys J J J) (congrArg Value.bool (by decide))) J <|Zc <|Za <|Yd J <|Zk <|Za <|Zb <|Zd <|mv J J <|dt (Yt (i := 3) J J J iA49 zT49 J J J J) J <|tt (Zg (n := 5) (st_at _ _ _ _ hx2 hy2 hp2 (mem_snd hg (vp_chn hv h0 hC)) (mem_snd hg hE2)) J J J K2 cF77 (Zf 5 J J J Ze) J hw) J fun _ _ => mv J J <|dt (Zw J J J) J <|dt (Zw J J J) J <|Zl J J <|Zl J J <|Zc <|Za <|Zb ?_
 have hs1 := sgx_map hg (fat x y)
 have hs2 := sgx_map hg (fat x2 y2)
 rw [← hs1] at hr1
 rw [← hs2] at hr2
 have hll2 : (chn F xs).length ≤ F + 1 := hll
 exact Zd <|mv J J <|mv J J <|dt (Xc J J J ⟨by omega, by omega⟩) J <|mv J J <|Zl J J <|Zl J J <|Zc <|Za <|Zq <|Zr (.inl J) hsc () _ (fun a w hs => Xp hs Tryz.results28 J J) (by unfold cnt; rw [← hs1, ← hs2] <;> rfl) trivial J Zj
theorem st_count_err (v : Value) (xs : List Int) (hv : Vp xs) (x y x2 y2 : Int) (hx : bl x.natAbs ≤ 65536) (hy : bl y.natAbs ≤ 65536) (hx2 : bl x2.natAbs ≤ 65536) (hy2 : bl y2.natAbs ≤ 65536) (hp : 0 < y) (hp2 : 0 < y2) (hk : chk2r xs x y x2 y2 ≠ 0) : Cal Tryz.prog 28 #[v, .agg #[.bool (decide (x < 0)), .string (bstr x.natAbs), .bool (decide (y < 0)), .string (bstr y.natAbs)], .agg #[.bool (decide (x2 < 0)), .string (bstr x2.natAbs), .bool (decide (y2 < 0)), .string (bstr y2.natAbs)]] [slp 2 wv v xs] false (G := Unit) (fun _ => True) (fun _ => .tuple #[.int .i64 0, .int .i64 (chk2r xs x y x2 y2)]) (fun _ => []) := by
 refine Ya Tryz.func28 J Tryz.ntmps28 J K1 ?_
 intro w0 sc hw hsc
 simp only [Zp, Zo]
 refine Yh (Xy 999 2 28 wv) <|Yh (Xk 999 J J pV) <|Zb <|Zd <|tt (Yq (i := 2) J J J J J J hw) J fun bx _ => tt (Yq (i := 3) J J J J J J hw) J fun bx_2 _ => Zl J J <|Zl J J <|Zc <|Za <|Zb <|Zb <|Zd <|mv J J <|dt (Yt (i := 2) J J J iA49 zT49 J J J J) J <|dt (Yt (i := 3) J J J iA49 zT49 J J J J) J <|tt (Xm (i := 4) (ivs := [(0, _), (1, _)]) (enc := rq) [(x, y), (x2, y2)] J J J K4 uT87 Tryz.ti49 J J J (fill24 _ _ _ _ _ _ _ _ _ _ _ _) J J pQ.cells J J hw) J fun v _ => tt (Zg (n := 4) (st_check2 _ _ hv _ _ _ _ _ hx hy hx2 hy2 hp hp2) J J J K2 cF51 (Zf 1 J J J (Xe 4 J J pQ Ze)) J hw) J fun _ _ => Zl J J <|Zc <|Za <|Zb <|Zd <|mv J J <|dt (Ys J J J) J <|Zc <|Za <|Zn J (fun h151 => ?_) (fun h151 => ?_)
 ·exact Zb <|Zd <|mv J J <|Zl J J <|Zl J J <|Zc <|Za <|Zq <|Yp <|Zr (.inl J) hsc () _ (fun a w hs => Xp hs Tryz.results28 J J) J trivial J Zj
 ·exfalso; omega
theorem st_total (v : Value) (xs : List Int) (hv : Vp xs) (F : Nat) (hFb : F ≤ 1000000) (hk : chk0 xs = 0) (hq : sqf F xs ≠ []) (hC : chOK F xs) : Cal Tryz.prog 29 #[v] [slp 2 wv v xs] false (G := Unit) (fun _ => True) (fun _ => .tuple #[.int .i64 (sleft F xs - sright F xs), .int .i64 0]) (fun _ => []) := by
 refine Ya Tryz.func29 J Tryz.ntmps29 J K1 ?_
 intro w0 sc hw hsc
 simp only [Zp, Zo]
 obtain ⟨h0, hf⟩ := chk0_fits hk
 have hr1 := chg_range ((chn F xs).map fl)
 have hr2 := chg_range ((chn F xs).map fr)
 have hll := length_schain F (sqf F xs) (pprim (pder (sqf F xs)))
 rw [List.length_map] at hr1 hr2
 have hne := ne_schain F (x := sqf F xs) (y := pprim (pder (sqf F xs))) hq
 refine Yh (Xy 999 2 28 wv) <|Yh (Xk 999 J J pV) <|Zb <|Zd <|Zl J J <|Zl J J <|Zc <|Za <|Zb <|Zd <|mv J J <|tt (Zg (n := 2) (st_chain _ _ hv h0 hf F hC) J J J K1 cF20 (Zf 1 J J J Ze) J hw) J fun g hg => mv J J <|dt (Zw J J J) J <|dt (Zw J J J) J <|Zl J J <|Zl J J <|Zc <|Za <|Zb <|Zb <|Zd <|mv J J <|dt (Zz (r' := .bool false) (Ys J J J) (congrArg Value.bool (by decide))) J <|Zc <|Za <|Yd J <|Zk <|Za <|Zb <|Zd <|mv J J <|tt (Zg (n := 2) (st_chg_r _ _ (mem_snd hg (vp_chn hv h0 hC)) (mem_snd hg hne)) J J J K2 cF78 (Zf 2 J J J Ze) J hw) J fun _ _ => mv J J <|dt (Zw J J J) J <|dt (Zw J J J) J <|Zl J J <|Zl J J <|Zc <|Za <|Zb <|Zd <|mv J J <|tt (Zg (n := 2) (st_chg_l _ _ (mem_snd hg (vp_chn hv h0 hC)) (mem_snd hg hne)) J J J K2 cF78 (Zf 2 J J J Ze) J hw) J fun _ _ => mv J J <|dt (Zw J J J) J <|dt (Zw J J J) J <|Zl J J <|Zl J J <|Zc <|Za <|Zb ?_
 have hs1 := sgx_map hg fl
 have hs2 := sgx_map hg fr
 rw [← hs1] at hr1
 rw [← hs2] at hr2
 have hll2 : (chn F xs).length ≤ F + 1 := hll
 exact Zd <|mv J J <|mv J J <|dt (Xc J J J ⟨by omega, by omega⟩) J <|Zl J J <|Zl J J <|Zc <|Za <|Zq <|Zr (.inl J) hsc () _ (fun a w hs => Xp hs Tryz.results29 J J) (by unfold sleft sright; rw [← hs1, ← hs2] <;> rfl) trivial J Zj
end Go.Sky
namespace Go.Sky
open Go.Proofs
set_option maxRecDepth 20000
set_option maxHeartbeats 4000000
set_option linter.unusedVariables false
set_option linter.unusedSimpArgs false
theorem st_bound (v : Value) (xs : List Int) (hv : Vp xs) (hk : chk0 xs = 0) : Cal Tryz.prog 12 #[v] [slp 2 wv v xs] false (G := Unit) (fun _ => True) (fun _ => .tuple #[wv (sbound xs), .int .i64 0]) (fun _ => []) := by
 refine Ya Tryz.func12 J Tryz.ntmps12 J K1 ?_
 intro w0 sc hw hsc
 simp only [Zp, Zo]
 obtain ⟨h0, hf⟩ := chk0_fits hk
 have hmz := fits_msz hf
 have hlen := hv.len
 have hl0 := List.length_pos_iff.2 h0
 have hsb := fun i => sm_b (msz_sz xs) i
 have hld := hv.tr.mem h0
 have hsz := msz_sz xs
 have hbb := sbound_b hsz
 have htl : (xs.take (xs.length - 1)).length = xs.length - 1 := by rw [List.length_take]; omega
 refine Yh (Xy 999 2 28 wv) <|Yh (Xk 999 J J pV) <|Zb <|Zd <|tt (Zx (i := 2) J J J Tryz.zeroValue28 J J hw) J fun bx _ => Zl J J <|Zc <|Za <|Zb <|Zb <|Zd <|mv J J <|tt (Zg (n := 2) (st_check0 _ _ hv) J J J K2 cF51 (Zf 1 J J J Ze) J hw) J fun _ _ => Zl J J <|Zc <|Za <|Zb <|Zd <|mv J J <|dt (Ys J J J) J <|Zc <|Za <|Zn J (fun h186 => ?_) (fun h186 => ?_)
 ·exfalso; omega
 ·refine Zk <|Za <|Zb <|Zd <|tt (Zx (i := 3) J J J Tryz.zeroValue28 J J hw) J fun bx_2 _ => Zc <|Za <|Zb <|Zb <|Zd <|mv J J <|mv J J <|dt (Zy J J (i := 1) J Zi uT23) J <|dt (Xc J J J ⟨by omega, by omega⟩) J <|dt (d_pre (ii := 1) (i := (xs.length - 1)) J J J J Zi uT23 zT28 (by omega) (by omega)) J <|Xj (s_pre 1 4 ((xs.length - 1)) J J (by omega)) <|dt (Zy J J (i := 4) J Zi uT23) J <|mv J J <|Zc <|Za <|Zm <|Xv [(0, _), (2, _), (5, _), (22, _), (23, _)] [(0, _), (1, _), (999, _), (2, _), (4, _)] (fun (i : Nat) => [(24, .int .i64 (i : Int))]) (fun (i : Nat) => [(3, box bx_2 28 (wc ((sm xs i : Nat) : Int)))]) (fun (i : Nat) => (i ≤ xs.length - 1)) (fun (i : Nat) => xs.length - 1 - i) 0 (by first | omega | (dsimp only <;> omega)) K6 K6 ?_
  rintro i hi
  simp only [List.cons_append, List.nil_append]
  refine Zb <|Zd <|dt (Yw J J J) J <|Zc <|Za <|Zb <|Zn J (fun h190 => ?_) (fun h190 => ?_)
  ·refine Zk <|Za <|Zb <|Zm <|Zb <|Zd <|dt (Yf (ii := 4) J J J J Zi uT23 zT28 J (by first | omega | (simp only [List.length_set]; omega))) J <|dt (Yn (ii := 4) 0 J J J Zi pV (by first | omega | (simp only [List.length_set]; omega))) J <|tt (Zx (i := 5) J J J Tryz.zeroValue28 J J hw) J fun bx_3 _ => tt (Zu (i := 5) J J J J J (by decide) J zT28 J J ⟨(Zh J), (Zh J), trivial⟩ J hw trivial) J fun _ _ => Zc <|Za <|Zb <|Zd <|dt (Yk J J uT28 J zT4 J J) J <|tt (t_stp (cs' := #[]) (i := 5) J J J J J (by decide) J zT4 J J ⟨(Zh J), trivial⟩ J hw trivial) J fun _ _ => Zc <|Za <|Zb <|Zd <|dt (Zz (r' := wv (((cf xs i).natAbs : Nat) : Int)) (Yc (i := 5) J J J iA28 zT28 J J) (by rw [wv_abs]; exact congrArg (fun z : Int => Value.agg #[.bool false, .string (bstr z.natAbs)]) (getD_take _ _ _ _ (by omega)))) J <|dt (Yc (i := 3) J J J iA28 zT28 J J) J <|tt (Zg (n := 5) (wide_compare ((cf xs i).natAbs : Int) ((sm xs i : Nat) : Int) (by have := hsz i; rw [Int.natAbs_natCast]; omega) (by have := hsb i; rw [Int.natAbs_natCast]; omega)) J J J K2 cF52 Ze J hw) J fun _ _ => dt (Xd J J J) J <|Zc <|Za <|Zn J (fun h192 => ?_) (fun h192 => ?_)
   ·exact Zd <|dt (Zz (r' := wv (((cf xs i).natAbs : Nat) : Int)) (Yc (i := 5) J J J iA28 zT28 J J) (by rw [wv_abs]; exact congrArg (fun z : Int => Value.agg #[.bool false, .string (bstr z.natAbs)]) (getD_take _ _ _ _ (by omega)))) J <|tt (Zu (i := 3) J J J J J (by decide) J zT28 J J ⟨(Zh J), (Zh J), trivial⟩ J hw trivial) J fun _ _ => Zc <|Xl <|Za <|Zd <|dt (Yg J J J ⟨by omega, by omega⟩) J <|mv J J <|Zc <|Yv (i + 1) (by first | omega | (dsimp only <;> omega)) (by first | omega | (dsimp only <;> omega)) K6 ⟨by rw [sm_succ (by omega)]; first | (rw [Nat.max_eq_right (by have := sign_sub_pos.1 h192; omega)] <;> rfl) | (rw [Nat.max_eq_left (Nat.le_of_not_lt fun h => h192 (sign_sub_pos.2 h))] <;> rfl), rfl, rfl, rfl, rfl, rfl, trivial⟩
   ·exact Zk <|Xl <|Za <|Zd <|dt (Yg J J J ⟨by omega, by omega⟩) J <|mv J J <|Zc <|Yv (i + 1) (by first | omega | (dsimp only <;> omega)) (by first | omega | (dsimp only <;> omega)) K6 ⟨by rw [sm_succ (by omega)]; first | (rw [Nat.max_eq_right (by have := sign_sub_pos.1 h192; omega)] <;> rfl) | (rw [Nat.max_eq_left (Nat.le_of_not_lt fun h => h192 (sign_sub_pos.2 h))] <;> rfl), rfl, rfl, rfl, rfl, rfl, trivial⟩
  ·refine Yo <|Zt <|Zt <|Xr <|Za <|Zb ?_
   obtain rfl : i = xs.length - 1 := by omega
   have hqe := sbound_eq h0
   have hqb : bl (smost xs : Int).natAbs ≤ msz xs := smost_b hsz
   refine Zd <|mv J J <|mv J J <|dt (Zy J J (i := 1) J Zi uT23) J <|dt (Xc J J J ⟨by omega, by omega⟩) J <|dt (Yf (ii := 1) (i := (xs.length - 1)) J J J J Zi uT23 zT28 (by omega) (by omega)) J <|dt (Yn (ii := 1) 0 J J J Zi pV (by first | omega | (simp only [List.length_set]; omega))) J <|tt (Zx (i := 6) J J J Tryz.zeroValue28 J J hw) J fun bx_4 _ => tt (Zu (i := 6) J J J J J (by decide) J zT28 J J ⟨(Zh J), (Zh J), trivial⟩ J hw trivial) J fun _ _ => Zc <|Za <|Zb <|Zd <|dt (Yk J J uT28 J zT4 J J) J <|tt (t_stp (cs' := #[]) (i := 6) J J J J J (by decide) J zT4 J J ⟨(Zh J), trivial⟩ J hw trivial) J fun _ _ => Zc <|Za <|Zb <|Zd <|dt (Yc (i := 3) J J J iA28 zT28 J J) J <|dt (Zz (r' := wv (((cf xs (xs.length - 1)).natAbs : Nat) : Int)) (Yc (i := 6) J J J iA28 zT28 J J) (by rw [wv_abs]; rfl)) J <|tt (Zg (n := 6) (wide_quo ((sm xs (xs.length - 1) : Nat) : Int) (((cf xs (xs.length - 1)).natAbs : Nat) : Int) (by have := hsb (xs.length - 1); rw [Int.natAbs_natCast]; omega) (by have := hsz (xs.length - 1); rw [Int.natAbs_natCast]; omega) (by omega)) J J J K2 cF53 Ze J hw) J fun _ _ => mv J J <|dt (Zw J J J) J <|dt (Zw J J J) J <|dt (Zw J J J) J <|tt (Zx (i := 7) J J J Tryz.zeroValue28 J J hw) J (fun bx_5 _ => ?_)
   refine tt (Zx (i := 8) J J J Tryz.zeroValue28 J J hw) J fun bx_6 _ => tt (Zu (i := 7) J J J J J (by decide) J zT28 J J ⟨(Zh J), (Zh J), trivial⟩ J hw trivial) J fun _ _ => tt (Zu (i := 8) J J J J J (by decide) J zT28 J J ⟨(Zh J), (Zh J), trivial⟩ J hw trivial) J fun _ _ => Zl J J <|Zc <|Za <|Zb <|Zb <|Zd <|mv J J <|dt (Zz (r' := .bool false) (Ys J J J) (congrArg Value.bool (by decide))) J <|Zc <|Za <|Yd J <|Zk <|Za <|Zb <|Xa (fun _ => False) [(0, 0), (1, 1), (2, 1), (3, 0), (4, 0), (5, 3), (6, 3)] (by kernel_rfl) ?_ ?_
   ·kernel_rfl
   exact r0' J J J J (st0 (Yc (i := 7) J J J iA28 zT28 J J)) <|r1' J J (Zg (n := 8) (wide_of_int _ ⟨by decide, by decide⟩) J J J K1 cF55 Ze J hw) fun _ _ => r1' J J (Zg (n := 8) (wide_add _ _ (clip_bl _) (by decide +kernel)) J J J K2 cF54 Ze J hw) fun _ _ => r0' J J J J (st0 (Zw J J J)) <|r0' J J J J (st0 (Zw J J J)) <|r3' J J (Zu (i := 2) J J J J J (by decide) J zT28 J J ⟨(Zh J), (Zh J), trivial⟩ J hw trivial) fun _ _ => r3' J J (Qa (Qf J J) J J) fun _ _ => Xn <|Za <|Zq <|Zr (.inl J) hsc () _ (fun a w hs => Xp hs Tryz.results12 (Yl (i := 2) J J iA28 zT28 J) J) (by rw [clip_ok (show bl ((sm xs (xs.length - 1) : Int) / _).natAbs ≤ 65536 from Nat.le_trans (bl_idiv _ _) (by show bl (smost xs : Int).natAbs + 1 ≤ _; omega)), show ((sm xs (xs.length - 1) : Nat) : Int) = ((smost xs : Nat) : Int) from rfl, hqe]; exact (wide_ok (by omega)).symm) trivial J Zj
theorem st_middle (x y x2 y2 : Int) (hx : bl x.natAbs ≤ 65536) (hy : bl y.natAbs ≤ 65536) (hx2 : bl x2.natAbs ≤ 65536) (hy2 : bl y2.natAbs ≤ 65536) (hp : 0 < y) (hp2 : 0 < y2) (hq : ¬ rfull (x * y2 + x2 * y) (y * y2)) : Cal Tryz.prog 86 #[.agg #[.bool (decide (x < 0)), .string (bstr x.natAbs), .bool (decide (y < 0)), .string (bstr y.natAbs)], .agg #[.bool (decide (x2 < 0)), .string (bstr x2.natAbs), .bool (decide (y2 < 0)), .string (bstr y2.natAbs)]] [] false (G := Unit) (fun _ => True) (fun _ => ratioV (rnum (x * y2 + x2 * y) (y * y2) * 1) (rden (x * y2 + x2 * y) (y * y2) * 2)) (fun _ => []) := by
 refine Ya Tryz.func86 J Tryz.ntmps86 J trivial ?_
 intro w0 sc hw hsc
 simp only [Zp, Zo]
 obtain ⟨hn1, hn2, hn3⟩ := nr_num hq
 obtain ⟨hb1, hb2⟩ := nr_bl hq
 have hdp := nr_pos hq (Int.mul_pos hp hp2)
 refine Zb <|Zd <|tt (Yq (i := 1) J J J J J J hw) J fun bx _ => tt (Yq (i := 2) J J J J J J hw) J fun bx_2 _ => tt (Zx (i := 3) J J J Tryz.zeroValue49 J J hw) J fun bx_3 _ => Zl J J <|Zc <|Za <|Zb <|Zd <|dt (Yt (i := 1) J J J iA49 zT49 J J J J) J <|dt (Yt (i := 2) J J J iA49 zT49 J J J J) J <|tt (Zg (n := 3) (wide_addratio _ _ _ _ hx hy hx2 hy2 hp hp2) J J J K2 cF130 Ze J hw) J fun _ _ => mv J J <|dt (Zw J J J) J <|dt (Zw J J J) J <|tt (Zx (i := 4) J J J Tryz.zeroValue49 J J hw) J fun bx_4 _ => tt (Zu (i := 4) J J J J J (by decide) J zT49 J J ⟨(Zh J), (Zh J), (Zh J), (Zh J), trivial⟩ J hw trivial) J fun _ _ => Zl J J <|Zc <|Za <|Zb <|Zb <|Zd <|mv J J <|dt (Zz (r' := .bool false) (Ys J J J) (congrArg Value.bool (by rw [hn3]; rfl))) J <|Zc <|Za <|Yd J <|Zk <|Za <|Zb <|Xa (fun _ => False) [(0, 0), (1, 1), (2, 1), (3, 0), (4, 1), (5, 0), (6, 0), (7, 3), (8, 3)] (by kernel_rfl) ?_ ?_
 ·kernel_rfl
 exact r0' J J J J (st0 (Yt (i := 4) J J J iA49 zT49 J J J J)) <|r1' J J (Zg (n := 4) (wide_of_int _ ⟨by decide, by decide⟩) J J J K1 cF55 Ze J hw) fun _ _ => r1' J J (Zg (n := 4) (wide_of_int _ ⟨by decide, by decide⟩) J J J K1 cF55 Ze J hw) fun _ _ => r0' J J J J (st0 (Xx (ivs := [(0, _), (1, _)]) J K4 (fun a w hs => b49_01))) <|r1' J J (Zg (n := 4) (wide_mulratio _ _ 1 2 hb1 hb2 (by decide +kernel) (by decide +kernel) hdp (by decide)) J J J K2 cF131 Ze J hw) fun _ _ => r0' J J J J (st0 (Zw J J J)) <|r0' J J J J (st0 (Zw J J J)) <|r3' J J (Zu (i := 3) J J J J J (by decide) J zT49 J J ⟨(Zh J), (Zh J), (Zh J), (Zh J), trivial⟩ J hw trivial) fun _ _ => r3' J J (Qa (Qf J J) J J) fun _ _ => Xn <|Za <|Zq <|Zr (.inl J) hsc () _ (fun a w hs => Xp hs Tryz.results86 (Yl (i := 3) J J iA49 zT49 J) J) J trivial J Zj
end Go.Sky

