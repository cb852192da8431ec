/- rules, arithmetic and contracts: part 13
   Proved without conditions of its own: each theorem bears its own. -/
import Derived.Test.YtcegclhbeflgbaaGreatSi02
import Derived.Test.YtcegclhbeflgbaaGreatSi01
import Derived.Test.YtcegclhbeflgbaaGreatSi03
import Derived.Test.YtcegclhbeflgbaaGreatSi11
set_option linter.all false
namespace Go.Sky
open Go.Proofs
set_option maxRecDepth 20000
set_option maxHeartbeats 4000000
set_option linter.unusedVariables false
set_option linter.unusedSimpArgs false
set_option maxHeartbeats 4000000 in
theorem r3_rem (v u : Value) (zs ys : List (Int × SL)) (F : Nat) (hl : zs.length ≤ 30) (hk : ys.length ≤ 30) (hy0 : 0 < ys.length) (htz : Tr (ints zs)) (ht : Tr (ints ys)) (hF0 : zs.length < ys.length + F) (hS0 : msz (ints zs) + F * (msz (ints ys) + 1) ≤ 900000) : Cal Tryz.prog 73 #[v, u] [pp v zs, pp u ys] true (G := Value × List (Int × SL)) (fun r => ints r.2 = rrem F (ints zs) (ints ys)) (fun r => r.1) (fun r => [pp r.1 r.2]) := by
 refine Yb Tryz.func73 J Tryz.ntmps73 J K2 ?_
 intro w0 sc hw hsc
 simp only [Zn, Zm]
 have hli := length_ints zs
 have hli2 := length_ints ys
 have hcy := cf_ints ys (ys.length - 1)
 have hra := bl_rabs (ints ys)
 refine Zb <|Zd <|Zl J J <|Zc <|Za <|Zb <|Zd <|mv J J <|mv J J <|dt (Zv J J (i := 2) J Zz uT33) J <|dt (Xd J J J ⟨by omega, by omega⟩) J <|dt (Yh (ii := 2) (i := (ys.length - 1)) J J J J Zz uT33 zT39 (by omega) (by omega)) J <|dt (Yu (ii := 2) I0 J J J Zz pI (by omega)) J <|tt (Zw (i := 85) J J J Tryz.zeroValue39 J J hw) J fun b _ => tt (Zq (i := 85) J J J J J (by decide) J zT39 J J ⟨(Zh J), (Zh J), trivial⟩ J hw trivial) J fun _ _ => Xt (s_deep 2 91 (ys.getD (ys.length - 1) I0) J J (getD_mem (by omega)) J) <|Zc <|Za <|Zb <|Zo <|Ye (Xv 1 80 J J J) <|Xw [(1, _), (5, _)] [(0, _), (1, _), (2, _), (85, _), (91, _)] (fun (q : Value × List (Int × SL) × Nat) => [(0, q.1)]) (fun (q : Value × List (Int × SL) × Nat) => [(80, pp q.1 q.2.1)]) (fun (q : Value × List (Int × SL) × Nat) => (rrem q.2.2 (ints q.2.1) (ints ys) = rrem F (ints zs) (ints ys)) ∧ ((ints q.2.1).length < (ints ys).length + q.2.2) ∧ (Tr (ints q.2.1)) ∧ (msz (ints q.2.1) + q.2.2 * (msz (ints ys) + 1) ≤ 900000) ∧ (q.2.1.length ≤ 30)) (fun (q : Value × List (Int × SL) × Nat) => q.2.2) (_, zs, F) ⟨J, by dsimp only; omega, htz, hS0, hl⟩ K3 K6 ?_
 rintro ⟨vr, ws, f⟩ ⟨hE, hL, hT, hS, hW⟩
 dsimp only at hE hL hT hS hW
 simp only [List.cons_append, List.nil_append]
 have hlw := length_ints ws
 have hcw := cf_ints ws (ws.length - 1)
 refine Zb <|Zb <|Zd <|mv J J <|dt (Zv J J (i := 80) J Zz uT33) J <|mv J J <|dt (Zv J J (i := 2) J Zz uT33) J <|dt (Qi J J J) J <|Zc <|Za <|Zp J (fun h45 => ?_) (fun h45 => ?_)
 ·obtain ⟨f1, rfl, hE1, hL1, hT1, hS1, hLl⟩ := rrem_step (by omega) (by omega) hL hT hS
  have hB : msz (ints ws) + (msz (ints ys) + 1) ≤ 900000 := by rw [Nat.succ_mul] at hS; omega
  have hrb := bl_rb (ints ws) (ints ys)
  refine Zk <|Za <|Zo <|Zb <|Qh [80, 85] [10] (by kernel_rfl) <|Yg (n := 4) [(0, 0), (1, 0), (2, 0), (3, 0), (4, 0), (5, 0), (6, 0)] (by kernel_rfl) <|r0' J J J J (stf (Yc (i := 85) J J J iA39 zT39 J J) K2) <|r0' J J J J (stf (Zx J J) K2) <|r0' J J J J (stf (Zx J J) K2) <|r0' J J J J (stf (Zv J J (i := 80) J Zz uT33) K2) <|r0' J J J J (stf (Xd J J J ⟨by omega, by omega⟩) K2) <|r0' J J J J (stf (Yh (ii := 80) (i := (ws.length - 1)) J J J J Zz uT33 zT39 (by omega) (by omega)) K2) <|r0' J J J J (stf (Yu (ii := 80) I0 J J J Zz pI (by omega)) K2) <|Yv <|Qf (n := 3) 7 8 (by kernel_rfl) ?_ ?_
  ·refine Yz J J (Yf (i := 95) J J J Tryz.zeroValue39 J J hw K2) fun b_2 hoff => Yg (n := 0) [(8, 1), (9, 1), (10, 3)] (by kernel_rfl) <|r1' J J (Yf (i := 96) J J J Tryz.zeroValue39 J J hw K2) fun b_3 hoff_2 => r1' J J (Zq (i := 95) J J J J J (by decide) J zT39 J J ⟨(Zh J), (Zt (i := 91) J Zi), trivial⟩ J hw hoff) fun _ _ => r3' J J (Zq (i := 96) J J J J J (by decide) J zT39 J J ⟨(Zh J), (Zh J), trivial⟩ J hw trivial) fun _ _ => Yv <|Yw (by kernel_rfl) <|Za <|Qw [(0, _), (1, _), (5, _), (6, _), (7, _)] [(0, _), (80, _), (1, _), (2, _), (85, _), (91, _)] (fun (q : Value × Value) => []) (fun (q : Value × Value) => [(95, box b_2 39 #[.bool (decide ((rabs (ints ys)) < 0)), q.1]), (96, box b_3 39 #[.bool (decide ((rb (ints ws) (ints ys)) < 0)), q.2]), (93, d9p q.1 (rabs (ints ys)).natAbs), (94, d9p q.2 (rb (ints ws) (ints ys)).natAbs)]) (fun (q : Value × Value) => True) K5 K6 ?_ ?_
   ·refine Zb <|Ye (s_deep 80 92 (ws.getD (ws.length - 1) I0) J J (getD_mem (by omega)) J) <|Zd <|dt (Yc (i := 95) J J J iA39 zT39 J J) J <|tt (Zg (n := 2) (r_sign _ _ (by rw [hcy]; have := msz_sz (ints ys) (ys.length - 1); omega)) J J J K1 cF61 (Ze 91 J J J Zf) J hw) J fun _ _ => dt (Xb J J J) J <|Zc <|Za <|Zp J (fun h47 => ?_) (fun h47 => ?_)
    ·refine Qh [96] [5] (by kernel_rfl) <|Yg (n := 0) [(2, 0), (0, 1), (1, 1), (3, 1), (4, 1), (5, 3)] (by kernel_rfl) <|r0' J J J J (stf (Yc (i := 96) J J J iA39 zT39 J J) K1) <|r1' J J (Qd (Yc (i := 95) J J J iA39 zT39 J J) J J) fun _ _ => r1' J J (Zg (n := 3) (r_neg _ _ (by rw [hcy]; have := msz_sz (ints ys) (ys.length - 1); omega)) J J J K1 cF41 (Ze 91 J J J Zf) J hw) fun v _ => r1' J J (Zg (n := 4) (r_neg _ _ (by rw [hcw]; have := msz_sz (ints ws) (ws.length - 1); omega)) J J J K1 cF41 (Ze 92 J J J Zf) J hw) fun v_2 _ => r1' J J (t_off 95 J J K1 (fun hoffb => (Zq (i := 95) J J J J J (by decide) J zT39 J J ⟨(Zh J), (Zt (i := 3) J Zi), trivial⟩ J hw hoffb))) fun _ _ => r3' J J (Zq (i := 96) J J J J J (by decide) J zT39 J J ⟨(Zh J), (Zt (i := 4) J Zi), trivial⟩ J hw trivial) fun _ _ => Yv <|Yw (by kernel_rfl) ?_
     have hra := rabs_n hli2 hcy (by assumption)
     have hrb := rb_n (x := ints ws) (y := ints ys) hli2 hlw hcy hcw (by assumption)
     exact Xh (Xv 3 93 J J J) <|Xh (Xv 4 94 J J J) <|Xj (_, _) trivial K5 ⟨by rw [hra]; rfl, by rw [hrb]; rfl, by rw [hra]; rfl, by rw [hrb]; rfl, rfl, rfl, rfl, rfl, rfl, rfl, trivial⟩
    ·refine Zk ?_
     have hra := rabs_p hli2 hcy (by assumption)
     have hrb := rb_p (x := ints ws) (y := ints ys) hli2 hlw hcy hcw (by assumption)
     exact Xh (Xv 91 93 J J J) <|Xh (Xv 92 94 J J J) <|Xj (_, _) trivial K5 ⟨by rw [hra]; rfl, by rw [hrb]; rfl, by rw [hra]; rfl, by rw [hrb]; rfl, rfl, rfl, rfl, rfl, rfl, rfl, trivial⟩
   ·rintro ⟨va, vb⟩ -
    simp only [List.cons_append, List.nil_append]
    refine Zb <|Zd <|mv J J <|dt (Zv J J (i := 80) J Zz uT33) J <|mv J J <|dt (Zv J J (i := 2) J Zz uT33) J <|dt (Xd J J J ⟨by omega, by omega⟩) J <|tt (Qx (i := 70) (n := (ws.length - ys.length)) (by_ := 32) (enc := encI) I0 J J J J J (by omega) uT33 Tryz.ti39 J pI.cells pI.pos J J (by omega) (by decide) J hw) J fun v_3 _ => Zl J J <|Zc <|Za <|Zb <|Zb <|Zd <|Zl J J <|Zc <|Za <|Zo <|Ye (s_many_rep 71 (ws.length - ys.length)) <|Xw [(0, _), (1, _), (5, _), (6, _), (7, _)] [(0, _), (95, _), (96, _), (93, _), (94, _), (80, _), (1, _), (2, _), (85, _), (91, _)] (fun (q : Nat × Value × List (Int × SL)) => [(9, .int .i64 (q.1 : Int)), (8, q.2.1)]) (fun (q : Nat × Value × List (Int × SL)) => [(70, osl 2 39 encI q.2.1 q.2.2), (71, many qI q.2.2)]) (fun (q : Nat × Value × List (Int × SL)) => (q.1 ≤ ys.length) ∧ (ints q.2.2 = shm (ints ys) (rb (ints ws) (ints ys)) ((ints ws).length - (ints ys).length) q.1) ∧ (q.2.2.length = ((ints ws).length - (ints ys).length) + q.1)) (fun (q : Nat × Value × List (Int × SL)) => ys.length - q.1) (0, _, List.replicate (ws.length - ys.length) I0) ⟨by first | omega | (dsimp only <;> omega), by rw [← shm_zero, hlw, hli2]; simp [ints], by simp <;> omega⟩ K7 K12 ?_
    rintro ⟨i, vo, ms⟩ ⟨hi, hms, hml⟩
    dsimp only at hi hms hml
    simp only [List.cons_append, List.nil_append]
    have hci := cf_ints ys i
    refine Zb <|Zb <|Zd <|mv J J <|mv J J <|dt (Zv J J (i := 2) J Zz uT33) J <|dt (Xb J J J) J <|Zc <|Za <|Zp J (fun h51 => ?_) (fun h51 => ?_)
    ·refine Zk <|Za <|Zb <|Zo <|Qh [2, 96] [9] (by kernel_rfl) <|Yg (n := 3) [(0, 0), (1, 0), (2, 0), (3, 0), (4, 0), (5, 0), (6, 1)] (by kernel_rfl) <|r0' J J J J (stf (Zx J J) K2) <|r0' J J J J (stf (Zx J J) K2) <|r0' J J J J (stf (Zx J J) K2) <|r0' J J J J (stf (Yh (ii := 2) J J J J Zz uT33 zT39 J (by first | omega | (simp only [List.length_set]; omega))) K2) <|r0' J J J J (stf (Yu (ii := 2) I0 J J J Zz pI (by first | omega | (simp only [List.length_set]; omega))) K2) <|r0' J J J J (stf (Yc (i := 96) J J J iA39 zT39 J J) K2) <|r1' J J (Zg (n := 86) (Qy _ _ _ _ (by rw [hci]; have := msz_sz (ints ys) i; omega) (by omega)) J J J K2 cF44 (Qa 2 J J (getD_mem (i := i) (by omega)) (Ze 94 J J J Zf)) J hw) fun v_4 _ => Yv <|a_ex (Ql 86 J Zi) (fun sl hsl => ?_)
     subst hsl
     exact Yg (n := 0) [(7, 1), (8, 1), (9, 3)] (by kernel_rfl) <|r1' J J (Xp (i := 87) (ivs := [(0, _)]) (enc := encI) [((ys.getD i I0).1 * (rb (ints ws) (ints ys)), sl)] J J J K2 uT33 Tryz.ti39 J J J J J J pI.cells J J hw) fun v_5 _ => r1' J J (t_offr 70 J J J K2 (fun hoffr => (t_appaM (xs := ms) (ys := [_]) (i := 70) (j := 87) (by_ := 32) J J J J J J (by decide) J (Yp pI) uT33 Tryz.ti39 J pI J J J (by simp; omega) (by decide) J hw hoffr))) fun v_6 _ => r3' J J (Qd (Qg J J) J J) fun _ _ => Yv <|Yw (by kernel_rfl) <|Xm <|Za <|Zd <|mv J J <|dt (Yj J J J ⟨by omega, by omega⟩) J <|Zl J J <|Zc <|Xh (Xr (q := qI) (z := ((ys.getD i I0).1 * (rb (ints ws) (ints ys)), sl)) 71 86 71 J J J J J) <|Yy (i + 1, _, ms ++ [((ys.getD i I0).1 * (rb (ints ws) (ints ys)), sl)]) ⟨by first | omega | (dsimp only <;> omega), by rw [ints_snoc, hms, ← shm_succ]; dsimp only; rw [hci, Int.mul_comm], by simp; omega⟩ (by first | omega | (dsimp only <;> omega)) K7 K12
    ·refine Ys <|Zu <|Zu <|Xs <|Za <|Ye (Xl 70 J J pI) <|Ye (Qn 70 71 72 J J J J) <|Zd <|mv J J <|dt (Yc (i := 95) J J J iA39 zT39 J J) J <|tt (Zg (n := 5) (rp_scale _ _ _ _ ((msz_sz _).mono (by omega)) (by omega) (by omega)) J J J K2 cF47 (Ze 80 J J J (Ze 93 J J J Zf)) J hw) J (fun g hg => ?_)
     have hlsc := congrArg List.length hg
     rw [length_ints] at hlsc
     have hlsd := pscale_len (ints ws) (rabs (ints ys))
     refine mv J J <|tt (Zg (n := 6) (rp_sub _ _ _ _ (by rw [hg]; exact (sz_pscale' (msz_sz _) hra).mono (by omega)) (by omega) (by rw [hms]; exact sz_shm'.mono (by omega)) (by omega)) J J J K2 cF124 (Ze 5 J J J (Ze 72 J J J Zf)) J hw) J fun g_2 hg_2 => Zl J J <|Zc <|Xm <|Xh (Xv 6 80 J J J) ?_
     have hR : ints g_2.2 = rrem1 (ints ws) (ints ys) := by rw [hg_2, hg, hms, show i = (ints ys).length by omega]; rfl
     exact Yy (_, g_2.2, f1) ⟨by dsimp only; rw [hR, ← hE1]; exact hE, by dsimp only; rw [hR]; exact hL1, by dsimp only; rw [hR]; exact hT1, by dsimp only; rw [hR]; exact hS1, by dsimp only; rw [← length_ints, hR]; omega⟩ (Nat.lt_succ_self f1) K3 K6
  ·refine Yz J J (Yf (i := 96) J J J Tryz.zeroValue39 J J hw K2) fun b_4 hoff_3 => Yg (n := 0) [(7, 1), (9, 1), (10, 3)] (by kernel_rfl) <|r1' J J (Yf (i := 95) J J J Tryz.zeroValue39 J J hw K2) fun b_5 hoff_4 => r1' J J (Zq (i := 95) J J J J J (by decide) J zT39 J J ⟨(Zh J), (Zt (i := 91) J Zi), trivial⟩ J hw hoff_4) fun _ _ => r3' J J (Zq (i := 96) J J J J J (by decide) J zT39 J J ⟨(Zh J), (Zh J), trivial⟩ J hw trivial) fun _ _ => Yv <|Yw (by kernel_rfl) <|Za <|Qw [(0, _), (1, _), (5, _), (6, _), (7, _)] [(0, _), (80, _), (1, _), (2, _), (85, _), (91, _)] (fun (q : Value × Value) => []) (fun (q : Value × Value) => [(95, box b_5 39 #[.bool (decide ((rabs (ints ys)) < 0)), q.1]), (96, box b_4 39 #[.bool (decide ((rb (ints ws) (ints ys)) < 0)), q.2]), (93, d9p q.1 (rabs (ints ys)).natAbs), (94, d9p q.2 (rb (ints ws) (ints ys)).natAbs)]) (fun (q : Value × Value) => True) K5 K6 ?_ ?_
   ·refine Zb <|Ye (s_deep 80 92 (ws.getD (ws.length - 1) I0) J J (getD_mem (by omega)) J) <|Zd <|dt (Yc (i := 95) J J J iA39 zT39 J J) J <|tt (Zg (n := 6) (r_sign _ _ (by rw [hcy]; have := msz_sz (ints ys) (ys.length - 1); omega)) J J J K1 cF61 (Ze 91 J J J Zf) J hw) J fun _ _ => dt (Xb J J J) J <|Zc <|Za <|Zp J (fun h47_2 => ?_) (fun h47_2 => ?_)
    ·refine Qh [96] [5] (by kernel_rfl) <|Yg (n := 0) [(2, 0), (0, 1), (1, 1), (3, 1), (4, 1), (5, 3)] (by kernel_rfl) <|r0' J J J J (stf (Yc (i := 96) J J J iA39 zT39 J J) K1) <|r1' J J (Qd (Yc (i := 95) J J J iA39 zT39 J J) J J) fun _ _ => r1' J J (Zg (n := 7) (r_neg _ _ (by rw [hcy]; have := msz_sz (ints ys) (ys.length - 1); omega)) J J J K1 cF41 (Ze 91 J J J Zf) J hw) fun v_7 _ => r1' J J (Zg (n := 8) (r_neg _ _ (by rw [hcw]; have := msz_sz (ints ws) (ws.length - 1); omega)) J J J K1 cF41 (Ze 92 J J J Zf) J hw) fun v_8 _ => r1' J J (t_off 95 J J K1 (fun hoffb => (Zq (i := 95) J J J J J (by decide) J zT39 J J ⟨(Zh J), (Zt (i := 7) J Zi), trivial⟩ J hw hoffb))) fun _ _ => r3' J J (Zq (i := 96) J J J J J (by decide) J zT39 J J ⟨(Zh J), (Zt (i := 8) J Zi), trivial⟩ J hw trivial) fun _ _ => Yv <|Yw (by kernel_rfl) ?_
     have hra := rabs_n hli2 hcy (by assumption)
     have hrb := rb_n (x := ints ws) (y := ints ys) hli2 hlw hcy hcw (by assumption)
     exact Xh (Xv 7 93 J J J) <|Xh (Xv 8 94 J J J) <|Xj (_, _) trivial K5 ⟨by rw [hra]; rfl, by rw [hrb]; rfl, by rw [hra]; rfl, by rw [hrb]; rfl, rfl, rfl, rfl, rfl, rfl, rfl, trivial⟩
    ·refine Zk ?_
     have hra := rabs_p hli2 hcy (by assumption)
     have hrb := rb_p (x := ints ws) (y := ints ys) hli2 hlw hcy hcw (by assumption)
     exact Xh (Xv 91 93 J J J) <|Xh (Xv 92 94 J J J) <|Xj (_, _) trivial K5 ⟨by rw [hra]; rfl, by rw [hrb]; rfl, by rw [hra]; rfl, by rw [hrb]; rfl, rfl, rfl, rfl, rfl, rfl, rfl, trivial⟩
   ·rintro ⟨va, vb⟩ -
    simp only [List.cons_append, List.nil_append]
    refine Zb <|Zd <|mv J J <|dt (Zv J J (i := 80) J Zz uT33) J <|mv J J <|dt (Zv J J (i := 2) J Zz uT33) J <|dt (Xd J J J ⟨by omega, by omega⟩) J <|tt (Qx (i := 70) (n := (ws.length - ys.length)) (by_ := 32) (enc := encI) I0 J J J J J (by omega) uT33 Tryz.ti39 J pI.cells pI.pos J J (by omega) (by decide) J hw) J fun v_9 _ => Zl J J <|Zc <|Za <|Zb <|Zb <|Zd <|Zl J J <|Zc <|Za <|Zo <|Ye (s_many_rep 71 (ws.length - ys.length)) <|Xw [(0, _), (1, _), (5, _), (6, _), (7, _)] [(0, _), (95, _), (96, _), (93, _), (94, _), (80, _), (1, _), (2, _), (85, _), (91, _)] (fun (q : Nat × Value × List (Int × SL)) => [(9, .int .i64 (q.1 : Int)), (8, q.2.1)]) (fun (q : Nat × Value × List (Int × SL)) => [(70, osl 2 39 encI q.2.1 q.2.2), (71, many qI q.2.2)]) (fun (q : Nat × Value × List (Int × SL)) => (q.1 ≤ ys.length) ∧ (ints q.2.2 = shm (ints ys) (rb (ints ws) (ints ys)) ((ints ws).length - (ints ys).length) q.1) ∧ (q.2.2.length = ((ints ws).length - (ints ys).length) + q.1)) (fun (q : Nat × Value × List (Int × SL)) => ys.length - q.1) (0, _, List.replicate (ws.length - ys.length) I0) ⟨by first | omega | (dsimp only <;> omega), by rw [← shm_zero, hlw, hli2]; simp [ints], by simp <;> omega⟩ K7 K12 ?_
    rintro ⟨i, vo, ms⟩ ⟨hi, hms, hml⟩
    dsimp only at hi hms hml
    simp only [List.cons_append, List.nil_append]
    have hci := cf_ints ys i
    refine Zb <|Zb <|Zd <|mv J J <|mv J J <|dt (Zv J J (i := 2) J Zz uT33) J <|dt (Xb J J J) J <|Zc <|Za <|Zp J (fun h51_2 => ?_) (fun h51_2 => ?_)
    ·refine Zk <|Za <|Zb <|Zo <|Qh [2, 96] [9] (by kernel_rfl) <|Yg (n := 3) [(0, 0), (1, 0), (2, 0), (3, 0), (4, 0), (5, 0), (6, 1)] (by kernel_rfl) <|r0' J J J J (stf (Zx J J) K2) <|r0' J J J J (stf (Zx J J) K2) <|r0' J J J J (stf (Zx J J) K2) <|r0' J J J J (stf (Yh (ii := 2) J J J J Zz uT33 zT39 J (by first | omega | (simp only [List.length_set]; omega))) K2) <|r0' J J J J (stf (Yu (ii := 2) I0 J J J Zz pI (by first | omega | (simp only [List.length_set]; omega))) K2) <|r0' J J J J (stf (Yc (i := 96) J J J iA39 zT39 J J) K2) <|r1' J J (Zg (n := 86) (Qy _ _ _ _ (by rw [hci]; have := msz_sz (ints ys) i; omega) (by omega)) J J J K2 cF44 (Qa 2 J J (getD_mem (i := i) (by omega)) (Ze 94 J J J Zf)) J hw) fun v_10 _ => Yv <|a_ex (Ql 86 J Zi) (fun sl_2 hsl_2 => ?_)
     subst hsl_2
     exact Yg (n := 0) [(7, 1), (8, 1), (9, 3)] (by kernel_rfl) <|r1' J J (Xp (i := 87) (ivs := [(0, _)]) (enc := encI) [((ys.getD i I0).1 * (rb (ints ws) (ints ys)), sl_2)] J J J K2 uT33 Tryz.ti39 J J J J J J pI.cells J J hw) fun v_11 _ => r1' J J (t_offr 70 J J J K2 (fun hoffr => (t_appaM (xs := ms) (ys := [_]) (i := 70) (j := 87) (by_ := 32) J J J J J J (by decide) J (Yp pI) uT33 Tryz.ti39 J pI J J J (by simp; omega) (by decide) J hw hoffr))) fun v_12 _ => r3' J J (Qd (Qg J J) J J) fun _ _ => Yv <|Yw (by kernel_rfl) <|Xm <|Za <|Zd <|mv J J <|dt (Yj J J J ⟨by omega, by omega⟩) J <|Zl J J <|Zc <|Xh (Xr (q := qI) (z := ((ys.getD i I0).1 * (rb (ints ws) (ints ys)), sl_2)) 71 86 71 J J J J J) <|Yy (i + 1, _, ms ++ [((ys.getD i I0).1 * (rb (ints ws) (ints ys)), sl_2)]) ⟨by first | omega | (dsimp only <;> omega), by rw [ints_snoc, hms, ← shm_succ]; dsimp only; rw [hci, Int.mul_comm], by simp; omega⟩ (by first | omega | (dsimp only <;> omega)) K7 K12
    ·refine Ys <|Zu <|Zu <|Xs <|Za <|Ye (Xl 70 J J pI) <|Ye (Qn 70 71 72 J J J J) <|Zd <|mv J J <|dt (Yc (i := 95) J J J iA39 zT39 J J) J <|tt (Zg (n := 9) (rp_scale _ _ _ _ ((msz_sz _).mono (by omega)) (by omega) (by omega)) J J J K2 cF47 (Ze 80 J J J (Ze 93 J J J Zf)) J hw) J (fun g_3 hg_3 => ?_)
     have hlsc := congrArg List.length hg_3
     rw [length_ints] at hlsc
     have hlsd := pscale_len (ints ws) (rabs (ints ys))
     refine mv J J <|tt (Zg (n := 10) (rp_sub _ _ _ _ (by rw [hg_3]; exact (sz_pscale' (msz_sz _) hra).mono (by omega)) (by omega) (by rw [hms]; exact sz_shm'.mono (by omega)) (by omega)) J J J K2 cF124 (Ze 9 J J J (Ze 72 J J J Zf)) J hw) J fun g_4 hg_4 => Zl J J <|Zc <|Xm <|Xh (Xv 10 80 J J J) ?_
     have hR : ints g_4.2 = rrem1 (ints ws) (ints ys) := by rw [hg_4, hg_3, hms, show i = (ints ys).length by omega]; rfl
     exact Yy (_, g_4.2, f1) ⟨by dsimp only; rw [hR, ← hE1]; exact hE, by dsimp only; rw [hR]; exact hL1, by dsimp only; rw [hR]; exact hT1, by dsimp only; rw [hR]; exact hS1, by dsimp only; rw [← length_ints, hR]; omega⟩ (Nat.lt_succ_self f1) K3 K6
 ·have hE2 := rrem_end (f := f) (x := ints ws) (y := ints ys) (by omega)
  exact Ys <|Zu <|Zu <|Xs <|Za <|Zb <|Zd <|mv J J <|Zl J J <|Zc <|Za <|Zr <|Zs (.inl J) hsc (_, ws) _ (fun a w hs => Yr hs Tryz.results73 J) J (by rw [← hE, hE2]) J (Xa 80 J J J Zj)
theorem r3_made (v : Value) (zs : List (Int × SL)) (hv : Vp (ints zs)) (h0 : zs.length ≠ 0) : Cal Tryz.prog 74 #[v] [pp v zs] true (G := Value × List (Int × SL)) (fun r => ints r.2 = nrm (ints zs)) (fun r => r.1) (fun r => [pp r.1 r.2]) := by
 refine Yb Tryz.func74 J Tryz.ntmps74 J K1 ?_
 intro w0 sc hw hsc
 simp only [Zn, Zm]
 have hli := length_ints zs
 have hlen := hv.len
 refine Zb <|Zd <|Zl J J <|Zc <|Za <|Zb <|Zd <|mv J J <|tt (Zg (n := 2) (rp_primitive _ _ (hv.sz.mono (by omega)) (by omega) (fun h => hv.ne (fun e => by have h7 := congrArg List.length e; simp only [List.length_nil] at h7; omega))) J J J K1 cF70 (Ze 1 J J J Zf) J hw) J fun g hg => Zl J J <|Zc <|Za <|Zb <|Zb ?_
 have hpl := congrArg List.length hg
 rw [length_ints, length_pprim, hli] at hpl
 have hlc := cf_ints g.2 (g.2.length - 1)
 have hlc2 : (g.2.getD (g.2.length - 1) I0).1 = cf (pprim (ints zs)) ((pprim (ints zs)).length - 1) := by rw [hlc, hg, length_pprim, hli, hpl]
 have hpb := (vp_pprim hv).sz
 refine Zd <|mv J J <|mv J J <|dt (Zv J J (i := 2) J Zz uT33) J <|dt (Xd J J J ⟨by omega, by omega⟩) J <|dt (Yh (ii := 2) (i := (g.2.length - 1)) J J J J Zz uT33 zT39 (by omega) (by omega)) J <|dt (Yu (ii := 2) I0 J J J Zz pI (by omega)) J <|tt (Zg (n := 2) (r_sign _ _ (by rw [hlc2]; have := hpb ((pprim (ints zs)).length - 1); omega)) J J J K1 cF61 (Qa 2 J J (getD_mem (zs := g.2) (i := g.2.length - 1) (d := I0) (by omega)) Zf) J hw) J fun _ _ => dt (Xb J J J) J <|Zc <|Za <|Zp J (fun h29 => ?_) (fun h29 => ?_)
 ·have hnn := nrm_neg (xs := ints zs) (by rw [length_pprim]; omega) (by rw [← hlc2]; exact sign_lt.1 h29)
  exact Zb <|Zd <|mv J J <|tt (Zg (n := 3) (rp_neg _ _ (by rw [hg]; exact hpb.mono (by omega)) (by omega)) J J J K1 cF72 (Ze 2 J J J Zf) J hw) J fun g_2 hg_2 => Zl J J <|Zc <|Za <|Zr <|Yt <|Zs (.inl J) hsc _ _ (fun a w hs => Yr hs Tryz.results74 J) J (by rw [hg_2, hg, hnn]) J (Xa 3 J J J Zj)
 ·have hnn := nrm_pos (xs := ints zs) (fun h => h29 (sign_lt.2 (by rw [hlc2]; exact h)))
  exact Zk <|Za <|Zb <|Zd <|mv J J <|Zl J J <|Zc <|Za <|Zr <|Zs (.inl J) hsc (_, g.2) _ (fun a w hs => Yr hs Tryz.results74 J) J (by rw [hg, hnn]) J (Xa 2 J J J Zj)
theorem r3_sqf (v : Value) (zs : List (Int × SL)) (hv : Vp (ints zs)) (h0 : zs.length ≠ 0) (hs : Sz 48 (ints zs)) (hl : zs.length ≤ 8) : Cal Tryz.prog 26 #[v] [pp v zs] true (G := Value × List (Int × SL)) (fun r => ints r.2 = sqf 12 (ints zs)) (fun r => r.1) (fun r => [pp r.1 r.2]) := by
 refine Yb Tryz.func26 J Tryz.ntmps26 J K1 ?_
 intro w0 sc hw hsc
 simp only [Zn, Zm]
 have hli := length_ints zs
 have hne : ints zs ≠ [] := fun e => h0 (by rw [← hli, e]; rfl)
 obtain ⟨k1, k2, k3, k4, k5, k6, k7, k8, k9, k10, k11, k12, k13, k14⟩ := sqf_ref hv hne hs (by omega)
 have k6l := List.length_pos_iff.2 k6
 have k12l := List.length_pos_iff.2 k12
 have k2l := k2.len
 have k11l := k11.len
 refine Zb <|Zd <|Zl J J <|Zc <|Za <|Zb <|Zd <|mv J J <|tt (Zg (n := 2) (r3_made _ _ hv h0) J J J K1 cF74 (Ze 1 J J J Zf) J hw) J fun g hg => Zl J J <|Zc <|Za <|Zb ?_
 have hl_qs := congrArg List.length hg
 rw [length_ints] at hl_qs
 refine Zd <|mv J J <|mv J J <|mv J J <|tt (Zg (n := 3) (rp_derive _ _ (by rw [hg]; exact k1.sz.mono (by omega)) (by omega)) J J J K1 cF71 (Ze 2 J J J Zf) J hw) J (fun g_2 hg_2 => ?_)
 have hl_qd := congrArg List.length hg_2
 rw [length_ints] at hl_qd
 refine tt (Zg (n := 4) (rp_gcd _ _ _ _ 12 (by rw [hg]; exact k1) (by rw [hg_2, hg]; exact k2) (by rw [hg_2, hg]; exact k3)) J J J K2 cF76 (Ze 2 J J J (Ze 3 J J J Zf)) J hw) J (fun g_3 hg_3 => ?_)
 have hgg : ints g_3.2 = pgcd 12 (nrm (ints zs)) (pder (nrm (ints zs))) := by rw [hg_3, hg_2, hg, k4]
 have hl_g := congrArg List.length hgg
 rw [length_ints] at hl_g
 refine tt (Zg (n := 5) (rp_divide _ _ _ _ (by omega) (by omega) (by omega) (by rw [hg]; exact k1.tr) (by rw [hgg]; exact k5.tr) (fun _ => by rw [hg, hgg]; have := Nat.mul_le_mul (show g.2.length - g_3.2.length + 1 ≤ 9 by omega) (show msz (pgcd 12 (nrm (ints zs)) (pder (nrm (ints zs)))) + 1 ≤ 117 by omega); omega)) J J J K2 cF75 (Ze 2 J J J (Ze 4 J J J Zf)) J hw) J fun g_4 hg_4 => mv J J <|dt (Zy J J J) J <|dt (Zy J J J) J <|Zl J J <|Zl J J <|Zc <|Za <|Zb ?_
 have hqe := hg_4 (by rw [hg, hgg]; exact k7)
 rw [hg, hgg] at hqe
 have hl_q := congrArg List.length hqe
 rw [length_ints] at hl_q
 exact Zd <|mv J J <|tt (Zg (n := 6) (r3_made _ _ (by rw [hqe]; exact k11) (by rw [hl_q]; exact Nat.ne_of_gt k12l)) J J J K1 cF74 (Ze 5 J J J Zf) J hw) J fun g_5 hg_5 => Zl J J <|Zc <|Za <|Zr <|Zs (.inl J) hsc _ _ (fun a w hs => Yr hs Tryz.results26 J) J (by rw [hg_5, hqe]; exact k13) J (Xa 6 J J J Zj)
end Go.Sky
namespace Go.Sky
open Go.Proofs
theorem pT {α : Type} : Enc Tryz.prog 33 1 (encS (α := α)) := Enc.flat Tryz.sizeOf33 Tryz.isAgg33 (fun _ => rfl)
theorem rp_primitive_s (v : Value) (zs : List (Int × SL)) (hs : Sz 1000000 (ints zs)) (hl : zs.length ≤ 1000) (hc : zs.length ≠ 0 → pcont (ints zs) ≠ 0) : Cal Tryz.prog 70 #[v] [pp v zs] true (G := SL × List (Int × SL)) (fun r => ints r.2 = pprim (ints zs)) (fun r => svv r.1) (fun r => [pp (svv r.1) r.2]) :=
  (rp_primitive v zs hs hl hc).toS
theorem r3_sqf_s (v : Value) (zs : List (Int × SL)) (hv : Vp (ints zs)) (h0 : zs.length ≠ 0) (hs : Sz 48 (ints zs)) (hl : zs.length ≤ 8) : Cal Tryz.prog 26 #[v] [pp v zs] true (G := SL × List (Int × SL)) (fun r => ints r.2 = sqf 12 (ints zs)) (fun r => svv r.1) (fun r => [pp (svv r.1) r.2]) :=
  (r3_sqf v zs hv h0 hs hl).toS
end Go.Sky
namespace Go.Sky
open Go.Proofs
set_option maxRecDepth 20000
set_option maxHeartbeats 4000000
set_option linter.unusedVariables false
set_option linter.unusedSimpArgs false
set_option maxHeartbeats 4000000 in
theorem r3_chain (v : Value) (zs : List (Int × SL)) (hv : Vp (ints zs)) (h0 : zs.length ≠ 0) (hs : Sz 48 (ints zs)) (hl : zs.length ≤ 8) : Cal Tryz.prog 23 #[v] [pp v zs] true (G := Value × List (SL × List (Int × SL))) (fun r => intsT r.2 = chn 12 (ints zs)) (fun r => r.1) (fun r => [deep 1 encS qT r.1 r.2]) := by
 refine Yb Tryz.func23 J Tryz.ntmps23 J K1 ?_
 intro w0 sc hw hsc
 simp only [Zn, Zm]
 have hli := length_ints zs
 have hne : ints zs ≠ [] := fun e => h0 (by rw [← hli, e]; rfl)
 obtain ⟨hC, hq, hql⟩ := ch8 hv.tr hne hs (by omega)
 obtain ⟨hC1, hC2, hC3⟩ := hC
 have hvq := vp_sqf hv hne hC1
 have hq0 : sqf 12 (ints zs) ≠ [] := (sqf_ref hv hne hs (by omega)).2.2.2.2.2.2.2.2.2.2.2.1
 have hqd := sz_pder' hq (by omega)
 have hqdl := len_pder' (sqf 12 (ints zs))
 have hqdt := tr_pder hvq.tr
 have hvqd : Vp (pder (sqf 12 (ints zs))) := ⟨hqd.mono (by omega), hqdt, by omega⟩
 refine Zb <|Zd <|Zl J J <|Zc <|Za <|Zb <|Zd <|mv J J <|tt (Zg (n := 2) (r3_sqf_s _ _ hv h0 hs hl) J J J K1 cF26 (Ze 1 J J J Zf) J hw) J fun g hg => Zl J J <|Zc <|Za <|Zb <|Zd <|mv J J <|tt (Xp (i := 70) (ivs := [(0, _)]) (enc := encS) [g] J J J K2 uT51 Tryz.ti33 J J J J J J pT.cells J J hw) J fun v _ => Zl J J <|Zc <|Za <|Zb ?_
 have hxe : ints g.2 = sqf 12 (ints zs) := hg
 have hxl := congrArg List.length hxe
 rw [length_ints] at hxl
 refine Ye (Qk qT 71) <|Ye (Xr (q := qT) (z := g) 71 2 71 J J J J J) <|Ye (Xv 2 92 J J J) <|Zd <|mv J J <|tt (Zg (n := 3) (rp_derive _ _ (by rw [hxe]; exact hvq.sz.mono (by omega)) (by omega)) J J J K1 cF71 (Ze 2 J J J Zf) J hw) J (fun g_2 hg_2 => ?_)
 have hdl := congrArg List.length hg_2
 rw [length_ints, hxe, len_pder'] at hdl
 refine tt (Zg (n := 4) (rp_primitive_s _ _ (by rw [hg_2, hxe]; exact hqd.mono (by omega)) (by omega) (fun h => by rw [hg_2, hxe]; exact hvqd.ne (fun e => h (by have h7 := congrArg List.length hg_2; rw [length_ints, hxe, e] at h7; exact h7)))) J J J K1 cF70 (Ze 3 J J J Zf) J hw) J (fun g_3 hg_3 => ?_)
 have hye : ints g_3.2 = pprim (pder (sqf 12 (ints zs))) := by rw [show ints g_3.2 = pprim _ from hg_3, hg_2, hxe]
 refine Zl J J <|Zc <|Za <|Zb <|Zo <|Ye (Xv 4 80 J J J) ?_
 refine Xw [] [(0, _), (1, _), (2, _), (3, _), (4, _)] (fun (q : List (SL × List (Int × SL)) × (SL × List (Int × SL)) × (SL × List (Int × SL)) × Nat × Value) => [(4, q.2.2.2.2), (3, svv q.2.1.1), (5, svv q.2.2.1.1)]) (fun (q : List (SL × List (Int × SL)) × (SL × List (Int × SL)) × (SL × List (Int × SL)) × Nat × Value) => [(70, osl 1 33 encS q.2.2.2.2 (q.1 ++ [q.2.1])), (71, many qT (q.1 ++ [q.2.1])), (92, pp (svv q.2.1.1) q.2.1.2), (80, pp (svv q.2.2.1.1) q.2.2.1.2)]) (fun (q : List (SL × List (Int × SL)) × (SL × List (Int × SL)) × (SL × List (Int × SL)) × Nat × Value) => (Vp (ints q.2.1.2)) ∧ (Vp (ints q.2.2.1.2)) ∧ (cok q.2.2.2.1 (ints q.2.1.2) (ints q.2.2.1.2)) ∧ (intsT q.1 ++ schain q.2.2.2.1 (ints q.2.1.2) (ints q.2.2.1.2) = chn 12 (ints zs)) ∧ (q.2.1.2.length ≤ 8) ∧ (q.2.2.1.2.length ≤ 8) ∧ (q.1.length + q.2.2.1.2.length ≤ 25)) (fun (q : List (SL × List (Int × SL)) × (SL × List (Int × SL)) × (SL × List (Int × SL)) × Nat × Value) => q.2.2.1.2.length) ([], g, g_3, 12, _) ⟨by dsimp only; rw [hxe]; exact hvq, by dsimp only; rw [hye]; exact vp_pprim hvqd, by dsimp only; rw [hxe, hye]; exact hC3, by dsimp only; rw [hxe, hye]; rfl, by dsimp only; omega, by dsimp only; rw [← length_ints, hye, length_pprim]; omega, by dsimp only; rw [← length_ints, hye, length_pprim]; simp; omega⟩ K3 K9 ?_
 rintro ⟨ws, ex, ey, f, vo⟩ ⟨hvx, hvy, hck, hch, hx8, hy8, hwl⟩
 dsimp only at hvx hvy hck hch hx8 hy8 hwl
 simp only [List.cons_append, List.nil_append]
 have hlx := length_ints ex.2
 have hly := length_ints ey.2
 refine Zb <|Zb <|Zd <|mv J J <|dt (Zv J J (i := 80) J Zz uT33) J <|dt (Xc J J J) J <|Zc <|Za <|Zp J (fun h64 => ?_) (fun h64 => ?_)
 ·have hy0 : ints ey.2 ≠ [] := fun e => by have h7 := congrArg List.length e; rw [hly] at h7; simp only [List.length_nil] at h7; omega
  obtain ⟨f0, rfl, hd, hle, hck2, hsc2⟩ := cok_step hck hy0
  refine Zk <|Za <|Zo <|Zb <|Zd <|mv J J <|mv J J <|tt (Xp (i := 5) (ivs := [(0, _)]) (enc := encS) [ey] J J J K2 uT51 Tryz.ti33 J J J J J J pT.cells J J hw) J fun v_2 _ => tt (Qv (i := 70) (j := 5) (by_ := 24) J J J J J J (by decide) J (Yp pT) uT51 Tryz.ti33 J pT J J J (by simp; omega) (by decide) J hw) J fun v_3 _ => Zl J J <|Zc <|Za <|Zd <|mv J J <|mv J J <|mv J J <|tt (Zg (n := 6) (r3_rem _ _ _ _ 8 (by omega) (by omega) (by omega) hvx.tr hvy.tr (by omega) (by have := msz_le hvx.sz; have := msz_le hvy.sz; omega)) J J J K2 cF73 (Ze 92 J J J (Ze 80 J J J Zf)) J hw) J (fun g_4 hg_4 => ?_)
  have hrl : (rrem 8 (ints ex.2) (ints ey.2)).length < (ints ey.2).length := (rrem_id hvy.tr hy0 8 (ints ex.2) hvx.tr (by omega)).2.1
  have hrm := msz_rrem (ints ey.2) 8 (ints ex.2)
  have hrt := (rrem_id hvy.tr hy0 8 (ints ex.2) hvx.tr (by omega)).1
  have hrl2 := congrArg List.length hg_4
  rw [length_ints] at hrl2
  refine tt (Zg (n := 7) (rp_neg _ _ (by rw [hg_4]; exact (msz_sz _).mono (by have := msz_le hvx.sz; have := msz_le hvy.sz; omega)) (by omega)) J J J K1 cF72 (Ze 6 J J J Zf) J hw) J (fun g_5 hg_5 => ?_)
  have hnl := congrArg List.length hg_5
  rw [length_ints, hg_4] at hnl
  have hnl2 := pscale_len (rrem 8 (ints ex.2) (ints ey.2)) (-1)
  refine tt (Zg (n := 8) (rp_primitive_s _ _ (by rw [hg_5, hg_4]; exact (sz_pscale' (msz_sz _) (m := 1) (by decide)).mono (by have := msz_le hvx.sz; have := msz_le hvy.sz; omega)) (by omega) (fun h => pcont_ne (by rw [hg_5]; exact tr_pscale _ _) (fun e => h (by rw [← length_ints, e]; rfl)))) J J J K1 cF70 (Ze 7 J J J Zf) J hw) J fun g_6 hg_6 => Zl J J <|Zl J J <|Zc <|Xm ?_
  have hsn := snext_ref (f := 8) hvx.tr hvy.tr hy0 (by omega) (by omega)
  have hnx : ints g_6.2 = snext (ints ex.2) (ints ey.2) := by rw [show ints g_6.2 = pprim _ from hg_6, hg_5, hg_4]; exact hsn
  have hsl := length_snext (y := ints ey.2) hvx.tr
  have hpl := length_prest_lt (ints ex.2) hy0
  have hnxl := congrArg List.length hnx
  rw [length_ints] at hnxl
  exact Xh (Xr (q := qT) (z := ey) 71 80 71 J J J J J) <|Xh (Xv 80 92 J J J) <|Xh (Xv 8 80 J J J) <|Yy (ws ++ [ex], ey, g_6, f0, _) ⟨hvy, by dsimp only; rw [hnx]; exact vp_snext hvx hd, by dsimp only; rw [hnx]; exact hck2, by dsimp only; rw [hnx, ← hch, hsc2]; simp [intsT], hy8, by dsimp only; omega, by dsimp only; simp; omega⟩ (by dsimp only; omega) K3 K9
 ·refine Ys <|Zu <|Zu <|Xs <|Za <|Zb ?_
  have hy0 : ints ey.2 = [] := List.eq_nil_of_length_eq_zero (by omega)
  exact Ye (Xl 70 J J pT) <|Ye (Qn 70 71 72 J J J J) <|Zd <|mv J J <|Zl J J <|Zc <|Za <|Zr <|Zs (.inl J) hsc (_, ws ++ [ex]) _ (fun a w hs => Yr hs Tryz.results23 J) J (by rw [← hch, hy0, schain_nil]; simp [intsT]) J (Xa 72 J J J Zj)
end Go.Sky
namespace Go.Sky
open Go.Proofs
set_option maxRecDepth 20000
set_option maxHeartbeats 4000000
set_option linter.unusedVariables false
set_option linter.unusedSimpArgs false
theorem law_first_bad (v : Value) (r : List (Bool × ByteArray)) (x y x2 y2 : Int) (hx : bl x.natAbs ≤ 65536) (hy : bl y.natAbs ≤ 65536) (hx2 : bl x2.natAbs ≤ 65536) (hy2 : bl y2.natAbs ≤ 65536) (hp : 0 < y) (hp2 : 0 < y2) (hb : okP r = false) : Cal Tryz.prog 21 #[v, .agg #[.bool (decide (x < 0)), .string (bstr x.natAbs), .bool (decide (y < 0)), .string (bstr y.natAbs)], .agg #[.bool (decide (x2 < 0)), .string (bstr x2.natAbs), .bool (decide (y2 < 0)), .string (bstr y2.natAbs)]] [slp 2 encW v r] false (G := Unit) (fun _ => True) (fun _ => .int .i64 (firstE r x y x2 y2)) (fun _ => []) := by
 refine Yb Tryz.func21 J Tryz.ntmps21 J K1 ?_
 intro w0 sc hw hsc
 simp only [Zn, Zm]
 exact Zb <|Zd <|tt (Ym (i := 2) J J J J J J hw) J fun b _ => tt (Ym (i := 3) J J J J J J hw) J fun b_2 _ => Zl J J <|Zc <|Za <|Zb <|Zb <|Zd <|mv J J <|tt (Zg (n := 3) (rp_valid _ _) J J J K1 cF13 (Ze 1 J J J Zf) J hw) J fun _ _ => dt (Yd (r' := .bool true) (Xn J J) (congrArg Value.bool (by rw [hb]; rfl))) J <|mv J J <|Yx J J J J J <|Yx J J J J J <|Yx J J J J J <|dt (Yk J J J) J <|mv J J <|Yx J J J J J <|Yx J J J J J <|Yx J J J J J <|dt (Yk J J J) J <|Zc <|Za <|Qe J <|Zb <|Zd <|Zl J J <|Zc <|Za <|Zr <|Yt <|Zs (.inl J) hsc () _ (fun a w hs => Yr hs Tryz.results21 J) (by rw [firstE_2 _ _ _ _ hb]) trivial J Zj
theorem law_first_nil (v : Value) (r : List (Bool × ByteArray)) (x y x2 y2 : Int) (hx : bl x.natAbs ≤ 65536) (hy : bl y.natAbs ≤ 65536) (hx2 : bl x2.natAbs ≤ 65536) (hy2 : bl y2.natAbs ≤ 65536) (hp : 0 < y) (hp2 : 0 < y2) (hok : okP r = true) (h0 : r.length = 0) : Cal Tryz.prog 21 #[v, .agg #[.bool (decide (x < 0)), .string (bstr x.natAbs), .bool (decide (y < 0)), .string (bstr y.natAbs)], .agg #[.bool (decide (x2 < 0)), .string (bstr x2.natAbs), .bool (decide (y2 < 0)), .string (bstr y2.natAbs)]] [slp 2 encW v r] false (G := Unit) (fun _ => True) (fun _ => .int .i64 (firstE r x y x2 y2)) (fun _ => []) := by
 refine Yb Tryz.func21 J Tryz.ntmps21 J K1 ?_
 intro w0 sc hw hsc
 simp only [Zn, Zm]
 refine Zb <|Zd <|tt (Ym (i := 2) J J J J J J hw) J fun b _ => tt (Ym (i := 3) J J J J J J hw) J fun b_2 _ => Zl J J <|Zc <|Za <|Zb <|Zb <|Zd <|mv J J <|tt (Zg (n := 3) (rp_valid _ _) J J J K1 cF13 (Ze 1 J J J Zf) J hw) J fun _ _ => dt (Yd (r' := .bool false) (Xn J J) (congrArg Value.bool (by rw [hok]; rfl))) J <|mv J J <|Yl (Xi (i := 2) J J J iA49 zT49 J J J J) J J J J <|gtt (Zg (n := 3) (Qp _ _ _ _) J J J K1 cF45 Zf J hw) J J J J fun _ _ => Yl (Yd (r' := .bool false) (Xn J J) (congrArg Value.bool (by rw [okR_wv hx hy hp]; rfl))) J J J J <|dt (Ya J J J) J <|mv J J <|Yl (Xi (i := 3) J J J iA49 zT49 J J J J) J J J J <|gtt (Zg (n := 3) (Qp _ _ _ _) J J J K1 cF45 Zf J hw) J J J J fun _ _ => Yl (Yd (r' := .bool false) (Xn J J) (congrArg Value.bool (by rw [okR_wv hx2 hy2 hp2]; rfl))) J J J J <|dt (Ya J J J) J <|Zc <|Za <|Yn J <|Zk <|Za <|Zb <|Zb <|Xg (fun _ => False) [(0, 0), (1, 0), (2, 0), (3, 0), (4, 2), (5, 2), (6, 2), (7, 2), (8, 2), (9, 2), (10, 0)] (by kernel_rfl) ?_ ?_
 ·kernel_rfl
 exact r0' J J J J (st0 (Zx J J)) <|r0' J J J J (st0 (Zv J J (i := 1) J Zi uT23)) <|r0' J J J J (st0 (Yd (r' := .bool true) (Xy J J J) (congrArg Value.bool (decide_eq_true (by omega))))) <|r0' J J J J (st0 (Zx J J)) <|r2 J J J J J J J J <|r2 J J J J J J J J <|r2 J J J J J J J J <|r2 J J J J J J J J <|r2 J J J J J J J J <|r2 J J J J J J J J <|r0' J J J J (st0 (Yk J J J)) <|Xq <|Za <|Qe J <|Zb <|Zd <|Zl J J <|Zc <|Za <|Zr <|Yt <|Zs (.inl J) hsc () _ (fun a w hs => Yr hs Tryz.results21 J) (by rw [firstE_3 hok (by first | (left; omega) | (right; assumption))]) trivial J Zj
theorem law_first (v : Value) (r : List (Bool × ByteArray)) (x y x2 y2 : Int) (hx : bl x.natAbs ≤ 65536) (hy : bl y.natAbs ≤ 65536) (hx2 : bl x2.natAbs ≤ 65536) (hy2 : bl y2.natAbs ≤ 65536) (hp : 0 < y) (hp2 : 0 < y2) (hok : okP r = true) (h0 : r.length ≠ 0) : Cal Tryz.prog 21 #[v, .agg #[.bool (decide (x < 0)), .string (bstr x.natAbs), .bool (decide (y < 0)), .string (bstr y.natAbs)], .agg #[.bool (decide (x2 < 0)), .string (bstr x2.natAbs), .bool (decide (y2 < 0)), .string (bstr y2.natAbs)]] [slp 2 encW v r] false (G := Unit) (fun _ => True) (fun _ => .int .i64 (firstE r x y x2 y2)) (fun _ => []) := by
 refine Yb Tryz.func21 J Tryz.ntmps21 J K1 ?_
 intro w0 sc hw hsc
 simp only [Zn, Zm]
 refine Zb <|Zd <|tt (Ym (i := 2) J J J J J J hw) J fun b _ => tt (Ym (i := 3) J J J J J J hw) J fun b_2 _ => Zl J J <|Zc <|Za <|Zb <|Zb <|Zd <|mv J J <|tt (Zg (n := 3) (rp_valid _ _) J J J K1 cF13 (Ze 1 J J J Zf) J hw) J fun _ _ => dt (Yd (r' := .bool false) (Xn J J) (congrArg Value.bool (by rw [hok]; rfl))) J <|mv J J <|Yl (Xi (i := 2) J J J iA49 zT49 J J J J) J J J J <|gtt (Zg (n := 3) (Qp _ _ _ _) J J J K1 cF45 Zf J hw) J J J J fun _ _ => Yl (Yd (r' := .bool false) (Xn J J) (congrArg Value.bool (by rw [okR_wv hx hy hp]; rfl))) J J J J <|dt (Ya J J J) J <|mv J J <|Yl (Xi (i := 3) J J J iA49 zT49 J J J J) J J J J <|gtt (Zg (n := 3) (Qp _ _ _ _) J J J K1 cF45 Zf J hw) J J J J fun _ _ => Yl (Yd (r' := .bool false) (Xn J J) (congrArg Value.bool (by rw [okR_wv hx2 hy2 hp2]; rfl))) J J J J <|dt (Ya J J J) J <|Zc <|Za <|Yn J <|Zk <|Za <|Zb <|Zb <|Xg (fun _ => False) [(0, 0), (1, 0), (2, 0), (3, 0), (4, 0), (6, 0), (5, 1), (7, 1), (8, 1), (9, 0), (10, 0)] (by kernel_rfl) ?_ ?_
 ·kernel_rfl
 refine r0' J J J J (st0 (Zx J J)) <|r0' J J J J (st0 (Zv J J (i := 1) J Zi uT23)) <|r0' J J J J (st0 (Yd (r' := .bool false) (Xy J J J) (congrArg Value.bool (decide_eq_false (by omega))))) <|r0' J J J J (st0 (Zx J J)) <|r0g (st0 (Xi (i := 2) J J J iA49 zT49 J J J J)) J J J J J J J <|r0g (st0 (Xi (i := 3) J J J iA49 zT49 J J J J)) J J J J J J J <|r1g' J J J J J (Zg (n := 4) (r_fromratio x y (by omega) (by omega)) J J J K1 cF32 Zf J hw) fun g _ => r1g' J J J J J (Zg (n := 6) (r_fromratio x2 y2 (by omega) (by omega)) J J J K1 cF32 Zf J hw) fun g_2 _ => r1g' J J J J J (Zg (n := 7) (r_compareq _ _ _ _ x y x2 y2 (by omega) (by omega) (by omega) (by omega)) J J J K2 cF46 (Ze 4 J J J (Ze 5 J J J (Ze 6 J J J (Ze 7 J J J Zf)))) J hw) fun _ _ => r0g (st0 (Xc J J J)) J J J J J J J <|r0' J J J J (st0 (Ya J J J)) <|Xq <|Za <|Zp J (fun h85 => ?_) (fun h85 => ?_)
 ·exact Zb <|Zd <|Zl J J <|Zc <|Za <|Zr <|Yt <|Zs (.inl J) hsc () _ (fun a w hs => Yr hs Tryz.results21 J) (by rw [firstE_3 hok (by first | (left; omega) | (right; assumption))]) trivial J Zj
 ·exact Zk <|Za <|Zb <|Zd <|Zl J J <|Zc <|Za <|Zr <|Zs (.inl J) hsc () _ (fun a w hs => Yr hs Tryz.results21 J) (by rw [firstE_0 hok h0 (by assumption)]) trivial J Zj
end Go.Sky
namespace Go.Sky
open Go.Proofs
set_option maxRecDepth 20000
set_option maxHeartbeats 4000000
set_option linter.unusedVariables false
set_option linter.unusedSimpArgs false
end Go.Sky
namespace Go.Sky
set_option linter.unusedVariables false
theorem chg1_r {n l x : Int} (h1 : -1 ≤ l) (h2 : l ≤ 1) (h3 : -1 ≤ x) (h4 : x ≤ 1) : chg1 (n, l) x = (if x * l < 0 then n + 1 else n, if x ≠ 0 then x else l) := by
  obtain rfl | rfl | rfl : l = -1 ∨ l = 0 ∨ l = 1 := by omega
  all_goals obtain rfl | rfl | rfl : x = -1 ∨ x = 0 ∨ x = 1 := by omega
  all_goals simp [chg1]
theorem r3s_1 {n l x : Int} (h1 : -1 ≤ l) (h2 : l ≤ 1) (h3 : -1 ≤ x) (h4 : x ≤ 1) (ha : x * l < 0) (hb : x ≠ 0) : chg1 (n, l) x = (n + 1, x) := by rw [chg1_r h1 h2 h3 h4, if_pos ha, if_pos hb]
theorem r3s_2 {n l x : Int} (h1 : -1 ≤ l) (h2 : l ≤ 1) (h3 : -1 ≤ x) (h4 : x ≤ 1) (ha : x * l < 0) (hb : ¬ x ≠ 0) : chg1 (n, l) x = (n + 1, l) := by rw [chg1_r h1 h2 h3 h4, if_pos ha, if_neg hb]
theorem r3s_3 {n l x : Int} (h1 : -1 ≤ l) (h2 : l ≤ 1) (h3 : -1 ≤ x) (h4 : x ≤ 1) (ha : ¬ x * l < 0) (hb : x ≠ 0) : chg1 (n, l) x = (n, x) := by rw [chg1_r h1 h2 h3 h4, if_neg ha, if_pos hb]
theorem r3s_4 {n l x : Int} (h1 : -1 ≤ l) (h2 : l ≤ 1) (h3 : -1 ≤ x) (h4 : x ≤ 1) (ha : ¬ x * l < 0) (hb : ¬ x ≠ 0) : chg1 (n, l) x = (n, l) := by rw [chg1_r h1 h2 h3 h4, if_neg ha, if_neg hb]
theorem take_fold {l : List Int} {i : Nat} {n m : Int} (hi : i < l.length) (h : (n, m) = (l.take i).foldl chg1 (0, 0)) : (l.take (i + 1)).foldl chg1 (0, 0) = chg1 (n, m) (l.getD i 0) := by
  rw [take_snoc 0 l i hi, foldl_snoc, h]
theorem mul_r {x m : Int} (h3 : -1 ≤ x) (h4 : x ≤ 1) (h1 : -1 ≤ m) (h2 : m ≤ 1) : -9223372036854775808 ≤ x * m ∧ x * m ≤ 9223372036854775807 := by
  obtain rfl | rfl | rfl : m = -1 ∨ m = 0 ∨ m = 1 := by omega
  all_goals obtain rfl | rfl | rfl : x = -1 ∨ x = 0 ∨ x = 1 := by omega
  all_goals decide
theorem ev_b {p : List Int} {x y : Int} (hs : Sz 1000000 p) (hl : p.length ≤ 30) (hx : bl x.natAbs ≤ 1000000) (hy : bl y.natAbs ≤ 1000000) : bl (pev p x y).natAbs ≤ 100000010 :=
  bl_sumn (fun t _ => ev_tb hs (fun k => sz_ipow hx k) (fun k => sz_ipow hy k) hl t) (by omega)
theorem intsT_map {z : List (SL × List (Int × SL))} {L : List (List Int)} (h : intsT z = L) (f : List Int → Int) {i : Nat} (hi : i < z.length) : (L.map f).getD i 0 = f (ints (z.getD i T0).2) := by
  subst h
  simp only [List.getD_eq_getElem?_getD, List.getElem?_map, List.getElem?_eq_getElem hi]
  rfl
end Go.Sky
namespace Go.Sky
open Go.Proofs
set_option maxRecDepth 20000
set_option maxHeartbeats 4000000
set_option linter.unusedVariables false
set_option linter.unusedSimpArgs false
theorem r3_signs (v : Value) (l : List Int) (hl : ∀ i, -1 ≤ l.getD i 0 ∧ l.getD i 0 ≤ 1) (hlen : l.length ≤ 1000) : Cal Tryz.prog 129 #[v] [slp 1 encZ v l] false (G := Unit) (fun _ => True) (fun _ => .int .i64 (chg l)) (fun _ => []) := by
 refine Yb Tryz.func129 J Tryz.ntmps129 J K1 ?_
 intro w0 sc hw hsc
 simp only [Zn, Zm]
 refine Zb <|Zd <|Zl J J <|Zc <|Za <|Zb <|Zd <|Zl J J <|Zl J J <|Zc <|Za <|Zb <|Zb <|Zd <|Zl J J <|Zc <|Za <|Zo <|Xw [(0, _)] [(0, _), (1, _)] (fun (q : Nat × Int × Int) => [(5, .int .i64 (q.1 : Int)), (3, .int .i64 q.2.1), (4, .int .i64 q.2.2)]) (fun (q : Nat × Int × Int) => []) (fun (q : Nat × Int × Int) => (q.1 ≤ l.length) ∧ ((q.2.1, q.2.2) = (l.take q.1).foldl chg1 (0, 0)) ∧ (0 ≤ q.2.1) ∧ (q.2.1 ≤ (q.1 : Int)) ∧ (-1 ≤ q.2.2) ∧ (q.2.2 ≤ 1)) (fun (q : Nat × Int × Int) => l.length - q.1) (0, 0, 0) ⟨by first | omega | (dsimp only <;> omega), by simp, Int.le_refl _, Int.le_refl _, by decide, by decide⟩ K4 K2 ?_
 rintro ⟨i, n, m⟩ ⟨hi, hc, hn0, hn1, hm0, hm1⟩
 dsimp only at hi hc hn0 hn1 hm0 hm1
 simp only [List.cons_append, List.nil_append]
 have hx := hl i
 refine Zb <|Zb <|Zd <|mv J J <|mv J J <|dt (Zv J J (i := 1) J Zi uT37) J <|dt (Xb J J J) J <|Zc <|Za <|Zp J (fun h74 => ?_) (fun h74 => ?_)
 ·refine Zk <|Za <|Zb <|Zo <|Zb <|Zb <|Zd <|mv J J <|mv J J <|dt (Yh (ii := 1) J J J J Zi uT37 zT3 J (by first | omega | (simp only [List.length_set]; omega))) J <|dt (Yu (ii := 1) 0 J J J Zi pZ (by first | omega | (simp only [List.length_set]; omega))) J <|mv J J <|dt (d_mul J J J (mul_r hx.1 hx.2 hm0 hm1)) J <|dt (Xb J J J) J <|Zc <|Za <|Zp J (fun h75 => ?_) (fun h75 => ?_)
  ·refine Zd <|mv J J <|dt (Yj J J J ⟨by omega, by omega⟩) J <|Zl J J <|Zc <|Za <|Zb <|Zd <|mv J J <|mv J J <|dt (Yh (ii := 1) J J J J Zi uT37 zT3 J (by first | omega | (simp only [List.length_set]; omega))) J <|dt (Yu (ii := 1) 0 J J J Zi pZ (by first | omega | (simp only [List.length_set]; omega))) J <|dt (Xf J J J) J <|Zc <|Za <|Zp J (fun h78 => ?_) (fun h78 => ?_)
   ·refine Zd <|mv J J <|mv J J <|dt (Yh (ii := 1) J J J J Zi uT37 zT3 J (by first | omega | (simp only [List.length_set]; omega))) J <|dt (Yu (ii := 1) 0 J J J Zi pZ (by first | omega | (simp only [List.length_set]; omega))) J <|Zl J J <|Zc <|Xm <|Za <|Zd <|mv J J <|dt (Yj J J J ⟨by omega, by omega⟩) J <|Zl J J <|Zc ?_
    have hst := take_fold (l := l) (i := i) (by omega) hc
    exact Yy (i + 1, _, _) ⟨by first | omega | (dsimp only <;> omega), by dsimp only; rw [hst]; first | exact (r3s_1 hm0 hm1 hx.1 hx.2 (by assumption) (by assumption)).symm | exact (r3s_2 hm0 hm1 hx.1 hx.2 (by assumption) (by assumption)).symm | exact (r3s_3 hm0 hm1 hx.1 hx.2 (by assumption) (by assumption)).symm | exact (r3s_4 hm0 hm1 hx.1 hx.2 (by assumption) (by assumption)).symm, by dsimp only; omega, by dsimp only; omega, by first | exact hx.1 | exact hm0, by first | exact hx.2 | exact hm1⟩ (by first | omega | (dsimp only <;> omega)) K4 K2
   ·refine Zk <|Xm <|Za <|Zd <|mv J J <|dt (Yj J J J ⟨by omega, by omega⟩) J <|Zl J J <|Zc ?_
    have hst := take_fold (l := l) (i := i) (by omega) hc
    exact Yy (i + 1, _, _) ⟨by first | omega | (dsimp only <;> omega), by dsimp only; rw [hst]; first | exact (r3s_1 hm0 hm1 hx.1 hx.2 (by assumption) (by assumption)).symm | exact (r3s_2 hm0 hm1 hx.1 hx.2 (by assumption) (by assumption)).symm | exact (r3s_3 hm0 hm1 hx.1 hx.2 (by assumption) (by assumption)).symm | exact (r3s_4 hm0 hm1 hx.1 hx.2 (by assumption) (by assumption)).symm, by dsimp only; omega, by dsimp only; omega, by first | exact hx.1 | exact hm0, by first | exact hx.2 | exact hm1⟩ (by first | omega | (dsimp only <;> omega)) K4 K2
  ·refine Zk <|Za <|Zb <|Zd <|mv J J <|mv J J <|dt (Yh (ii := 1) J J J J Zi uT37 zT3 J (by first | omega | (simp only [List.length_set]; omega))) J <|dt (Yu (ii := 1) 0 J J J Zi pZ (by first | omega | (simp only [List.length_set]; omega))) J <|dt (Xf J J J) J <|Zc <|Za <|Zp J (fun h78_2 => ?_) (fun h78_2 => ?_)
   ·refine Zd <|mv J J <|mv J J <|dt (Yh (ii := 1) J J J J Zi uT37 zT3 J (by first | omega | (simp only [List.length_set]; omega))) J <|dt (Yu (ii := 1) 0 J J J Zi pZ (by first | omega | (simp only [List.length_set]; omega))) J <|Zl J J <|Zc <|Xm <|Za <|Zd <|mv J J <|dt (Yj J J J ⟨by omega, by omega⟩) J <|Zl J J <|Zc ?_
    have hst := take_fold (l := l) (i := i) (by omega) hc
    exact Yy (i + 1, _, _) ⟨by first | omega | (dsimp only <;> omega), by dsimp only; rw [hst]; first | exact (r3s_1 hm0 hm1 hx.1 hx.2 (by assumption) (by assumption)).symm | exact (r3s_2 hm0 hm1 hx.1 hx.2 (by assumption) (by assumption)).symm | exact (r3s_3 hm0 hm1 hx.1 hx.2 (by assumption) (by assumption)).symm | exact (r3s_4 hm0 hm1 hx.1 hx.2 (by assumption) (by assumption)).symm, by dsimp only; omega, by dsimp only; omega, by first | exact hx.1 | exact hm0, by first | exact hx.2 | exact hm1⟩ (by first | omega | (dsimp only <;> omega)) K4 K2
   ·refine Zk <|Xm <|Za <|Zd <|mv J J <|dt (Yj J J J ⟨by omega, by omega⟩) J <|Zl J J <|Zc ?_
    have hst := take_fold (l := l) (i := i) (by omega) hc
    exact Yy (i + 1, _, _) ⟨by first | omega | (dsimp only <;> omega), by dsimp only; rw [hst]; first | exact (r3s_1 hm0 hm1 hx.1 hx.2 (by assumption) (by assumption)).symm | exact (r3s_2 hm0 hm1 hx.1 hx.2 (by assumption) (by assumption)).symm | exact (r3s_3 hm0 hm1 hx.1 hx.2 (by assumption) (by assumption)).symm | exact (r3s_4 hm0 hm1 hx.1 hx.2 (by assumption) (by assumption)).symm, by dsimp only; omega, by dsimp only; omega, by first | exact hx.1 | exact hm0, by first | exact hx.2 | exact hm1⟩ (by first | omega | (dsimp only <;> omega)) K4 K2
 ·exact Ys <|Zu <|Zu <|Xs <|Za <|Zb <|Zd <|mv J J <|Zl J J <|Zc <|Za <|Zr <|Zs (.inl J) hsc () _ (fun a w hs => Yr hs Tryz.results129 J) (by unfold chg; rw [show l = l.take i by rw [List.take_of_length_le (by omega)], ← hc] <;> rfl) trivial J Zj
theorem r3_at (v w u : Value) (ls : List (SL × List (Int × SL))) (x y : Int) (hz : ∀ z ∈ ls, Vp (ints z.2)) (hx : bl x.natAbs ≤ 1000000) (hy : bl y.natAbs ≤ 1000000) (hlen : ls.length ≤ 30) : Cal Tryz.prog 82 #[v, .agg #[.bool (decide (x < 0)), w, .bool (decide (y < 0)), u]] [deep 1 encS qT v ls, d9p w x.natAbs, d9p u y.natAbs] false (G := Unit) (fun _ => True) (fun _ => .int .i64 (chg ((intsT ls).map (fat x y)))) (fun _ => []) := by
 refine Yb Tryz.func82 J Tryz.ntmps82 J K3 ?_
 intro w0 sc hw hsc
 simp only [Zn, Zm]
 have hLl : ((intsT ls).map (fat x y)).length = ls.length := by simp
 have hLg := fun i (h : i < ls.length) => intsT_map (z := ls) rfl (fat x y) h
 refine Zb <|Zd <|tt (Ym (i := 4) J J J J J J hw) J fun b _ => Zl J J <|Zc <|Za <|Zb <|Zd <|Zl J J <|Zc <|Za <|Zb <|Zb <|Zd <|Zl J J <|Zc <|Za <|Zo <|Ye (Qb 70 1 3 encZ) <|Xw [(0, _), (3, _)] [(0, _), (1, _), (2, _), (3, _), (4, _)] (fun (q : Nat × Value) => [(6, .int .i64 (q.1 : Int)), (5, q.2)]) (fun (q : Nat × Value) => [(70, osl 1 3 encZ q.2 (((intsT ls).map (fat x y)).take q.1))]) (fun (q : Nat × Value) => (q.1 ≤ ls.length)) (fun (q : Nat × Value) => ls.length - q.1) (0, .slice none 0 0) (by first | omega | (dsimp only <;> omega)) K4 K6 ?_
 rintro ⟨i, vo⟩ hi
 dsimp only at hi
 simp only [List.cons_append, List.nil_append]
 have htl : (((intsT ls).map (fat x y)).take i).length = i := by rw [List.length_take]; omega
 refine Zb <|Zb <|Zd <|mv J J <|mv J J <|dt (Zv J J (i := 1) J Zz uT51) J <|dt (Xb J J J) J <|Zc <|Za <|Zp J (fun h88 => ?_) (fun h88 => ?_)
 ·refine Zk <|Za <|Zb <|Zo ?_
  have hvi := hz (ls.getD i T0) (getD_mem (by omega))
  have hvl := hvi.len
  rw [length_ints] at hvl
  refine Ye (s_deep 1 91 (ls.getD i T0) J J (getD_mem (by omega)) J) <|Qh [1, 4] [10] (by kernel_rfl) <|Yg (n := 0) [(0, 0), (1, 0), (2, 0), (3, 0), (4, 0), (5, 0), (6, 1), (7, 1), (8, 1), (9, 1), (10, 3)] (by kernel_rfl) <|r0' J J J J (stf (Zx J J) K2) <|r0' J J J J (stf (Zx J J) K2) <|r0' J J J J (stf (Zx J J) K2) <|r0' J J J J (stf (Yh (ii := 1) J J J J Zz uT51 zT33 J (by first | omega | (simp only [List.length_set]; omega))) K2) <|r0' J J J J (stf (Yu (ii := 1) T0 J J J Zz pT (by first | omega | (simp only [List.length_set]; omega))) K2) <|r0' J J J J (stf (Xi (i := 4) J J J iA63 zT63 J J J J) K2) <|r1' J J (Zg (n := 5) (rp_eval _ _ _ _ x y (hvi.sz.mono (by omega)) (by omega) hx hy) J J J K2 cF128 (Ze 91 J J J (Ze 2 J J J (Ze 3 J J J Zf))) J hw) fun v _ => r1' J J (Zg (n := 5) (r_sign _ _ (by have := ev_b (hvi.sz.mono (by omega) : Sz 1000000 _) (by have := hvi.len; omega) hx hy; omega)) J J J K1 cF61 (Ze 5 J J J Zf) J hw) fun _ _ => r1' J J (Xp (i := 6) (ivs := [(0, _)]) (enc := encZ) [(fat x y (ints (ls.getD i T0).2))] J J J K2 uT37 Tryz.ti3 J J J J J J pZ.cells J J hw) (fun v_2 _ => ?_)
  exact r1' J J (t_offr 70 J J J K2 (fun hoffr => (t_appaM (i := 70) (j := 6) (by_ := 8) J J J J J J (by decide) J (Yp pZ) uT37 Tryz.ti3 J pZ J J J (by rw [htl]; simp; omega) (by decide) J hw hoffr))) fun v_3 _ => r3' J J (Qd (Qg J J) J J) fun _ _ => Yv <|Yw (by kernel_rfl) <|Xm <|Za <|Zd <|mv J J <|dt (Yj J J J ⟨by omega, by omega⟩) J <|Zl J J <|Zc <|Yy (i + 1, _) (by first | omega | (dsimp only <;> omega)) (by first | omega | (dsimp only <;> omega)) K4 ⟨by rw [take_snoc 0 _ _ (by omega), hLg i (by omega)]; rfl, rfl, rfl, rfl, rfl, rfl, trivial⟩
 ·refine Ys <|Zu <|Zu <|Xs <|Za <|Zb <|Ye (Xl 70 J J pZ) ?_
  have htk : ((intsT ls).map (fat x y)).take i = ((intsT ls).map (fat x y)) := List.take_of_length_le (by omega)
  exact Zd <|mv J J <|tt (Zg (n := 6) (r3_signs _ _ (fun i => by rw [htk]; by_cases hi9 : i < ls.length; (rw [hLg i hi9]; exact fat_r _ _ _); (rw [show ((intsT ls).map (fat x y)).getD i 0 = 0 from cf_ge (by omega)]; decide)) (by omega)) J J J K1 cF129 (Ze 70 J J J Zf) J hw) J fun _ _ => Zl J J <|Zc <|Za <|Zr <|Zs (.inl J) hsc () _ (fun a w hs => Yr hs Tryz.results82 J) (by rw [htk]) trivial J Zj
end Go.Sky
namespace Go.Sky
set_option linter.unusedVariables false
def chke : Nat → Nat → Nat → Nat → Nat → Bool
  | 0, la, _, A, _ => Nat.ble (A + la * 64) 65500
  | f + 1, la, lb, A, B => Nat.ble (A + la * 64) 65500 && (Nat.beq lb 0 || (List.range lb).all fun l => chke f lb l B (bif Nat.ble l 1 then 2 else A + (la - lb + 1) * B))
end Go.Sky
namespace Go.Sky
set_option linter.unusedVariables false
inductive SV : List Int → List Int → Prop
  | one (a : Int) : SV [a] [a]
  | step (a : Int) (r t : List Int) : SV r t → SV (a :: r) (a :: t)
  | skip (a u w : Int) (r t : List Int) : (a = 1 ∨ a = -1) → (-1 ≤ u ∧ u ≤ 1) → (-1 ≤ w ∧ w ≤ 1) → SV (-a :: r) (-a :: t) → SV (a :: u :: -a :: r) (a :: w :: -a :: t)
theorem chg1_skip {s : Int × Int} {a u : Int} (ha : a = 1 ∨ a = -1) (hu : -1 ≤ u ∧ u ≤ 1) : chg1 (chg1 (chg1 s a) u) (-a) = chg1 (chg1 s a) (-a) := by
  obtain ⟨n, l⟩ := s
  have h3 : u = -1 ∨ u = 0 ∨ u = 1 := by omega
  rcases ha with rfl | rfl <;> rcases h3 with rfl | rfl | rfl <;> simp [chg1]
theorem SV.fold {a b : List Int} (h : SV a b) : ∀ s, a.foldl chg1 s = b.foldl chg1 s := by
  induction h with
  | one a => intro s; rfl
  | step a r t _ ih => intro s; exact ih (chg1 s a)
  | skip a u w r t ha hu hw _ ih =>
    intro s
    show (r.foldl chg1 (chg1 (chg1 (chg1 s a) u) (-a))) = (t.foldl chg1 (chg1 (chg1 (chg1 s a) w) (-a)))
    rw [chg1_skip ha hu, chg1_skip ha hw]
    exact ih (chg1 s a)
theorem SV.chg {a b : List Int} (h : SV a b) : chg a = chg b := congrArg Prod.fst (h.fold (0, 0))
def rsg (x : Rat) : Int := if x < 0 then -1 else if x = 0 then 0 else 1
theorem rsg_r (x : Rat) : -1 ≤ rsg x ∧ rsg x ≤ 1 := by unfold rsg; split; decide; split <;> decide
theorem rsg_pos {x : Rat} (h : 0 < x) : rsg x = 1 := by unfold rsg; rw [if_neg (by grind), if_neg (by grind)]
theorem rsg_neg {x : Rat} (h : x < 0) : rsg x = -1 := by unfold rsg; rw [if_pos h]
def Big (η x : Rat) (f : Rat → Rat) : Prop := η < f x ∨ f x < -η
def Tri (η x : Rat) : (Rat → Rat) → List (Rat → Rat) → Prop
  | _, [] => True
  | _, [g] => Big η x g
  | f, g :: k :: r => (Big η x g ∧ Tri η x g (k :: r)) ∨ (Big η x k ∧ f x * k x < 0 ∧ Tri η x k r)
def Near (η x y : Rat) (f : Rat → Rat) : Prop := f x - f y ≤ η ∧ f y - f x ≤ η
theorem big_sg {η x y : Rat} {f : Rat → Rat} (h0 : 0 ≤ η) (h : Big η x f) (hn : Near η x y f) : rsg (f x) = rsg (f y) ∧ (rsg (f x) = 1 ∨ rsg (f x) = -1) := by
  obtain ⟨h1, h2⟩ := hn
  rcases h with h | h
  · rw [rsg_pos (by grind), rsg_pos (by grind)]; exact ⟨rfl, .inl rfl⟩
  · rw [rsg_neg (by grind), rsg_neg (by grind)]; exact ⟨rfl, .inr rfl⟩
theorem opp_sg {a b : Rat} (h : a * b < 0) : rsg b = - rsg a := by
  rcases (show a < 0 ∨ a = 0 ∨ 0 < a by grind) with h1 | h1 | h1
  · rw [rsg_neg h1, rsg_pos (by
      rcases (show b ≤ 0 ∨ 0 < b by grind) with h2 | h2
      · have := Rat.mul_nonneg (a := -a) (b := -b) (by grind) (by grind); grind
      · exact h2)]; rfl
  · subst h1; grind
  · rw [rsg_pos h1, rsg_neg (by
      rcases (show 0 ≤ b ∨ b < 0 by grind) with h2 | h2
      · have := Rat.mul_nonneg (a := a) (b := b) (by grind) h2; grind
      · exact h2)]
end Go.Sky
namespace Go.Sky
set_option linter.unusedVariables false
theorem tri_sv {η x y : Rat} (h0 : 0 ≤ η) : ∀ (n : Nat) (f : Rat → Rat) (fs : List (Rat → Rat)), fs.length ≤ n → Big η x f → (∀ g ∈ f :: fs, Near η x y g) → Tri η x f fs →
    SV ((f :: fs).map fun g => rsg (g x)) ((f :: fs).map fun g => rsg (g y))
  | _, f, [], _, hb, hn, _ => by
    have := (big_sg h0 hb (hn f (List.mem_cons_self ..))).1
    simp only [List.map_cons, List.map_nil, this]
    exact SV.one _
  | 0, f, g :: r, hl, _, _, _ => absurd hl (by simp)
  | n + 1, f, [g], hl, hb, hn, ht => by
    have h1 := (big_sg h0 hb (hn f (List.mem_cons_self ..))).1
    have h2 := tri_sv h0 n g [] (by simp) ht (fun k hk => hn k (List.mem_cons_of_mem _ hk)) trivial
    rw [List.map_cons, List.map_cons, h1]
    exact SV.step _ _ _ h2
  | n + 1, f, g :: k :: r, hl, hb, hn, ht => by
    have h1 := big_sg h0 hb (hn f (List.mem_cons_self ..))
    rcases ht with ⟨hg, ht⟩ | ⟨hk, ho, ht⟩
    · have h2 := tri_sv h0 n g (k :: r) (by simp at hl ⊢; omega) hg (fun k hk => hn k (List.mem_cons_of_mem _ hk)) ht
      rw [List.map_cons (l := g :: k :: r), List.map_cons (l := g :: k :: r), h1.1]
      exact SV.step _ _ _ h2
    · have h2 := tri_sv h0 n k r (by simp at hl ⊢; omega) hk (fun j hj => hn j (List.mem_cons_of_mem _ (List.mem_cons_of_mem _ hj))) ht
      have h3 := (big_sg h0 hk (hn k (by simp))).1
      have h4 := opp_sg ho
      rw [List.map_cons (l := r), List.map_cons (l := r)] at h2
      simp only [List.map_cons]
      rw [← h3] at h2 ⊢
      rw [h4] at h2 ⊢
      rw [← h1.1]
      exact SV.skip _ _ _ _ _ h1.2 (rsg_r _) (rsg_r _) h2
structure Lnk (η x : Rat) (f g k : Rat → Rat) : Prop where
  big : ¬ Big η x g → Big η x k
  opp : ¬ Big η x g → f x * k x < 0
def Lnks (η x : Rat) : (Rat → Rat) → List (Rat → Rat) → Prop
  | _, [] => True
  | _, [g] => Big η x g
  | f, g :: k :: r => Lnk η x f g k ∧ Lnks η x g (k :: r)
theorem lnks_tri {η x : Rat} : ∀ (n : Nat) (f : Rat → Rat) (fs : List (Rat → Rat)), fs.length ≤ n → Lnks η x f fs → Tri η x f fs
  | _, f, [], _, _ => trivial
  | 0, f, g :: r, hl, _ => absurd hl (by simp)
  | n + 1, f, [g], _, h => h
  | n + 1, f, [g, k], hl, h => by
    by_cases hg : Big η x g
    · exact .inl ⟨hg, h.2⟩
    · exact .inr ⟨h.1.big hg, h.1.opp hg, trivial⟩
  | n + 1, f, g :: k :: j :: r, hl, h => by
    by_cases hg : Big η x g
    · exact .inl ⟨hg, lnks_tri n g (k :: j :: r) (by simp at hl ⊢; omega) h.2⟩
    · exact .inr ⟨h.1.big hg, h.1.opp hg, lnks_tri n k (j :: r) (by simp at hl ⊢; omega) h.2.2⟩
end Go.Sky
namespace Go.Sky
set_option linter.unusedVariables false
def Rl3 (s t : Rat) (f g k : Rat → Rat) : Prop := ∃ m n Q : Rat, 0 < m ∧ 0 < n ∧ 0 < Q ∧ ∀ x, s ≤ x → x ≤ t → ∃ q, -Q ≤ q ∧ q ≤ Q ∧ m * f x = q * g x - n * k x
def Rl2 (s t : Rat) (f g : Rat → Rat) : Prop := ∃ m Q : Rat, 0 < m ∧ 0 < Q ∧ ∀ x, s ≤ x → x ≤ t → ∃ q, -Q ≤ q ∧ q ≤ Q ∧ m * f x = q * g x
def Rls (s t : Rat) : (Rat → Rat) → List (Rat → Rat) → Prop
  | _, [] => True
  | f, [g] => Rl2 s t f g
  | f, g :: k :: r => Rl3 s t f g k ∧ Rls s t g (k :: r)
theorem qg_le {q Q g e : Rat} (h1 : -Q ≤ q) (h2 : q ≤ Q) (h3 : -e ≤ g) (h4 : g ≤ e) (hQ : 0 ≤ Q) : q * g ≤ Q * e ∧ -(Q * e) ≤ q * g := by
  have a := Rat.mul_nonneg (a := Q - q) (b := e + g) (by grind) (by grind)
  have b := Rat.mul_nonneg (a := Q + q) (b := e - g) (by grind) (by grind)
  have c := Rat.mul_nonneg (a := Q - q) (b := e - g) (by grind) (by grind)
  have d := Rat.mul_nonneg (a := Q + q) (b := e + g) (by grind) (by grind)
  constructor <;> grind
theorem not_big {η x : Rat} {g : Rat → Rat} (h : ¬ Big η x g) : -η ≤ g x ∧ g x ≤ η := by
  unfold Big at h; constructor <;> grind
theorem big_le {η ε x : Rat} {g : Rat → Rat} (h : η ≤ ε) (hb : Big ε x g) : Big η x g := by
  unfold Big at *; grind
theorem ex_small {ε a b : Rat} (h : 0 < ε) (ha : 0 < a) (hb : 0 < b) : ∃ e : Rat, 0 < e ∧ e ≤ ε ∧ e * a ≤ b := by
  have h1 : 0 < b * a⁻¹ := Rat.mul_pos hb (Rat.inv_pos.2 ha)
  have h2 : b * a⁻¹ * a = b := by grind
  rcases (show ε ≤ b * a⁻¹ ∨ b * a⁻¹ ≤ ε by grind) with h3 | h3
  · exact ⟨ε, h, by grind, by have := Rat.mul_le_mul_of_nonneg_right h3 (show 0 ≤ a by grind); grind⟩
  · exact ⟨b * a⁻¹, h1, h3, by grind⟩
theorem pair3 {s t ε : Rat} {f g k : Rat → Rat} (h : Rl3 s t f g k) (he : 0 < ε) (hp : ∀ x, s ≤ x → x ≤ t → Big ε x f ∨ Big ε x g) :
    ∃ e, 0 < e ∧ (∀ x, s ≤ x → x ≤ t → Big e x g ∨ Big e x k) ∧ ∀ η, 0 < η → η ≤ e → ∀ x, s ≤ x → x ≤ t → Lnk η x f g k := by
  obtain ⟨m, n, Q, hm, hn, hQ, hr⟩ := h
  obtain ⟨e, e1, e2, e3⟩ := ex_small he (show 0 < Q + n by grind) (Rat.mul_pos hm he)
  have key : ∀ η, 0 < η → η ≤ e → ∀ x, s ≤ x → x ≤ t → ¬ Big η x g → Big η x k ∧ f x * k x < 0 := fun η h1 h2 x hs ht hg => by
    obtain ⟨q, q1, q2, q3⟩ := hr x hs ht
    obtain ⟨g1, g2⟩ := not_big hg
    obtain ⟨p1, p2⟩ := qg_le q1 q2 g1 g2 (by grind)
    have hf : Big ε x f := (hp x hs ht).resolve_right fun h => hg (big_le (by grind) h)
    have c1 : η * (Q + n) ≤ m * ε := by
      have := Rat.mul_le_mul_of_nonneg_right h2 (show 0 ≤ Q + n by grind); grind
    have c2 : 0 < η * n := Rat.mul_pos h1 hn
    rcases hf with hf | hf
    · have d1 : m * ε < m * f x := by have := Rat.mul_pos hm (show 0 < f x - ε by grind); grind
      have d2 : n * k x < - (n * η) := by grind
      have d3 : k x < -η := by
        rcases (show k x < -η ∨ -η ≤ k x by grind) with h9 | h9
        · exact h9
        · have := Rat.mul_nonneg (a := n) (b := k x + η) (by grind) (by grind); grind
      refine ⟨.inr d3, ?_⟩
      have := Rat.mul_pos (a := f x) (b := - k x) (by grind) (by grind); grind
    · have d1 : m * f x < - (m * ε) := by have := Rat.mul_pos hm (show 0 < -ε - f x by grind); grind
      have d2 : n * η < n * k x := by grind
      have d3 : η < k x := by
        rcases (show η < k x ∨ k x ≤ η by grind) with h9 | h9
        · exact h9
        · have := Rat.mul_nonneg (a := n) (b := η - k x) (by grind) (by grind); grind
      refine ⟨.inl d3, ?_⟩
      have := Rat.mul_pos (a := - f x) (b := k x) (by grind) (by grind); grind
  refine ⟨e, e1, fun x hs ht => ?_, fun η h1 h2 x hs ht => ⟨fun hg => (key η h1 h2 x hs ht hg).1, fun hg => (key η h1 h2 x hs ht hg).2⟩⟩
  by_cases hg : Big e x g
  · exact .inl hg
  · exact .inr (key e e1 (by grind) x hs ht hg).1
theorem pair2 {s t ε : Rat} {f g : Rat → Rat} (h : Rl2 s t f g) (he : 0 < ε) (hp : ∀ x, s ≤ x → x ≤ t → Big ε x f ∨ Big ε x g) :
    ∃ e, 0 < e ∧ ∀ η, 0 < η → η ≤ e → ∀ x, s ≤ x → x ≤ t → Big η x g := by
  obtain ⟨m, Q, hm, hQ, hr⟩ := h
  obtain ⟨e, e1, e2, e3⟩ := ex_small he hQ (Rat.mul_pos hm he)
  refine ⟨e, e1, fun η h1 h2 x hs ht => ?_⟩
  by_cases hg : Big η x g
  · exact hg
  · exfalso
    obtain ⟨q, q1, q2, q3⟩ := hr x hs ht
    obtain ⟨g1, g2⟩ := not_big hg
    obtain ⟨p1, p2⟩ := qg_le q1 q2 g1 g2 (by grind)
    have hf : Big ε x f := (hp x hs ht).resolve_right fun h => hg (big_le (by grind) h)
    have c1 : η * Q ≤ m * ε := by
      have := Rat.mul_le_mul_of_nonneg_right h2 (show 0 ≤ Q by grind); grind
    rcases hf with hf | hf
    · have := Rat.mul_pos hm (show 0 < f x - ε by grind); grind
    · have := Rat.mul_pos hm (show 0 < -ε - f x by grind); grind
theorem lnks_all {s t : Rat} : ∀ (n : Nat) (f : Rat → Rat) (fs : List (Rat → Rat)) (ε : Rat), fs.length ≤ n → Rls s t f fs → 0 < ε → (∀ g r, fs = g :: r → ∀ x, s ≤ x → x ≤ t → Big ε x f ∨ Big ε x g) →
    ∃ e, 0 < e ∧ ∀ η, 0 < η → η ≤ e → ∀ x, s ≤ x → x ≤ t → Lnks η x f fs
  | _, f, [], ε, _, _, he, _ => ⟨ε, he, fun _ _ _ _ _ _ => trivial⟩
  | 0, f, g :: r, ε, hl, _, _, _ => absurd hl (by simp)
  | n + 1, f, [g], ε, _, h, he, hp => pair2 h he (hp g [] rfl)
  | n + 1, f, g :: k :: r, ε, hl, h, he, hp => by
    obtain ⟨e, e1, e2, e3⟩ := pair3 h.1 he (hp g (k :: r) rfl)
    obtain ⟨e', e1', e2'⟩ := lnks_all n g (k :: r) e (by simp at hl ⊢; omega) h.2 e1 (fun k' r' heq => by
      injection heq with h1 h2; subst h1; exact e2)
    rcases (show e ≤ e' ∨ e' ≤ e by grind) with h9 | h9
    · exact ⟨e, e1, fun η h1 h2 x hs ht => ⟨e3 η h1 h2 x hs ht, e2' η h1 (by grind) x hs ht⟩⟩
    · exact ⟨e', e1', fun η h1 h2 x hs ht => ⟨e3 η h1 (by grind) x hs ht, e2' η h1 h2 x hs ht⟩⟩
def Lip (s t L : Rat) (f : Rat → Rat) : Prop := ∀ x y, s ≤ x → x ≤ y → y ≤ t → f x - f y ≤ L * (y - x) ∧ f y - f x ≤ L * (y - x)
def vat (fs : List (Rat → Rat)) (x : Rat) : Int := chg (fs.map fun g => rsg (g x))
theorem step_eq {s t L δ : Rat} {f : Rat → Rat} {fs : List (Rat → Rat)} (hL : 0 < L) (hl : ∀ g ∈ f :: fs, Lip s t L g) (hd : 0 < δ) (hb : ∀ x, s ≤ x → x ≤ t → Big δ x f) (hr : Rls s t f fs) :
    ∃ h, 0 < h ∧ ∀ x y, s ≤ x → x ≤ y → y ≤ t → y - x ≤ h → vat (f :: fs) x = vat (f :: fs) y := by
  obtain ⟨e, e1, e2⟩ := lnks_all fs.length f fs δ (Nat.le_refl _) hr hd (fun g r _ x hs ht => .inl (hb x hs ht))
  obtain ⟨η, n1, n2, n3⟩ := ex_small hd (show (0 : Rat) < 1 by decide) e1
  obtain ⟨h, h1, h2, h3⟩ := ex_small n1 hL n1
  refine ⟨h, h1, fun x y hx hxy hy hh => SV.chg ?_⟩
  refine tri_sv (by grind) fs.length f fs (Nat.le_refl _) (big_le (by grind) (hb x hx (by grind))) (fun g hg => ?_) (lnks_tri _ _ _ (Nat.le_refl _) (e2 η n1 (by grind) x hx (by grind)))
  obtain ⟨a, b⟩ := hl g hg x y hx hxy hy
  have := Rat.mul_le_mul_of_nonneg_right hh (show 0 ≤ L by grind)
  exact ⟨by grind, by grind⟩
end Go.Sky
namespace Go.Sky
set_option linter.unusedVariables false
theorem vat_const {s t L δ : Rat} {f : Rat → Rat} {fs : List (Rat → Rat)} (hL : 0 < L) (hl : ∀ g ∈ f :: fs, Lip s t L g) (hd : 0 < δ) (hb : ∀ x, s ≤ x → x ≤ t → Big δ x f) (hr : Rls s t f fs) (hst : s ≤ t) :
    vat (f :: fs) s = vat (f :: fs) t := by
  obtain ⟨h, h1, h2⟩ := step_eq hL hl hd hb hr
  have key : ∀ n : Nat, ∀ y, s ≤ y → y ≤ t → y - s ≤ (n : Rat) * h → vat (f :: fs) s = vat (f :: fs) y := fun n => by
    induction n with
    | zero => intro y h3 h4 h5; have : y = s := by simp at h5; grind
              rw [this]
    | succ n ih =>
      intro y h3 h4 h5
      have h6 : ((n + 1 : Nat) : Rat) * h = (n : Rat) * h + h := by push_cast; grind
      rcases (show y - s ≤ (n : Rat) * h ∨ (n : Rat) * h < y - s by grind) with h7 | h7
      · exact ih y h3 h4 h7
      · have h8 : (0 : Rat) ≤ (n : Rat) * h := Rat.mul_nonneg (by exact_mod_cast Nat.zero_le n) (by grind)
        rcases (show s ≤ y - h ∨ y - h < s by grind) with h9 | h9
        · rw [ih (y - h) h9 (by grind) (by grind)]
          exact h2 (y - h) y h9 (by grind) h4 (by grind)
        · exact h2 s y (by grind) h3 h4 (by grind)
  have h3 : ∃ n : Nat, t - s ≤ (n : Rat) * h := by
    have h4 : 0 < h⁻¹ := Rat.inv_pos.2 h1
    refine ⟨((t - s) * h⁻¹).ceil.toNat, ?_⟩
    have h5 := @Rat.le_ceil ((t - s) * h⁻¹)
    have h6 : ((((t - s) * h⁻¹).ceil : Int) : Rat) ≤ ((((t - s) * h⁻¹).ceil.toNat : Nat) : Rat) := by
      have : ((t - s) * h⁻¹).ceil ≤ ((((t - s) * h⁻¹).ceil.toNat : Nat) : Int) := Int.self_le_toNat _
      exact_mod_cast this
    have h7 := Rat.mul_le_mul_of_nonneg_right (Rat.le_trans h5 h6) (show 0 ≤ h by grind)
    have h8 : (t - s) * h⁻¹ * h = t - s := by grind
    grind
  obtain ⟨n, hn⟩ := h3
  exact key n t hst (by grind) hn
end Go.Sky
namespace Go.Sky
set_option linter.unusedVariables false
def rev : List Int → Rat → Rat
  | [], _ => 0
  | c :: p, x => (c : Rat) + x * rev p x
theorem ex_K (s t : Rat) : ∃ K : Rat, 0 < K ∧ ∀ x, s ≤ x → x ≤ t → -K ≤ x ∧ x ≤ K := by
  rcases (show (0 ≤ s ∨ s < 0) by grind) with h | h <;> rcases (show (0 ≤ t ∨ t < 0) by grind) with h' | h'
  · exact ⟨t + 1, by grind, fun x _ _ => by grind⟩
  · exact ⟨1, by grind, fun x _ _ => by grind⟩
  · exact ⟨t - s + 1, by grind, fun x _ _ => by grind⟩
  · exact ⟨-s + 1, by grind, fun x _ _ => by grind⟩
theorem rev_b (s t : Rat) : ∀ p : List Int, ∃ B : Rat, 0 < B ∧ ∀ x, s ≤ x → x ≤ t → -B ≤ rev p x ∧ rev p x ≤ B
  | [] => ⟨1, by decide, fun x _ _ => by unfold rev; grind⟩
  | c :: p => by
    obtain ⟨B, b1, b2⟩ := rev_b s t p
    obtain ⟨K, k1, k2⟩ := ex_K s t
    obtain ⟨C, c1, c2⟩ := ex_K (c : Rat) (c : Rat)
    have hc := c2 (c : Rat) (by grind) (by grind)
    refine ⟨C + K * B, by have := Rat.mul_pos k1 b1; grind, fun x hs ht => ?_⟩
    obtain ⟨d1, d2⟩ := b2 x hs ht
    obtain ⟨e1, e2⟩ := k2 x hs ht
    obtain ⟨f1, f2⟩ := qg_le e1 e2 d1 d2 (by grind)
    unfold rev
    constructor <;> grind
theorem rev_lip (s t : Rat) : ∀ p : List Int, ∃ L : Rat, 0 < L ∧ Lip s t L (rev p)
  | [] => ⟨1, by decide, fun x y _ _ _ => by unfold rev; constructor <;> grind⟩
  | c :: p => by
    obtain ⟨L, l1, l2⟩ := rev_lip s t p
    obtain ⟨B, b1, b2⟩ := rev_b s t p
    obtain ⟨K, k1, k2⟩ := ex_K s t
    refine ⟨K * L + B, by have := Rat.mul_pos k1 l1; grind, fun x y hs hxy ht => ?_⟩
    obtain ⟨a1, a2⟩ := l2 x y hs hxy ht
    obtain ⟨d1, d2⟩ := b2 y (by grind) ht
    obtain ⟨e1, e2⟩ := k2 x hs (by grind)
    obtain ⟨f1, f2⟩ := qg_le (q := x) (g := rev p x - rev p y) (e := L * (y - x)) e1 e2 (by grind) (by grind) (by grind)
    have g1 := Rat.mul_nonneg (a := B - rev p y) (b := y - x) (by grind) (by grind)
    have g2 := Rat.mul_nonneg (a := B + rev p y) (b := y - x) (by grind) (by grind)
    unfold rev
    constructor <;> grind
end Go.Sky
namespace Go.Sky
set_option linter.unusedVariables false
theorem rev_zero (x : Rat) : ∀ q : List Int, (∀ i, cf q i = 0) → rev q x = 0
  | [], _ => rfl
  | c :: q, h => by
    have h0 : c = 0 := h 0
    have h1 := rev_zero x q fun i => h (i + 1)
    unfold rev; rw [h1, h0]; grind
theorem rev_ext (x : Rat) : ∀ p q : List Int, (∀ i, cf p i = cf q i) → rev p x = rev q x
  | [], q, h => by rw [rev_zero x q fun i => (h i).symm.trans (cf_ge (Nat.zero_le _))]; rfl
  | c :: p, [], h => by rw [rev_zero x (c :: p) fun i => (h i).trans (cf_ge (Nat.zero_le _))]; rfl
  | c :: p, d :: q, h => by
    have h0 : c = d := h 0
    have h1 := rev_ext x p q fun i => h (i + 1)
    unfold rev; rw [h1, h0]
def ladd : List Int → List Int → List Int
  | [], q => q
  | p, [] => p
  | a :: p, b :: q => (a + b) :: ladd p q
theorem ladd_nil (p : List Int) : ladd p [] = p := by cases p <;> rfl
theorem rev_ladd (x : Rat) : ∀ p q : List Int, rev (ladd p q) x = rev p x + rev q x
  | [], q => by unfold ladd; show rev q x = 0 + rev q x; grind
  | a :: p, [] => by rw [ladd_nil]; show rev (a :: p) x = rev (a :: p) x + 0; grind
  | a :: p, b :: q => by
    have h := rev_ladd x p q
    unfold ladd rev; rw [h]; push_cast; grind
theorem cf_ladd : ∀ (p q : List Int) (i : Nat), cf (ladd p q) i = cf p i + cf q i
  | [], q, i => by unfold ladd; rw [show cf [] i = 0 from cf_ge (Nat.zero_le _)]; omega
  | a :: p, [], i => by rw [ladd_nil, show cf [] i = 0 from cf_ge (Nat.zero_le _)]; omega
  | a :: p, b :: q, 0 => rfl
  | a :: p, b :: q, i + 1 => cf_ladd p q i
theorem rev_smul (x : Rat) (c : Int) : ∀ p : List Int, rev (p.map fun a => c * a) x = (c : Rat) * rev p x
  | [] => by show (0 : Rat) = c * 0; grind
  | a :: p => by
    have h := rev_smul x c p
    simp only [List.map_cons]; unfold rev; rw [h]; push_cast; grind
theorem cf_smul (c : Int) : ∀ (p : List Int) (i : Nat), cf (p.map fun a => c * a) i = c * cf p i
  | [], i => by simp [cf]
  | a :: p, 0 => rfl
  | a :: p, i + 1 => cf_smul c p i
def lmul : List Int → List Int → List Int
  | [], _ => []
  | c :: p, q => ladd (q.map fun a => c * a) (0 :: lmul p q)
theorem rev_lmul (x : Rat) : ∀ p q : List Int, rev (lmul p q) x = rev p x * rev q x
  | [], q => by show (0 : Rat) = 0 * rev q x; grind
  | c :: p, q => by
    have h := rev_lmul x p q
    unfold lmul; rw [rev_ladd, rev_smul]
    show (c : Rat) * rev q x + (((0 : Int) : Rat) + x * rev (lmul p q) x) = ((c : Rat) + x * rev p x) * rev q x
    rw [h]; grind
end Go.Sky
namespace Go.Sky
set_option linter.unusedVariables false
theorem cf_lmul : ∀ (p q : List Int) (i : Nat), cf (lmul p q) i = sumTo (fun k => cf p k * cf q (i - k)) (i + 1)
  | [], q, i => by
    rw [show cf (lmul [] q) i = 0 from cf_ge (Nat.zero_le _)]
    exact (sumTo_z fun k _ => by rw [show cf [] k = 0 from cf_ge (Nat.zero_le _), Int.zero_mul]).symm
  | c :: p, q, 0 => by
    unfold lmul; rw [cf_ladd, cf_smul, sumTo_succ, sumTo_zero]
    show c * cf q 0 + 0 = 0 + c * cf q 0
    omega
  | c :: p, q, i + 1 => by
    have h := cf_lmul p q i
    unfold lmul; rw [cf_ladd, cf_smul, sumTo_first]
    show c * cf q (i + 1) + cf (lmul p q) i = c * cf q (i + 1) + _
    rw [h]
    congr 1
    refine sumTo_congr fun k hk => ?_
    show cf p k * cf q (i - k) = cf p k * cf q (i + 1 - (k + 1))
    rw [show i + 1 - (k + 1) = i - k by omega]
theorem rel_rev {a c : Int} {x s y z : List Int} (h : ∀ t, a * cf x t = (ps s * ps y).c t - c * cf z t) (q : Rat) : (a : Rat) * rev x q = rev s q * rev y q - (c : Rat) * rev z q := by
  have h1 : ∀ t, cf (ladd (x.map fun b => a * b) (z.map fun b => c * b)) t = cf (lmul s y) t := fun t => by
    rw [cf_ladd, cf_smul, cf_smul, cf_lmul, h t, PS.mul_c]
    show sumTo (fun k => cf s k * cf y (t - k)) (t + 1) - c * cf z t + c * cf z t = _
    omega
  have h2 := rev_ext q _ _ h1
  rw [rev_ladd, rev_smul, rev_smul, rev_lmul] at h2
  grind
end Go.Sky
namespace Go.Sky
set_option linter.unusedVariables false
theorem rl3_snext {s t : Rat} {x y : List Int} (hx : Tr x) (hy : Tr y) (h0 : y ≠ []) (hl : y.length ≤ x.length) : Rl3 s t (rev x) (rev y) (rev (snext x y)) := by
  have l0 := List.length_pos_iff.2 h0
  obtain ⟨r1, r2, k, u, hk⟩ := rrem_id hy h0 x.length x hx (by omega)
  have hs := snext_ref (f := x.length) hx hy h0 hl (by omega)
  have htn : Tr (pneg (rrem x.length x y)) := tr_pscale _ _
  obtain ⟨m, n, hm, hn, hp⟩ := psim_pprim htn
  rw [hs] at hp
  have hK : 0 < rabs y ^ k := Int.pow_pos (rabs_pos hy h0)
  obtain ⟨B, b1, b2⟩ := rev_b s t u
  have hm' : (0 : Rat) < (m : Rat) := by exact_mod_cast hm
  have hn' : (0 : Rat) < (n : Rat) := by exact_mod_cast hn
  have hK' : (0 : Rat) < ((rabs y ^ k : Int) : Rat) := by exact_mod_cast hK
  refine ⟨(n : Rat) * ((rabs y ^ k : Int) : Rat), (m : Rat), (n : Rat) * B, Rat.mul_pos hn' hK', hm', Rat.mul_pos hn' b1, fun q hq1 hq2 => ⟨(n : Rat) * rev u q, ?_, ?_, ?_⟩⟩
  · have := Rat.mul_nonneg (a := (n : Rat)) (b := rev u q + B) (by grind) (by have := b2 q hq1 hq2; grind); grind
  · have := Rat.mul_nonneg (a := (n : Rat)) (b := B - rev u q) (by grind) (by have := b2 q hq1 hq2; grind); grind
  · have e1 := rel_rev (a := rabs y ^ k) (c := -1) (x := x) (s := u) (y := y) (z := rrem x.length x y) (fun t => by rw [hk t]; omega) q
    have e2 : rev ((snext x y).map fun b => m * b) q = rev ((rrem x.length x y).map fun b => (-n) * b) q := rev_ext q _ _ fun i => by
      rw [cf_smul, cf_smul, hp i, cf_pneg, Int.mul_neg, Int.neg_mul]
    rw [rev_smul, rev_smul] at e2
    push_cast at e1 e2 ⊢
    grind
end Go.Sky
namespace Go.Sky
set_option linter.unusedVariables false
theorem rl2_of {s t : Rat} {f g : Rat → Rat} (h : Rl3 s t f g (rev [])) : Rl2 s t f g := by
  obtain ⟨m, n, Q, hm, hn, hQ, hr⟩ := h
  refine ⟨m, Q, hm, hQ, fun x h1 h2 => ?_⟩
  obtain ⟨q, q1, q2, q3⟩ := hr x h1 h2
  refine ⟨q, q1, q2, ?_⟩
  have : rev [] x = 0 := rfl
  rw [this] at q3; grind
theorem rls_chain {s t : Rat} : ∀ (f : Nat) (a b : List Int), Tr a → Tr b → cok f a b → ∃ r, schain f a b = a :: r ∧ Rls s t (rev a) (r.map rev) ∧ (b = [] → r = []) ∧ (b ≠ [] → ∃ r', r = b :: r') := fun f => by
  induction f with
  | zero =>
    intro a b ha hb h
    have h0 : b = [] := h
    subst h0
    exact ⟨[], rfl, trivial, fun _ => rfl, fun h => absurd rfl h⟩
  | succ f ih =>
    intro a b ha hb h
    by_cases h0 : b = []
    · subst h0
      exact ⟨[], schain_nil _ _, trivial, fun _ => rfl, fun h => absurd rfl h⟩
    · obtain ⟨g, hg, hd, hle, hc, hs⟩ := cok_step h h0
      obtain rfl : f = g := by omega
      obtain ⟨r, h1, h2, h3, h4⟩ := ih b (snext a b) hb (tr_snext ha) hc
      have hR := rl3_snext (s := s) (t := t) ha hb h0 hle
      refine ⟨b :: r, by rw [hs, h1], ?_, fun h => absurd h h0, fun _ => ⟨r, rfl⟩⟩
      by_cases hz : snext a b = []
      · rw [h3 hz]
        rw [hz] at hR
        exact rl2_of hR
      · obtain ⟨r', rfl⟩ := h4 hz
        exact ⟨hR, h2⟩
end Go.Sky
namespace Go.Sky
set_option linter.unusedVariables false
theorem lip_mono {s t L M : Rat} {f : Rat → Rat} (h : L ≤ M) (hf : Lip s t L f) : Lip s t M f := fun x y h1 h2 h3 => by
  obtain ⟨a, b⟩ := hf x y h1 h2 h3
  have := Rat.mul_le_mul_of_nonneg_right h (show 0 ≤ y - x by grind)
  constructor <;> grind
theorem lip_all (s t : Rat) : ∀ ls : List (List Int), ∃ L : Rat, 0 < L ∧ ∀ g ∈ ls.map rev, Lip s t L g
  | [] => ⟨1, by decide, fun g hg => by cases hg⟩
  | p :: ls => by
    obtain ⟨L, l1, l2⟩ := lip_all s t ls
    obtain ⟨M, m1, m2⟩ := rev_lip s t p
    refine ⟨L + M, by grind, fun g hg => ?_⟩
    rw [List.map_cons] at hg
    rcases List.mem_cons.1 hg with rfl | hg
    · exact lip_mono (by grind) m2
    · exact lip_mono (by grind) (l2 g hg)
theorem schain_const {s t δ : Rat} {f : Nat} {a b : List Int} (ha : Tr a) (hb : Tr b) (hc : cok f a b) (hst : s ≤ t) (hd : 0 < δ) (hB : ∀ x, s ≤ x → x ≤ t → Big δ x (rev a)) :
    vat ((schain f a b).map rev) s = vat ((schain f a b).map rev) t := by
  obtain ⟨r, h1, h2, _, _⟩ := rls_chain (s := s) (t := t) f a b ha hb hc
  obtain ⟨L, l1, l2⟩ := lip_all s t (schain f a b)
  rw [h1] at l2 ⊢
  exact vat_const l1 l2 hd hB h2 hst
end Go.Sky
namespace Go.Sky
set_option linter.unusedVariables false
end Go.Sky
namespace Go.Sky
set_option linter.unusedVariables false
end Go.Sky
namespace Go.Sky
set_option linter.unusedVariables false
def alt : List Int → List Int
  | [] => []
  | c :: p => c :: (alt p).map fun a => -1 * a
end Go.Sky
namespace Go.Sky
set_option linter.unusedVariables false
end Go.Sky
namespace Go.Sky
set_option linter.unusedVariables false
theorem pev_cons (c : Int) (p : List Int) (X Y : Int) (h : p ≠ []) : pev (c :: p) X Y = c * Y ^ p.length + X * pev p X Y := by
  have hl := List.length_pos_iff.2 h
  unfold pev
  rw [List.length_cons, sumTo_first, ← sumTo_mul]
  congr 1
  · show c * (X ^ 0 * Y ^ (p.length + 1 - 1 - 0)) = _
    rw [Int.pow_zero, Int.one_mul, show p.length + 1 - 1 - 0 = p.length by omega]
  · refine sumTo_congr fun i hi => ?_
    show cf p i * (X ^ (i + 1) * Y ^ (p.length + 1 - 1 - (i + 1))) = X * (cf p i * (X ^ i * Y ^ (p.length - 1 - i)))
    rw [show p.length + 1 - 1 - (i + 1) = p.length - 1 - i by omega, Int.pow_succ]
    grind
theorem pev_rev {X Y : Int} (hY : 0 < Y) : ∀ p : List Int, ((pev p X Y : Int) : Rat) = rev p ((X : Rat) / (Y : Rat)) * (Y : Rat) ^ (p.length - 1)
  | [] => by show (0 : Rat) = 0 * _; grind
  | [c] => by
    have : pev [c] X Y = c := by unfold pev; show 0 + c * (X ^ 0 * Y ^ 0) = c; rw [Int.pow_zero, Int.pow_zero]; omega
    rw [this]; show (c : Rat) = (c + X / Y * 0) * (Y : Rat) ^ 0; rw [Rat.pow_zero]; grind
  | c :: d :: p => by
    have h := pev_rev (X := X) hY (d :: p)
    rw [pev_cons c (d :: p) X Y (by simp)]
    have hy : (Y : Rat) ≠ 0 := by have : (0 : Rat) < (Y : Rat) := by exact_mod_cast hY
                                  grind
    push_cast
    rw [h]
    show (c : Rat) * (Y : Rat) ^ (p.length + 1) + X * (rev (d :: p) (X / Y) * (Y : Rat) ^ (p.length + 1 - 1)) = ((c : Rat) + X / Y * rev (d :: p) (X / Y)) * (Y : Rat) ^ (p.length + 1 + 1 - 1)
    rw [show p.length + 1 - 1 = p.length by omega, show p.length + 1 + 1 - 1 = p.length + 1 by omega, Rat.pow_succ]
    generalize rev (d :: p) (X / Y) = R
    generalize (Y : Rat) ^ p.length = P
    have : (X : Rat) / Y * Y = X := by grind
    grind
theorem sign_rsg {z : Int} {r q : Rat} (hq : 0 < q) (h : (z : Rat) = r * q) : z.sign = rsg r := by
  rcases (show r < 0 ∨ r = 0 ∨ 0 < r by grind) with h1 | h1 | h1
  · rw [rsg_neg h1]
    have := Rat.mul_pos (a := -r) (b := q) (by grind) hq
    have h2 : (z : Rat) < 0 := by grind
    have h3 : z < 0 := by exact_mod_cast h2
    exact Int.sign_eq_neg_one_of_neg h3
  · subst h1
    have h2 : (z : Rat) = 0 := by grind
    have h3 : z = 0 := by exact_mod_cast h2
    subst h3; rfl
  · rw [rsg_pos h1]
    have := Rat.mul_pos h1 hq
    have h2 : (0 : Rat) < z := by grind
    have h3 : 0 < z := by exact_mod_cast h2
    exact Int.sign_eq_one_of_pos h3
theorem fat_rsg {X Y : Int} (hY : 0 < Y) (p : List Int) : fat X Y p = rsg (rev p ((X : Rat) / (Y : Rat))) := by
  have : (0 : Rat) < (Y : Rat) := by exact_mod_cast hY
  exact sign_rsg (Rat.pow_pos this) (pev_rev hY p)
end Go.Sky
namespace Go.Sky
set_option linter.unusedVariables false
end Go.Sky
namespace Go.Sky
set_option linter.unusedVariables false
end Go.Sky
namespace Go.Sky
set_option linter.unusedVariables false
theorem vat_map {ls : List (List Int)} {x : Rat} {f : List Int → Int} (h : ∀ p ∈ ls, rsg (rev p x) = f p) : vat (ls.map rev) x = chg (ls.map f) := by
  unfold vat
  rw [List.map_map]
  exact congrArg chg (List.map_congr_left fun p hp => h p hp)
theorem cnt_vat {F : Nat} {xs : List Int} {X Y : Int} (hY : 0 < Y) : cnt F xs X Y = vat ((chn F xs).map rev) ((X : Rat) / (Y : Rat)) :=
  (vat_map fun p _ => (fat_rsg hY p).symm).symm
end Go.Sky

