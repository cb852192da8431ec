/- rules, arithmetic and contracts: part 11
   Proved without conditions of its own: each theorem bears its own. -/
import Derived.Test.YtcegclhbeflgbaaGreatSl02
import Derived.Test.YtcegclhbeflgbaaGreatSl01
import Derived.Test.YtcegclhbeflgbaaGreatSl03
import Derived.Test.YtcegclhbeflgbaaGreatSl08
import Derived.Test.YtcegclhbeflgbaaGreatSl09
set_option linter.all false
namespace Go.Sky
open Go.Proofs
set_option maxRecDepth 20000
set_option maxHeartbeats 4000000
set_option linter.unusedVariables false
set_option linter.unusedSimpArgs false
theorem rp_to (v : Value) (zs : List (Int × SL)) (hs : Sz 1000000 (ints zs)) (hl : zs.length ≤ 1000) : Cal Tryz.prog 25 #[v] [pp v zs] false (G := Value) (fun r => True) (fun r => r) (fun r => [slp 2 wv r (ints zs)]) := by
 refine Ye Tryz.func25 J Tryz.ntmps25 J K1 ?_
 intro w0 sc hw hsc
 simp only [Zq, Zo]
 have hli := length_ints zs
 refine Zb <|Ze <|Zm J J <|Zd <|Za <|Zb <|Ze <|Zm J J <|Zd <|Za <|Zb <|Zb <|Ze <|Zm J J <|Zd <|Za <|Zv <|Yk (Qa 70 2 28 wv) <|Qc [(0, _)] [(0, _), (1, _)] (fun (q : Nat × Value) => [(4, .int .i64 (q.1 : Int)), (3, q.2)]) (fun (q : Nat × Value) => [(70, osl 2 28 wv q.2 ((ints zs).take q.1))]) (fun (q : Nat × Value) => (q.1 ≤ zs.length)) (fun (q : Nat × Value) => zs.length - q.1) (0, .slice none 0 0) (by first | omega | (dsimp only <;> omega)) K3 K3 ?_
 rintro ⟨i, vo⟩ hi
 dsimp only at hi
 simp only [List.cons_append, List.nil_append]
 have htl : ((ints zs).take i).length = i := by rw [List.length_take]; omega
 have hci := cf_ints zs i
 refine Zb <|Zb <|Ze <|mv J J <|mv J J <|dt (Zy J J (i := 1) J Xc uT33) J <|dt (Xj J J J) J <|Zd <|Za <|Zn J (fun h50 => ?_) (fun h50 => ?_)
 ·exact Zk <|Za <|Zb <|Zv <|Ze <|mv J J <|mv J J <|mv J J <|dt (Yn (ii := 1) J J J J Xc uT33 zT39 J (by first | omega | (simp only [List.length_set]; omega))) J <|dt (Ys (ii := 1) I0 J J J Xc pI (by first | omega | (simp only [List.length_set]; omega))) J <|tt (Zh (n := 1) (r_to _ _ (by rw [hci]; have := hs i; omega)) J J J K1 cF17 (pre_dI 1 J J (getD_mem (by omega)) Zf) J hw) J fun _ _ => tt (Xf (i := 2) (ivs := [(0, _)]) (enc := wv) [(zs.getD i I0).1] J J J K2 uT23 Tryz.ti28 J J J J J J pV.cells J J hw) J fun v _ => tt (t_appa (i := 70) (j := 2) (by_ := 24) J J J J J J (by decide) J (Yi pV) uT23 Tryz.ti28 J pV J J J (by simp; omega) (by decide) J hw) J fun v_2 _ => Zm J J <|Zd <|Xq <|Za <|Ze <|mv J J <|dt (Yl J J J ⟨by omega, by omega⟩) J <|Zm J J <|Zd <|Xe (i + 1, _) (by first | omega | (dsimp only <;> omega)) (by first | omega | (dsimp only <;> omega)) K3 ⟨by rw [take_snoc 0 _ _ (by omega), show (ints zs).getD i 0 = (zs.getD i I0).1 from hci.symm]; rfl, rfl, rfl, trivial⟩
 ·exact Yv <|Zz <|Zz <|Xz <|Za <|Zb <|Ze <|mv J J <|Zm J J <|Zd <|Za <|Zr <|Zx (.inl J) hsc _ _ (fun a w hs => Yt hs Tryz.results25 J) J trivial J (Xs 70 J J pV (List.take_of_length_le (by omega)) Zj)
theorem rp_trim (v : Value) (zs : List (Int × SL)) (hs : Sz 3000000000 (ints zs)) : Cal Tryz.prog 83 #[v] [pp v zs] true (G := Value × List (Int × SL)) (fun r => ints r.2 = tzl (ints zs)) (fun r => r.1) (fun r => [pp r.1 r.2]) := by
 refine Ye Tryz.func83 J Tryz.ntmps83 J K1 ?_
 intro w0 sc hw hsc
 simp only [Zq, Zo]
 refine Qn (f_self_deep (i := 1) J) fun hself => Qn (f_len (i := 1) J Xc) (fun hlen => ?_)
 have hli := length_ints zs
 refine Zb <|Ze <|Zm J J <|Zd <|Za <|Zb <|Zv <|Qc [] [(0, _)] (fun (k : Nat) => [(0, preV v k)]) (fun (k : Nat) => [(1, pp (preV v k) (zs.take k))]) (fun (k : Nat) => (k ≤ zs.length) ∧ (tzl ((ints zs).take k) = tzl (ints zs))) (fun (k : Nat) => k) zs.length ⟨Nat.le_refl _, by rw [List.take_of_length_le (by omega)]⟩ ⟨by rw [hself]; rfl, trivial⟩ ⟨by rw [hself, List.take_length]; rfl, rfl, trivial⟩ ?_
 rintro k ⟨hk, ht⟩
 simp only [List.cons_append, List.nil_append]
 have hl : (zs.take k).length = k := by rw [List.length_take]; omega
 have hce : ((zs.take k).getD (k - 1) I0).1 = ((ints zs).take k).getD (k - 1) 0 := by rw [cf_ints, take_ints]; rfl
 refine Zb <|Zb <|Ze <|mv J J <|dt (Zy J J (i := 1) J Xc uT33) J <|dt (Xv J J J) J <|mv J J <|Xu (d := 6) J (fun s22 => ?_) (fun s22 => ?_)
 ·refine Yr (Zw J J) J J J J <|Yr (Zw J J) J J J J <|Yr (Zy J J (i := 1) J Xc uT33) J J J J <|Yr (Yz J J J ⟨by omega, by omega⟩) J J J J <|Yr (Yn (ii := 1) (i := k - 1) J J J J Xc uT33 zT39 (by omega) (by omega)) J J J J <|Yr (Ys (ii := 1) I0 J J J Xc pI (by omega)) J J J J <|gtt (Zh (n := 1) (r_sign _ _ (by rw [hce]; exact (hs.take _).getD _)) J J J K1 cF61 (pre_dI 1 J J (getD_mem (by omega)) Zf) J hw) J J J J fun _ _ => Yr (Xh J J J) J J J J <|dt (Yp J J J) J <|Zd <|Za <|Zn J (fun h22 => ?_) (fun h22 => ?_)
  ·rw [hce] at h22
   have hstep := tzl_step (xs := ints zs) (k := k) (by omega) (by omega) (takeD_zero (k := k) (by omega) (Int.sign_eq_zero_iff_zero.1 h22))
   exact Zk <|Za <|Zv <|Ze <|mv J J <|mv J J <|dt (Zy J J (i := 1) J Xc uT33) J <|dt (Yz J J J ⟨by omega, by omega⟩) J <|dt (d_pre (ii := 1) (i := k - 1) J J J J Xc uT33 zT39 (by omega) (by omega)) J <|Zm J J <|Zd <|Xq <|Qe (s_predeep 1 1 (k - 1) J J (by omega)) <|Xe (k - 1) ⟨by first | omega | (dsimp only <;> omega), by rw [← ht, ← hstep]⟩ (by first | omega | (dsimp only <;> omega)) ⟨by rw [← preV_preV v k (k - 1)]; rfl, trivial⟩ ⟨by rw [preV_preV, List.take_take, Nat.min_eq_left (by omega)]; rfl, rfl, trivial⟩
  ·try rw [hce] at h22
   exact Yv <|Zz <|Zz <|Xz <|Za <|Zb <|Ze <|mv J J <|Zm J J <|Zd <|Za <|Zr <|Zx (.inl J) hsc (_, zs.take k) _ (fun a w hs => Yt hs Tryz.results83 J) J (by rw [take_ints, ← ht]; exact (tzl_stop (by omega) (by first | (left; omega) | (right; exact takeD_ne (k := k) (by omega) (by assumption)))).symm) J (Qf 1 J J J Zj)
 ·exact Xm J J J J J <|Xm J J J J J <|Xm J J J J J <|Xm J J J J J <|Xm J J J J J <|Xm J J J J J <|Xm J J J J J <|Xm J J J J J <|dt (Yd J J J) J <|Zd <|Za <|Yc J <|Yv <|Zz <|Zz <|Xz <|Za <|Zb <|Ze <|mv J J <|Zm J J <|Zd <|Za <|Zr <|Zx (.inl J) hsc (_, zs.take k) _ (fun a w hs => Yt hs Tryz.results83 J) J (by rw [take_ints, ← ht]; exact (tzl_stop (by omega) (by first | (left; omega) | (right; exact takeD_ne (k := k) (by omega) (by assumption)))).symm) J (Qf 1 J J J Zj)
theorem rp_nums (v : Value) (l : List Int) (hl : ∀ x ∈ l, inI x) (hlen : l.length ≤ 1000) : Cal Tryz.prog 33 #[v] [slp 1 encZ v l] true (G := Value × List (Int × SL)) (fun r => ints r.2 = tzl l) (fun r => r.1) (fun r => [pp r.1 r.2]) := by
 refine Ye Tryz.func33 J Tryz.ntmps33 J K1 ?_
 intro w0 sc hw hsc
 simp only [Zq, Zo]
 have hsz := sz_ints hl
 refine Zb <|Ze <|Zm J J <|Zd <|Za <|Zb <|Ze <|Zm J J <|Zd <|Za <|Zb <|Zb <|Ze <|Zm J J <|Zd <|Za <|Zv <|Yk (Qa 70 2 39 encI) <|Yk (Qk qI 71) <|Qc [(0, _)] [(0, _), (1, _)] (fun (q : Nat × Value × List (Int × SL)) => [(4, .int .i64 (q.1 : Int)), (3, q.2.1)]) (fun (q : Nat × Value × List (Int × SL)) => [(70, osl 2 39 encI q.2.1 q.2.2), (71, many qI q.2.2)]) (fun (q : Nat × Value × List (Int × SL)) => (q.1 ≤ l.length) ∧ (ints q.2.2 = mk q.1 (cf l)) ∧ (q.2.2.length = q.1)) (fun (q : Nat × Value × List (Int × SL)) => l.length - q.1) (0, .slice none 0 0, []) ⟨by first | omega | (dsimp only <;> omega), rfl, rfl⟩ K3 K4 ?_
 rintro ⟨i, vo, ws⟩ ⟨hi, hz, hzl⟩
 dsimp only at hi hz hzl
 simp only [List.cons_append, List.nil_append]
 refine Zb <|Zb <|Ze <|mv J J <|mv J J <|dt (Zy J J (i := 1) J Zi uT37) J <|dt (Xj J J J) J <|Zd <|Za <|Zn J (fun h59 => ?_) (fun h59 => ?_)
 ·refine Zk <|Za <|Zb <|Zv <|Ze <|mv J J <|mv J J <|mv J J <|dt (Yn (ii := 1) J J J J Zi uT37 zT3 J (by first | omega | (simp only [List.length_set]; omega))) J <|dt (Ys (ii := 1) 0 J J J Zi pZ (by first | omega | (simp only [List.length_set]; omega))) J <|tt (Zh (n := 2) (r_num _ (hl _ (getD_mem (by omega)))) J J J K1 cF43 Zf J hw) J fun v _ => l_ex (Qh 2 J Zi) (fun sl hsl => ?_)
  subst hsl
  exact tt (Xf (i := 3) (ivs := [(0, _)]) (enc := encI) [(l.getD i 0, sl)] J J J K2 uT33 Tryz.ti39 J J J J J J pI.cells J J hw) J fun v_2 _ => tt (t_appa (i := 70) (j := 3) (by_ := 32) J J J J J J (by decide) J (Yi pI) uT33 Tryz.ti39 J pI J J J (by simp; omega) (by decide) J hw) J fun v_3 _ => Zm J J <|Zd <|Xq <|Za <|Ze <|mv J J <|dt (Yl J J J ⟨by omega, by omega⟩) J <|Zm J J <|Zd <|Qe (Xp (q := qI) (z := (l.getD i 0, sl)) 71 2 71 J J J J J) <|Xe (i + 1, _, ws ++ [(l.getD i 0, sl)]) ⟨by first | omega | (dsimp only <;> omega), by rw [ints_snoc, mk_succ, hz]; dsimp only; rfl, by simp [hzl]⟩ (by first | omega | (dsimp only <;> omega)) K3 K4
 ·exact Yv <|Zz <|Zz <|Xz <|Za <|Zb <|Yk (Xa 70 J J pI) <|Yk (Qu 70 71 72 J J J J) <|Ze <|mv J J <|tt (Zh (n := 4) (rp_trim _ _ (by rw [hz]; exact mk_sz fun t ht => by have := hsz t; omega)) J J J K1 cF83 (Zg 72 J J J Zf) J hw) J fun g hg => Zm J J <|Zd <|Za <|Zr <|Zx (.inl J) hsc _ _ (fun a w hs => Yt hs Tryz.results33 J) J (by rw [hg, hz, show i = l.length by omega, mk_self]) J (Qf 4 J J J Zj)
theorem rp_at (v : Value) (zs : List (Int × SL)) (j : Int) (i : Nat) (hj : j = (i : Int)) (hi : i ≤ 1000000) : Cal Tryz.prog 84 #[v, .int .i64 j] [pp v zs] true (G := Value) (fun r => True) (fun r => .agg #[.bool (decide (cf (ints zs) i < 0)), r]) (fun r => [d9p r (cf (ints zs) i).natAbs]) := by
 refine Ye Tryz.func84 J Tryz.ntmps84 J K1 ?_
 intro w0 sc hw hsc
 simp only [Zq, Zo]
 have hli := length_ints zs
 refine Qn (f_len (i := 1) J Xc) fun hlen => Yk (Qa 60 1 3 encN) <|Yk (Xa 60 J J pN) <|Zb <|Ze <|tt (Zp (i := 2) J J J Tryz.zeroValue39 J J hw) J fun b _ => Zd <|Za <|Zb <|Zb <|Ze <|mv J J <|dt (Xj J J J) J <|mv J J <|Xu (d := 7) J (fun s91 => ?_) (fun s91 => ?_)
 ·exfalso; omega
 ·refine Yr (Zw J J) J J J J <|Yr (Zw J J) J J J J <|Yr (Zy J J (i := 1) J Xc uT33) J J J J <|Yr (Qd J J J) J J J J <|dt (Yd J J J) J <|Zd <|Za <|Zn J (fun h91 => ?_) (fun h91 => ?_)
  ·refine Zb <|Ze <|dt (Xg (ivs := []) J trivial (fun a w hs => b39_)) J <|tt (Zl (i := 2) J J J J J (by decide) J zT39 J J ⟨(Zc J), (Zc J), trivial⟩ J hw trivial) J fun _ _ => Zd <|Za <|Zr <|Yw ?_
   have hz0 : cf (ints zs) i = 0 := cf_ge (by omega)
   exact Zx (.inl J) hsc (.slice none 0 0) _ (fun a w hs => Yt hs Tryz.results84 (Yq (i := 2) J J iA39 zT39 J)) (by rw [hz0] <;> rfl) trivial J (give_none (by rw [hz0]; rfl) Zj)
  ·exact Zk <|Za <|Zb <|Ze <|mv J J <|mv J J <|dt (Yn (ii := 1) (i := i) J J J J Xc uT33 zT39 hj (by omega)) J <|dt (Ys (ii := 1) I0 J J J Xc pI (by omega)) J <|tt (Zl (i := 2) J J J J J (by decide) J zT39 J J ⟨(Zc J), (Zc J), trivial⟩ J hw trivial) J fun _ _ => Zd <|Za <|Zr <|Zx (.inl J) hsc _ _ (fun a w hs => Yt hs Tryz.results84 (Yq (i := 2) J J iA39 zT39 J)) (by rw [← cf_ints] <;> rfl) trivial J (give_dI 1 J J (getD_mem (i := i) (by omega)) (by rw [← cf_ints] <;> rfl) Zj)
theorem rp_mul (v u : Value) (zs ys : List (Int × SL)) (hs : Sz 1000000 (ints zs)) (hl : zs.length ≤ 60) (ht : Sz 1000000 (ints ys)) (hk : ys.length ≤ 60) : Cal Tryz.prog 34 #[v, u] [pp v zs, pp u ys] true (G := Value × List (Int × SL)) (fun r => ints r.2 = pmul (ints zs) (ints ys)) (fun r => r.1) (fun r => [pp r.1 r.2]) := by
 refine Ye Tryz.func34 J Tryz.ntmps34 J K2 ?_
 intro w0 sc hw hsc
 simp only [Zq, Zo]
 have hli := length_ints zs
 have hli2 := length_ints ys
 have htb : ∀ i k, bl (cf (ints zs) k * cf (ints ys) (i - k)).natAbs ≤ 2000000 := fun i k => by have := bl_imul (cf (ints zs) k) (cf (ints ys) (i - k)); have := hs k; have := ht (i - k); omega
 have hsb : ∀ i n, n ≤ 1000 → bl (sumTo (fun k => cf (ints zs) k * cf (ints ys) (i - k)) n).natAbs ≤ 2000010 := fun i n hn => bl_sumn (fun t _ => htb i t) (by omega)
 refine Zb <|Ze <|Zm J J <|Zd <|Za <|Zb <|Ze <|Zm J J <|Zd <|Za <|Zb <|Zb <|Ze <|Zm J J <|Zd <|Za <|Zv <|Yk (Qa 70 2 39 encI) <|Yk (Qk qI 71) <|Qc [(0, _), (1, _)] [(0, _), (1, _), (2, _)] (fun (q : Nat × Value × List (Int × SL)) => [(6, .int .i64 (q.1 : Int)), (5, q.2.1)]) (fun (q : Nat × Value × List (Int × SL)) => [(70, osl 2 39 encI q.2.1 q.2.2), (71, many qI q.2.2)]) (fun (q : Nat × Value × List (Int × SL)) => (q.1 ≤ (zs.length + ys.length - 1)) ∧ (ints q.2.2 = mk q.1 (fun t => sumTo (fun a9 => cf (ints zs) a9 * cf (ints ys) (t - a9)) (t + 1))) ∧ (q.2.2.length = q.1)) (fun (q : Nat × Value × List (Int × SL)) => (zs.length + ys.length - 1) - q.1) (0, .slice none 0 0, []) ⟨by first | omega | (dsimp only <;> omega), rfl, rfl⟩ K4 K5 ?_
 rintro ⟨i, vo, ws⟩ ⟨hi, hz, hzl⟩
 dsimp only at hi hz hzl
 simp only [List.cons_append, List.nil_append]
 refine Zb <|Zb <|Ze <|mv J J <|mv J J <|dt (Zy J J (i := 1) J Xc uT33) J <|mv J J <|dt (Zy J J (i := 2) J Xc uT33) J <|dt (Yl J J J ⟨by omega, by omega⟩) J <|dt (Yz J J J ⟨by omega, by omega⟩) J <|dt (Xj J J J) J <|Zd <|Za <|Zn J (fun h124 => ?_) (fun h124 => ?_)
 ·refine Zk <|Za <|Zb <|Zv <|Zb <|Ze <|dt (Xg (ivs := []) J trivial (fun a w hs => b39_)) J <|tt (Zp (i := 97) J J J Tryz.zeroValue39 J J hw) J fun b _ => tt (Zl (i := 97) J J J J J (by decide) J zT39 J J ⟨(Zc J), (Zc J), trivial⟩ J hw trivial) J fun _ _ => Zd <|Za <|Zb <|Zb <|Ze <|Zm J J <|Zd <|Za <|Zv <|Yk (Qa 98 1 3 encN) <|Yk (Xa 98 J J pN) <|Qc [(0, _), (1, _), (5, _), (6, _), (7, _)] [(0, _), (70, _), (71, _), (1, _), (2, _)] (fun (q : Nat × Value) => [(8, .int .i64 (q.1 : Int))]) (fun (q : Nat × Value) => [(97, box b 39 #[.bool (decide (sumTo (fun a9 => cf (ints zs) a9 * cf (ints ys) (i - a9)) q.1 < 0)), q.2]), (98, d9p q.2 (sumTo (fun a9 => cf (ints zs) a9 * cf (ints ys) (i - a9)) q.1).natAbs)]) (fun (q : Nat × Value) => (q.1 ≤ i + 1)) (fun (q : Nat × Value) => i + 1 - q.1) (0, .slice none 0 0) (by first | omega | (dsimp only <;> omega)) K6 K7 ?_
  rintro ⟨k, vs⟩ hk1
  dsimp only at hk1
  simp only [List.cons_append, List.nil_append]
  have h1 := hsb i k
  have h2 := htb i k
  have h3 := hs k
  have h4 := ht (i - k)
  refine Zb <|Zb <|Ze <|mv J J <|mv J J <|dt (d_leq J J J) J <|Zd <|Za <|Zn J (fun h126 => ?_) (fun h126 => ?_)
  ·refine Zk <|Za <|Zb <|Zv <|Xd (fun _ => False) [(0, 0), (1, 0), (2, 0), (4, 0), (5, 0), (6, 0), (7, 0), (3, 1), (8, 1), (9, 1), (10, 1), (11, 3)] (by kernel_rfl) ?_ ?_
   ·kernel_rfl
   exact r0' J J J J (st0 (Yg (i := 97) J J J iA39 zT39 J J)) <|r0' J J J J (st0 (Zw J J)) <|r0' J J J J (st0 (Zw J J)) <|r0' J J J J (st0 (Zw J J)) <|r0' J J J J (st0 (Zw J J)) <|r0' J J J J (st0 (Zw J J)) <|r0' J J J J (st0 (Yz J J J ⟨by omega, by omega⟩)) <|r1' J J (Zh (n := 3) (rp_at _ _ _ k J (by omega)) J J J K2 cF84 (Zg 1 J J J Zf) J hw) fun v _ => r1' J J (Zh (n := 4) (rp_at _ _ _ (i - k) (by omega) (by omega)) J J J K2 cF84 (Zg 2 J J J Zf) J hw) fun v_2 _ => r1' J J (Zh (n := 5) (r_mul _ _ _ _ (by omega) (by omega)) J J J K2 cF44 (Zg 3 J J J (Zg 4 J J J Zf)) J hw) fun v_3 _ => r1' J J (Zh (n := 6) (r_add _ _ _ _ (by omega) (by omega)) J J J K2 cF42 (Zg 98 J J J (Zg 5 J J J Zf)) J hw) fun v_4 _ => r3' J J (Zl (i := 97) J J J J J (by decide) J zT39 J J ⟨(Zc J), (Yf (i := 6) J Zi), trivial⟩ J hw trivial) fun _ _ => Xo <|Xq <|Za <|Ze <|mv J J <|dt (Yl J J J ⟨by omega, by omega⟩) J <|Zm J J <|Zd <|Qe (s_dup 6 98 J J J) <|Xe (k + 1, v_4) (by first | omega | (dsimp only <;> omega)) (by first | omega | (dsimp only <;> omega)) K6 ⟨by rw [sumTo_succ]; rfl, by rw [sumTo_succ]; rfl, rfl, rfl, rfl, rfl, rfl, trivial⟩
  ·refine Yv <|Zz <|Zz <|Xz <|Za ?_
   obtain rfl : k = i + 1 := by omega
   refine e_ex (Qh 98 J Zi) (fun sl hsl => ?_)
   subst hsl
   exact Ze <|mv J J <|dt (Yg (i := 97) J J J iA39 zT39 J J) J <|tt (Xf (i := 7) (ivs := [(0, _)]) (enc := encI) [(sumTo (fun a9 => cf (ints zs) a9 * cf (ints ys) (i - a9)) (i + 1), sl)] J J J K2 uT33 Tryz.ti39 J J J J J J pI.cells J J hw) J fun v_5 _ => tt (t_appa (i := 70) (j := 7) (by_ := 32) J J J J J J (by decide) J (Yi pI) uT33 Tryz.ti39 J pI J J J (by simp; omega) (by decide) J hw) J fun v_6 _ => Zm J J <|Zd <|Xq <|Za <|Ze <|mv J J <|dt (Yl J J J ⟨by omega, by omega⟩) J <|Zm J J <|Zd <|Qe (Xp (q := qI) (z := (sumTo (fun a9 => cf (ints zs) a9 * cf (ints ys) (i - a9)) (i + 1), sl)) 71 98 71 J J J J J) <|Xe (i + 1, _, ws ++ [(sumTo (fun a9 => cf (ints zs) a9 * cf (ints ys) (i - a9)) (i + 1), sl)]) ⟨by first | omega | (dsimp only <;> omega), by rw [ints_snoc, mk_succ, hz], by simp [hzl]⟩ (by first | omega | (dsimp only <;> omega)) K4 K5
 ·refine Yv <|Zz <|Zz <|Xz <|Za <|Zb <|Zb <|Ze <|mv J J <|dt (Zy J J (i := 1) J Xc uT33) J <|dt (Xh J J J) J <|mv J J <|Xu (d := 43) J (fun s131 => ?_) (fun s131 => ?_)
  ·refine Xm J J J J J <|Xm J J J J J <|Xm J J J J J <|dt (Yp J J J) J <|Zd <|Za <|Ql J <|Zb <|Ze <|Zm J J <|Zd <|Za <|Zr <|Yw <|Qe (s_deep_nil 62) ?_
   have hp0 : pmul (ints zs) (ints ys) = [] := pmul_nil (by first | (left; omega) | (right; omega))
   exact Zx (.inl J) hsc (.slice none 0 0, []) _ (fun a w hs => Yt hs Tryz.results34 J) J (by rw [hp0] <;> rfl) J (Qf 62 J J J Zj)
  ·refine Yr (Zw J J) J J J J <|Yr (Zy J J (i := 2) J Xc uT33) J J J J <|Yr (Xh J J J) J J J J <|dt (Yd J J J) J <|Zd <|Za <|Zn J (fun h131 => ?_) (fun h131 => ?_)
   ·refine Zb <|Ze <|Zm J J <|Zd <|Za <|Zr <|Yw <|Qe (s_deep_nil 62) ?_
    have hp0 : pmul (ints zs) (ints ys) = [] := pmul_nil (by first | (left; omega) | (right; omega))
    exact Zx (.inl J) hsc (.slice none 0 0, []) _ (fun a w hs => Yt hs Tryz.results34 J) J (by rw [hp0] <;> rfl) J (Qf 62 J J J Zj)
   ·exact Zk <|Za <|Zb <|Yk (Xa 70 J J pI) <|Yk (Qu 70 71 72 J J J J) <|Ze <|mv J J <|tt (Zh (n := 8) (rp_trim _ _ (by rw [hz]; exact mk_sz fun t h => by have := hsb t (t + 1) (by omega); omega)) J J J K1 cF83 (Zg 72 J J J Zf) J hw) J fun g hg => Zm J J <|Zd <|Za <|Zr <|Zx (.inl J) hsc _ _ (fun a w hs => Yt hs Tryz.results34 J) J (by rw [hg, hz, show i = (ints zs).length + (ints ys).length - 1 by omega, pmul_mk]) J (Qf 8 J J J Zj)
theorem r_same (v u : Value) (r t : List (Bool × ByteArray)) : Cal Tryz.prog 24 #[v, u] [slp 2 encW v r, slp 2 encW u t] false (G := Unit) (fun _ => True) (fun _ => .bool (decide (r = t))) (fun _ => []) := by
 refine Ye Tryz.func24 J Tryz.ntmps24 J K2 ?_
 intro w0 sc hw hsc
 simp only [Zq, Zo]
 refine Qn (f_len (i := 1) J Zi) fun hlr => Qn (f_len (i := 2) J Zi) fun hlt => Zb <|Ze <|Zm J J <|Zd <|Za <|Zb <|Zb <|Ze <|mv J J <|dt (Zy J J (i := 1) J Zi uT23) J <|mv J J <|dt (Zy J J (i := 2) J Zi uT23) J <|dt (Ym J J J) J <|Zd <|Za <|Zn J (fun h78 => ?_) (fun h78 => ?_)
 ·exact Zb <|Ze <|Zm J J <|Zd <|Za <|Zr <|Yw <|Zx (.inl J) hsc () _ (fun a w hs => Yt hs Tryz.results24 J) (by rw [decide_eq_false (fun e => by subst e; exact h78 rfl)]) trivial J Zj
 ·have hle : r.length = t.length := by omega
  refine Zk <|Za <|Zb <|Zb <|Ze <|Zm J J <|Zd <|Za <|Zv <|Qc [(0, _), (1, _)] [(0, _), (1, _), (2, _)] (fun (k : Nat) => [(5, .int .i64 (k : Int))]) (fun (k : Nat) => []) (fun (k : Nat) => (k ≤ r.length) ∧ (r.take k = t.take k)) (fun (k : Nat) => r.length - k) 0 ⟨by first | omega | (dsimp only <;> omega), by simp⟩ K3 K3 ?_
  rintro k ⟨hk, ht⟩
  simp only [List.cons_append, List.nil_append]
  refine Zb <|Zb <|Ze <|mv J J <|mv J J <|dt (Zy J J (i := 1) J Zi uT23) J <|dt (Xj J J J) J <|Zd <|Za <|Zn J (fun h81 => ?_) (fun h81 => ?_)
  ·refine Zk <|Za <|Zb <|Zv <|Zb <|Xd (fun _ => False) [(0, 0), (1, 0), (2, 0), (3, 0), (4, 0), (5, 0), (6, 0), (7, 0), (8, 0)] (by kernel_rfl) ?_ ?_
   ·kernel_rfl
   refine r0' J J J J (st0 (Zw J J)) <|r0' J J J J (st0 (Zw J J)) <|r0' J J J J (st0 (Yn (ii := 1) J J J J Zi uT23 zT28 J (by first | omega | (simp only [List.length_set]; omega)))) <|r0' J J J J (st0 (Ys (ii := 1) (false, ⟨#[]⟩) J J J Zi pW (by first | omega | (simp only [List.length_set]; omega)))) <|r0' J J J J (st0 (Zw J J)) <|r0' J J J J (st0 (Zw J J)) <|r0' J J J J (st0 (Yn (ii := 2) J J J J Zi uT23 zT28 J (by first | omega | (simp only [List.length_set]; omega)))) <|r0' J J J J (st0 (Ys (ii := 2) (false, ⟨#[]⟩) J J J Zi pW (by first | omega | (simp only [List.length_set]; omega)))) <|r0' J J J J (st0 (d_eqg J J J eg28 (fun w => neq28 w _ _ _ _))) <|Xo <|Za <|Qq J (fun h82 => ?_) (fun h82 => ?_)
   ·exact Zb <|Ze <|Zm J J <|Zd <|Za <|Zr <|x_br <|Yw <|Yw <|x_br <|Yw <|Zx (.inl J) hsc () _ (fun a w hs => Yt hs Tryz.results24 J) (by rw [decide_eq_false (fun e => by rw [e] at h82; simp [eqW_refl] at h82)]) trivial J Zj
   ·exact Zk <|Xq <|Za <|Ze <|mv J J <|dt (Yl J J J ⟨by omega, by omega⟩) J <|Zm J J <|Zd <|Xe (k + 1) ⟨by first | omega | (dsimp only <;> omega), by rw [take_snoc (false, ⟨#[]⟩) _ _ (by omega), take_snoc (false, ⟨#[]⟩) _ _ (by omega), ht, eqW_pair (x := r.getD k (false, ⟨#[]⟩)) (y := t.getD k (false, ⟨#[]⟩)) (by simpa using h82)]⟩ (by first | omega | (dsimp only <;> omega)) K3 K3
  ·exact Yv <|Zz <|Zz <|Xz <|Za <|Zb <|Ze <|Zm J J <|Zd <|Za <|Zr <|Zx (.inl J) hsc () _ (fun a w hs => Yt hs Tryz.results24 J) (by rw [decide_eq_true (by rw [show k = r.length by omega, List.take_length, hle, List.take_length] at ht; exact ht)]) trivial J Zj
theorem r_same_ii (v u : Value) (xs ys : List Int) : Cal Tryz.prog 24 #[v, u] [slp 2 wv v xs, slp 2 wv u ys] false (G := Unit) (fun _ => True) (fun _ => .bool (decide (xs = ys))) (fun _ => []) := by
 have h := ((r_same v u (xs.map wr) (ys.map wr)).imp (slp_wr v xs) (fun _ h => h)).imp2 (slp_wr u ys) (fun _ h => h)
 rw [decide_eq_decide.2 (map_wr_iff xs ys)] at h; exact h
end Go.Sky

