/- rules, arithmetic and contracts: part 10
   Proved without conditions of its own: each theorem bears its own. -/
import Derived.Test.YtcegclhbeflgbaaGreatSh02
import Derived.Test.YtcegclhbeflgbaaGreatSh01
import Derived.Test.YtcegclhbeflgbaaGreatSh03
import Derived.Test.YtcegclhbeflgbaaGreatSh08
set_option linter.all false
namespace Go.Sky
open Go.Proofs
set_option maxRecDepth 20000
set_option maxHeartbeats 4000000
set_option linter.unusedVariables false
set_option linter.unusedSimpArgs false
theorem rp_from (v : Value) (xs : List Int) (hs : Sz 1000000 xs) (hl : xs.length ≤ 1000) : Cal Tryz.prog 15 #[v] [slp 2 wv v xs] true (G := Value × List (Int × SL)) (fun r => ints r.2 = xs) (fun r => r.1) (fun r => [pp r.1 r.2]) := by
 refine Ya Tryz.func15 J Tryz.ntmps15 J K1 ?_
 intro w0 sc hw hsc
 simp only [Zp, Zo]
 refine Zb <|Zd <|Zl J J <|Zc <|Za <|Zb <|Zd <|Zl J J <|Zc <|Za <|Zb <|Zb <|Zd <|Zl J J <|Zc <|Za <|Zm <|Yh (Xy 70 2 39 encI) <|Yh (s_many_nil qI 71) <|Xv [(0, _)] [(0, _), (1, _)] (fun (q : Nat × Value × List (Int × SL)) => [(4, .int .i64 (q.1 : Int)), (3, q.2.1)]) (fun (q : Nat × Value × List (Int × SL)) => [(70, osl 2 39 encI q.2.1 q.2.2), (71, many qI q.2.2)]) (fun (q : Nat × Value × List (Int × SL)) => (q.1 ≤ xs.length) ∧ (ints q.2.2 = xs.take q.1) ∧ (q.2.2.length = q.1)) (fun (q : Nat × Value × List (Int × SL)) => xs.length - q.1) (0, .slice none 0 0, []) ⟨by first | omega | (dsimp only <;> omega), rfl, rfl⟩ K3 K4 ?_
 rintro ⟨i, vo, zs⟩ ⟨hi, hz, hzl⟩
 dsimp only at hi hz hzl
 simp only [List.cons_append, List.nil_append]
 refine Zb <|Zb <|Zd <|mv J J <|mv J J <|dt (Zy J J (i := 1) J Zi uT23) J <|dt (Yw J J J) J <|Zc <|Za <|Zn J (fun h41 => ?_) (fun h41 => ?_)
 ·refine Zk <|Za <|Zb <|Zm <|Zd <|mv J J <|mv J J <|mv J J <|dt (Yf (ii := 1) J J J J Zi uT23 zT28 J (by first | omega | (simp only [List.length_set]; omega))) J <|dt (Yn (ii := 1) 0 J J J Zi pV (by first | omega | (simp only [List.length_set]; omega))) J <|tt (Zg (n := 2) (r_from _ (by have := hs.getD i; omega)) J J J K1 cF49 Ze J hw) J fun v _ => l_ex (f_slice 2 J Zi) (fun sl hsl => ?_)
  subst hsl
  exact tt (Xm (i := 3) (ivs := [(0, _)]) (enc := encI) [(xs.getD i 0, sl)] J J J K2 uT33 Tryz.ti39 J J J J J J pI.cells J J hw) J fun v_2 _ => tt (t_appa (i := 70) (j := 3) (by_ := 32) J J J J J J (by decide) J (Ye pI) uT33 Tryz.ti39 J pI J J J (by simp; omega) (by decide) J hw) J fun v_3 _ => Zl J J <|Zc <|Xl <|Za <|Zd <|mv J J <|dt (Yg J J J ⟨by omega, by omega⟩) J <|Zl J J <|Zc <|Xz (Qe (q := qI) (z := (xs.getD i 0, sl)) 71 2 71 J J J J J) <|Yv (i + 1, _, zs ++ [(xs.getD i 0, sl)]) ⟨by first | omega | (dsimp only <;> omega), by rw [take_snoc 0 _ _ (by omega), ← hz]; simp [ints], by simp [hzl]⟩ (by first | omega | (dsimp only <;> omega)) K3 K4
 ·exact Yo <|Zt <|Zt <|Xr <|Za <|Zb <|Yh (Xk 70 J J pI) <|Yh (s_mkdeep 70 71 72 J J J J) <|Zd <|mv J J <|Zl J J <|Zc <|Za <|Zq <|Zr (.inl J) hsc (_, zs) _ (fun a w hs => Yr hs Tryz.results15 J) J (by rw [hz, List.take_of_length_le (by omega)]) J (Xw 72 J J J Zj)
theorem rp_to (v : Value) (zs : List (Int × SL)) (hs : Sz 1000000 (ints zs)) (hl : zs.length ≤ 1000) : Cal Tryz.prog 25 #[v] [pp v zs] false (G := Value) (fun r => True) (fun r => r) (fun r => [slp 2 wv r (ints zs)]) := by
 refine Ya Tryz.func25 J Tryz.ntmps25 J K1 ?_
 intro w0 sc hw hsc
 simp only [Zp, Zo]
 have hli := length_ints zs
 refine Zb <|Zd <|Zl J J <|Zc <|Za <|Zb <|Zd <|Zl J J <|Zc <|Za <|Zb <|Zb <|Zd <|Zl J J <|Zc <|Za <|Zm <|Yh (Xy 70 2 28 wv) <|Xv [(0, _)] [(0, _), (1, _)] (fun (q : Nat × Value) => [(4, .int .i64 (q.1 : Int)), (3, q.2)]) (fun (q : Nat × Value) => [(70, osl 2 28 wv q.2 ((ints zs).take q.1))]) (fun (q : Nat × Value) => (q.1 ≤ zs.length)) (fun (q : Nat × Value) => zs.length - q.1) (0, .slice none 0 0) (by first | omega | (dsimp only <;> omega)) K3 K3 ?_
 rintro ⟨i, vo⟩ hi
 dsimp only at hi
 simp only [List.cons_append, List.nil_append]
 have htl : ((ints zs).take i).length = i := by rw [List.length_take]; omega
 have hci := cf_ints zs i
 refine Zb <|Zb <|Zd <|mv J J <|mv J J <|dt (Zy J J (i := 1) J Yx uT33) J <|dt (Yw J J J) J <|Zc <|Za <|Zn J (fun h50 => ?_) (fun h50 => ?_)
 ·exact Zk <|Za <|Zb <|Zm <|Zd <|mv J J <|mv J J <|mv J J <|dt (Yf (ii := 1) J J J J Yx uT33 zT39 J (by first | omega | (simp only [List.length_set]; omega))) J <|dt (Yn (ii := 1) I0 J J J Yx pI (by first | omega | (simp only [List.length_set]; omega))) J <|tt (Zg (n := 1) (r_to _ _ (by rw [hci]; have := hs i; omega)) J J J K1 cF17 (pre_dI 1 J J (getD_mem (by omega)) Ze) J hw) J fun _ _ => tt (Xm (i := 2) (ivs := [(0, _)]) (enc := wv) [(zs.getD i I0).1] J J J K2 uT23 Tryz.ti28 J J J J J J pV.cells J J hw) J fun v _ => tt (t_appa (i := 70) (j := 2) (by_ := 24) J J J J J J (by decide) J (Ye pV) uT23 Tryz.ti28 J pV J J J (by simp; omega) (by decide) J hw) J fun v_2 _ => Zl J J <|Zc <|Xl <|Za <|Zd <|mv J J <|dt (Yg J J J ⟨by omega, by omega⟩) J <|Zl J J <|Zc <|Yv (i + 1, _) (by first | omega | (dsimp only <;> omega)) (by first | omega | (dsimp only <;> omega)) K3 ⟨by rw [take_snoc 0 _ _ (by omega), show (ints zs).getD i 0 = (zs.getD i I0).1 from hci.symm]; rfl, rfl, rfl, trivial⟩
 ·exact Yo <|Zt <|Zt <|Xr <|Za <|Zb <|Zd <|mv J J <|Zl J J <|Zc <|Za <|Zq <|Zr (.inl J) hsc _ _ (fun a w hs => Yr hs Tryz.results25 J) J trivial J (Xs 70 J J pV (List.take_of_length_le (by omega)) Zj)
theorem rp_trim (v : Value) (zs : List (Int × SL)) (hs : Sz 3000000000 (ints zs)) : Cal Tryz.prog 83 #[v] [pp v zs] true (G := Value × List (Int × SL)) (fun r => ints r.2 = tzl (ints zs)) (fun r => r.1) (fun r => [pp r.1 r.2]) := by
 refine Ya Tryz.func83 J Tryz.ntmps83 J K1 ?_
 intro w0 sc hw hsc
 simp only [Zp, Zo]
 refine Qh (f_self_deep (i := 1) J) fun hself => Qh (f_len (i := 1) J Yx) (fun hlen => ?_)
 have hli := length_ints zs
 refine Zb <|Zd <|Zl J J <|Zc <|Za <|Zb <|Zm <|Xv [] [(0, _)] (fun (k : Nat) => [(0, preV v k)]) (fun (k : Nat) => [(1, pp (preV v k) (zs.take k))]) (fun (k : Nat) => (k ≤ zs.length) ∧ (tzl ((ints zs).take k) = tzl (ints zs))) (fun (k : Nat) => k) zs.length ⟨Nat.le_refl _, by rw [List.take_of_length_le (by omega)]⟩ ⟨by rw [hself]; rfl, trivial⟩ ⟨by rw [hself, List.take_length]; rfl, rfl, trivial⟩ ?_
 rintro k ⟨hk, ht⟩
 simp only [List.cons_append, List.nil_append]
 have hl : (zs.take k).length = k := by rw [List.length_take]; omega
 have hce : ((zs.take k).getD (k - 1) I0).1 = ((ints zs).take k).getD (k - 1) 0 := by rw [cf_ints, take_ints]; rfl
 refine Zb <|Zb <|Zd <|mv J J <|dt (Zy J J (i := 1) J Yx uT33) J <|dt (Xd J J J) J <|mv J J <|Xo (d := 6) J (fun s22 => ?_) (fun s22 => ?_)
 ·refine Yj (Zv J J) J J J J <|Yj (Zv J J) J J J J <|Yj (Zy J J (i := 1) J Yx uT33) J J J J <|Yj (Xc J J J ⟨by omega, by omega⟩) J J J J <|Yj (Yf (ii := 1) (i := k - 1) J J J J Yx uT33 zT39 (by omega) (by omega)) J J J J <|Yj (Yn (ii := 1) I0 J J J Yx pI (by omega)) J J J J <|gtt (Zg (n := 1) (r_sign _ _ (by rw [hce]; exact (hs.take _).getD _)) J J J K1 cF61 (pre_dI 1 J J (getD_mem (by omega)) Ze) J hw) J J J J fun _ _ => Yj (Xu J J J) J J J J <|dt (Ym J J J) J <|Zc <|Za <|Zn J (fun h22 => ?_) (fun h22 => ?_)
  ·rw [hce] at h22
   have hstep := tzl_step (xs := ints zs) (k := k) (by omega) (by omega) (takeD_zero (k := k) (by omega) (Int.sign_eq_zero_iff_zero.1 h22))
   exact Zk <|Za <|Zm <|Zd <|mv J J <|mv J J <|dt (Zy J J (i := 1) J Yx uT33) J <|dt (Xc J J J ⟨by omega, by omega⟩) J <|dt (d_pre (ii := 1) (i := k - 1) J J J J Yx uT33 zT39 (by omega) (by omega)) J <|Zl J J <|Zc <|Xl <|Xz (s_predeep 1 1 (k - 1) J J (by omega)) <|Yv (k - 1) ⟨by first | omega | (dsimp only <;> omega), by rw [← ht, ← hstep]⟩ (by first | omega | (dsimp only <;> omega)) ⟨by rw [← preV_preV v k (k - 1)]; rfl, trivial⟩ ⟨by rw [preV_preV, List.take_take, Nat.min_eq_left (by omega)]; rfl, rfl, trivial⟩
  ·try rw [hce] at h22
   exact Yo <|Zt <|Zt <|Xr <|Za <|Zb <|Zd <|mv J J <|Zl J J <|Zc <|Za <|Zq <|Zr (.inl J) hsc (_, zs.take k) _ (fun a w hs => Yr hs Tryz.results83 J) J (by rw [take_ints, ← ht]; exact (tzl_stop (by omega) (by first | (left; omega) | (right; exact takeD_ne (k := k) (by omega) (by assumption)))).symm) J (Xw 1 J J J Zj)
 ·exact Yy J J J J J <|Yy J J J J J <|Yy J J J J J <|Yy J J J J J <|Yy J J J J J <|Yy J J J J J <|Yy J J J J J <|Yy J J J J J <|dt (Zs J J J) J <|Zc <|Za <|Yd J <|Yo <|Zt <|Zt <|Xr <|Za <|Zb <|Zd <|mv J J <|Zl J J <|Zc <|Za <|Zq <|Zr (.inl J) hsc (_, zs.take k) _ (fun a w hs => Yr hs Tryz.results83 J) J (by rw [take_ints, ← ht]; exact (tzl_stop (by omega) (by first | (left; omega) | (right; exact takeD_ne (k := k) (by omega) (by assumption)))).symm) J (Xw 1 J J J Zj)
theorem rp_nums (v : Value) (l : List Int) (hl : ∀ x ∈ l, inI x) (hlen : l.length ≤ 1000) : Cal Tryz.prog 33 #[v] [slp 1 encZ v l] true (G := Value × List (Int × SL)) (fun r => ints r.2 = tzl l) (fun r => r.1) (fun r => [pp r.1 r.2]) := by
 refine Ya Tryz.func33 J Tryz.ntmps33 J K1 ?_
 intro w0 sc hw hsc
 simp only [Zp, Zo]
 have hsz := sz_ints hl
 refine Zb <|Zd <|Zl J J <|Zc <|Za <|Zb <|Zd <|Zl J J <|Zc <|Za <|Zb <|Zb <|Zd <|Zl J J <|Zc <|Za <|Zm <|Yh (Xy 70 2 39 encI) <|Yh (s_many_nil qI 71) <|Xv [(0, _)] [(0, _), (1, _)] (fun (q : Nat × Value × List (Int × SL)) => [(4, .int .i64 (q.1 : Int)), (3, q.2.1)]) (fun (q : Nat × Value × List (Int × SL)) => [(70, osl 2 39 encI q.2.1 q.2.2), (71, many qI q.2.2)]) (fun (q : Nat × Value × List (Int × SL)) => (q.1 ≤ l.length) ∧ (ints q.2.2 = mk q.1 (cf l)) ∧ (q.2.2.length = q.1)) (fun (q : Nat × Value × List (Int × SL)) => l.length - q.1) (0, .slice none 0 0, []) ⟨by first | omega | (dsimp only <;> omega), rfl, rfl⟩ K3 K4 ?_
 rintro ⟨i, vo, ws⟩ ⟨hi, hz, hzl⟩
 dsimp only at hi hz hzl
 simp only [List.cons_append, List.nil_append]
 refine Zb <|Zb <|Zd <|mv J J <|mv J J <|dt (Zy J J (i := 1) J Zi uT37) J <|dt (Yw J J J) J <|Zc <|Za <|Zn J (fun h59 => ?_) (fun h59 => ?_)
 ·refine Zk <|Za <|Zb <|Zm <|Zd <|mv J J <|mv J J <|mv J J <|dt (Yf (ii := 1) J J J J Zi uT37 zT3 J (by first | omega | (simp only [List.length_set]; omega))) J <|dt (Yn (ii := 1) 0 J J J Zi pZ (by first | omega | (simp only [List.length_set]; omega))) J <|tt (Zg (n := 2) (r_num _ (hl _ (getD_mem (by omega)))) J J J K1 cF43 Ze J hw) J fun v _ => l_ex (f_slice 2 J Zi) (fun sl hsl => ?_)
  subst hsl
  exact tt (Xm (i := 3) (ivs := [(0, _)]) (enc := encI) [(l.getD i 0, sl)] J J J K2 uT33 Tryz.ti39 J J J J J J pI.cells J J hw) J fun v_2 _ => tt (t_appa (i := 70) (j := 3) (by_ := 32) J J J J J J (by decide) J (Ye pI) uT33 Tryz.ti39 J pI J J J (by simp; omega) (by decide) J hw) J fun v_3 _ => Zl J J <|Zc <|Xl <|Za <|Zd <|mv J J <|dt (Yg J J J ⟨by omega, by omega⟩) J <|Zl J J <|Zc <|Xz (Qe (q := qI) (z := (l.getD i 0, sl)) 71 2 71 J J J J J) <|Yv (i + 1, _, ws ++ [(l.getD i 0, sl)]) ⟨by first | omega | (dsimp only <;> omega), by rw [ints_snoc, mk_succ, hz]; dsimp only; rfl, by simp [hzl]⟩ (by first | omega | (dsimp only <;> omega)) K3 K4
 ·exact Yo <|Zt <|Zt <|Xr <|Za <|Zb <|Yh (Xk 70 J J pI) <|Yh (s_mkdeep 70 71 72 J J J J) <|Zd <|mv J J <|tt (Zg (n := 4) (rp_trim _ _ (by rw [hz]; exact mk_sz fun t ht => by have := hsz t; omega)) J J J K1 cF83 (Zf 72 J J J Ze) J hw) J fun g hg => Zl J J <|Zc <|Za <|Zq <|Zr (.inl J) hsc _ _ (fun a w hs => Yr hs Tryz.results33 J) J (by rw [hg, hz, show i = l.length by omega, mk_self]) J (Xw 4 J J J Zj)
theorem rp_at (v : Value) (zs : List (Int × SL)) (j : Int) (i : Nat) (hj : j = (i : Int)) (hi : i ≤ 1000000) : Cal Tryz.prog 84 #[v, .int .i64 j] [pp v zs] true (G := Value) (fun r => True) (fun r => .agg #[.bool (decide (cf (ints zs) i < 0)), r]) (fun r => [d9p r (cf (ints zs) i).natAbs]) := by
 refine Ya Tryz.func84 J Tryz.ntmps84 J K1 ?_
 intro w0 sc hw hsc
 simp only [Zp, Zo]
 have hli := length_ints zs
 refine Qh (f_len (i := 1) J Yx) fun hlen => Yh (Xy 60 1 3 encN) <|Yh (Xk 60 J J pN) <|Zb <|Zd <|tt (Zx (i := 2) J J J Tryz.zeroValue39 J J hw) J fun b _ => Zc <|Za <|Zb <|Zb <|Zd <|mv J J <|dt (Yw J J J) J <|mv J J <|Xo (d := 7) J (fun s91 => ?_) (fun s91 => ?_)
 ·exfalso; omega
 ·refine Yj (Zv J J) J J J J <|Yj (Zv J J) J J J J <|Yj (Zy J J (i := 1) J Yx uT33) J J J J <|Yj (Qb J J J) J J J J <|dt (Zs J J J) J <|Zc <|Za <|Zn J (fun h91 => ?_) (fun h91 => ?_)
  ·refine Zb <|Zd <|dt (Xx (ivs := []) J trivial (fun a w hs => b39_)) J <|tt (Zu (i := 2) J J J J J (by decide) J zT39 J J ⟨(Zh J), (Zh J), trivial⟩ J hw trivial) J fun _ _ => Zc <|Za <|Zq <|Yp ?_
   have hz0 : cf (ints zs) i = 0 := cf_ge (by omega)
   exact Zr (.inl J) hsc (.slice none 0 0) _ (fun a w hs => Yr hs Tryz.results84 (Yl (i := 2) J J iA39 zT39 J)) (by rw [hz0] <;> rfl) trivial J (give_none (by rw [hz0]; rfl) Zj)
  ·exact Zk <|Za <|Zb <|Zd <|mv J J <|mv J J <|dt (Yf (ii := 1) (i := i) J J J J Yx uT33 zT39 hj (by omega)) J <|dt (Yn (ii := 1) I0 J J J Yx pI (by omega)) J <|tt (Zu (i := 2) J J J J J (by decide) J zT39 J J ⟨(Zh J), (Zh J), trivial⟩ J hw trivial) J fun _ _ => Zc <|Za <|Zq <|Zr (.inl J) hsc _ _ (fun a w hs => Yr hs Tryz.results84 (Yl (i := 2) J J iA39 zT39 J)) (by rw [← cf_ints] <;> rfl) trivial J (give_dI 1 J J (getD_mem (i := i) (by omega)) (by rw [← cf_ints] <;> rfl) Zj)
theorem rp_scale (v w : Value) (zs : List (Int × SL)) (y : Int) (hs : Sz 1000000 (ints zs)) (hl : zs.length ≤ 1000) (hy : bl y.natAbs ≤ 1000000) : Cal Tryz.prog 47 #[v, .agg #[.bool (decide (y < 0)), w]] [pp v zs, d9p w y.natAbs] true (G := Value × List (Int × SL)) (fun r => ints r.2 = pscale (ints zs) y) (fun r => r.1) (fun r => [pp r.1 r.2]) := by
 refine Ya Tryz.func47 J Tryz.ntmps47 J K2 ?_
 intro w0 sc hw hsc
 simp only [Zp, Zo]
 have hli := length_ints zs
 refine Zb <|Zd <|tt (Yq (i := 3) J J J J J J hw) J fun b _ => Zl J J <|Zc <|Za <|Zb <|Zd <|Zl J J <|Zc <|Za <|Zb <|Zb <|Zd <|Zl J J <|Zc <|Za <|Zm <|Yh (Xy 70 2 39 encI) <|Yh (s_many_nil qI 71) <|Xv [(0, _), (3, _)] [(0, _), (1, _), (2, _), (3, _)] (fun (q : Nat × Value × List (Int × SL)) => [(6, .int .i64 (q.1 : Int)), (5, q.2.1)]) (fun (q : Nat × Value × List (Int × SL)) => [(70, osl 2 39 encI q.2.1 q.2.2), (71, many qI q.2.2)]) (fun (q : Nat × Value × List (Int × SL)) => (q.1 ≤ zs.length) ∧ (ints q.2.2 = mk q.1 (fun t => cf (ints zs) t * y)) ∧ (q.2.2.length = q.1)) (fun (q : Nat × Value × List (Int × SL)) => zs.length - q.1) (0, .slice none 0 0, []) ⟨by first | omega | (dsimp only <;> omega), rfl, rfl⟩ K4 K6 ?_
 rintro ⟨i, vo, ws⟩ ⟨hi, hz, hzl⟩
 dsimp only at hi hz hzl
 simp only [List.cons_append, List.nil_append]
 have hci := cf_ints zs i
 refine Zb <|Zb <|Zd <|mv J J <|mv J J <|dt (Zy J J (i := 1) J Yx uT33) J <|dt (Yw J J J) J <|Zc <|Za <|Zn J (fun h109 => ?_) (fun h109 => ?_)
 ·refine Zk <|Za <|Zb <|Zm <|e_dregf [1, 3] [9] (by kernel_rfl) <|Yu (n := 3) [(0, 0), (1, 0), (2, 0), (3, 0), (4, 0), (5, 0), (6, 1)] (by kernel_rfl) <|r0' J J J J (stf (Zv J J) K2) <|r0' J J J J (stf (Zv J J) K2) <|r0' J J J J (stf (Zv J J) K2) <|r0' J J J J (stf (Yf (ii := 1) J J J J Yx uT33 zT39 J (by first | omega | (simp only [List.length_set]; omega))) K2) <|r0' J J J J (stf (Yn (ii := 1) I0 J J J Yx pI (by first | omega | (simp only [List.length_set]; omega))) K2) <|r0' J J J J (stf (Yc (i := 3) J J J iA39 zT39 J J) K2) <|r1' J J (Zg (n := 4) (r_mul _ _ _ _ (by rw [hci]; have := hs i; omega) (by omega)) J J J K2 cF44 (pre_dI 1 J J (getD_mem (by omega)) (Zf 2 J J J Ze)) J hw) fun v _ => Xh <|a_ex (f_slice 4 J Zi) (fun sl hsl => ?_)
  subst hsl
  exact Yu (n := 0) [(7, 1), (8, 1), (9, 3)] (by kernel_rfl) <|r1' J J (Xm (i := 73) (ivs := [(0, _)]) (enc := encI) [((zs.getD i I0).1 * y, sl)] J J J K2 uT33 Tryz.ti39 J J J J J J pI.cells J J hw) fun v_2 _ => r1' J J (t_offr 70 J J J K2 (fun hoffr => (t_appaM (xs := ws) (ys := [_]) (i := 70) (j := 73) (by_ := 32) J J J J J J (by decide) J (Ye pI) uT33 Tryz.ti39 J pI J J J (by simp; omega) (by decide) J hw hoffr))) fun v_3 _ => r3' J J (Qa (Qf J J) J J) fun _ _ => Xh <|Xg (by kernel_rfl) <|Xl <|Za <|Zd <|mv J J <|dt (Yg J J J ⟨by omega, by omega⟩) J <|Zl J J <|Zc <|Xz (Qe (q := qI) (z := ((zs.getD i I0).1 * y, sl)) 71 4 71 J J J J J) <|Yv (i + 1, _, ws ++ [((zs.getD i I0).1 * y, sl)]) ⟨by first | omega | (dsimp only <;> omega), by rw [ints_snoc, mk_succ, hz]; dsimp only; rw [cf_ints], by simp [hzl]⟩ (by first | omega | (dsimp only <;> omega)) K4 K6
 ·exact Yo <|Zt <|Zt <|Xr <|Za <|Zb <|Yh (Xk 70 J J pI) <|Yh (s_mkdeep 70 71 72 J J J J) <|Zd <|mv J J <|tt (Zg (n := 5) (rp_trim _ _ (by rw [hz]; exact mk_sz fun t ht => by have := bl_imul (cf (ints zs) t) y; have := hs t; omega)) J J J K1 cF83 (Zf 72 J J J Ze) J hw) J fun g hg => Zl J J <|Zc <|Za <|Zq <|Zr (.inl J) hsc _ _ (fun a w hs => Yr hs Tryz.results47 J) J (by rw [hg, hz, show i = (ints zs).length by omega, pscale_mk2]) J (Xw 5 J J J Zj)
theorem rp_mul (v u : Value) (zs ys : List (Int × SL)) (hs : Sz 1000000 (ints zs)) (hl : zs.length ≤ 60) (ht : Sz 1000000 (ints ys)) (hk : ys.length ≤ 60) : Cal Tryz.prog 34 #[v, u] [pp v zs, pp u ys] true (G := Value × List (Int × SL)) (fun r => ints r.2 = pmul (ints zs) (ints ys)) (fun r => r.1) (fun r => [pp r.1 r.2]) := by
 refine Ya Tryz.func34 J Tryz.ntmps34 J K2 ?_
 intro w0 sc hw hsc
 simp only [Zp, Zo]
 have hli := length_ints zs
 have hli2 := length_ints ys
 have htb : ∀ i k, bl (cf (ints zs) k * cf (ints ys) (i - k)).natAbs ≤ 2000000 := fun i k => by have := bl_imul (cf (ints zs) k) (cf (ints ys) (i - k)); have := hs k; have := ht (i - k); omega
 have hsb : ∀ i n, n ≤ 1000 → bl (sumTo (fun k => cf (ints zs) k * cf (ints ys) (i - k)) n).natAbs ≤ 2000010 := fun i n hn => bl_sumn (fun t _ => htb i t) (by omega)
 refine Zb <|Zd <|Zl J J <|Zc <|Za <|Zb <|Zd <|Zl J J <|Zc <|Za <|Zb <|Zb <|Zd <|Zl J J <|Zc <|Za <|Zm <|Yh (Xy 70 2 39 encI) <|Yh (s_many_nil qI 71) <|Xv [(0, _), (1, _)] [(0, _), (1, _), (2, _)] (fun (q : Nat × Value × List (Int × SL)) => [(6, .int .i64 (q.1 : Int)), (5, q.2.1)]) (fun (q : Nat × Value × List (Int × SL)) => [(70, osl 2 39 encI q.2.1 q.2.2), (71, many qI q.2.2)]) (fun (q : Nat × Value × List (Int × SL)) => (q.1 ≤ (zs.length + ys.length - 1)) ∧ (ints q.2.2 = mk q.1 (fun t => sumTo (fun a9 => cf (ints zs) a9 * cf (ints ys) (t - a9)) (t + 1))) ∧ (q.2.2.length = q.1)) (fun (q : Nat × Value × List (Int × SL)) => (zs.length + ys.length - 1) - q.1) (0, .slice none 0 0, []) ⟨by first | omega | (dsimp only <;> omega), rfl, rfl⟩ K4 K5 ?_
 rintro ⟨i, vo, ws⟩ ⟨hi, hz, hzl⟩
 dsimp only at hi hz hzl
 simp only [List.cons_append, List.nil_append]
 refine Zb <|Zb <|Zd <|mv J J <|mv J J <|dt (Zy J J (i := 1) J Yx uT33) J <|mv J J <|dt (Zy J J (i := 2) J Yx uT33) J <|dt (Yg J J J ⟨by omega, by omega⟩) J <|dt (Xc J J J ⟨by omega, by omega⟩) J <|dt (Yw J J J) J <|Zc <|Za <|Zn J (fun h124 => ?_) (fun h124 => ?_)
 ·refine Zk <|Za <|Zb <|Zm <|Zb <|Zd <|dt (Xx (ivs := []) J trivial (fun a w hs => b39_)) J <|tt (Zx (i := 97) J J J Tryz.zeroValue39 J J hw) J fun b _ => tt (Zu (i := 97) J J J J J (by decide) J zT39 J J ⟨(Zh J), (Zh J), trivial⟩ J hw trivial) J fun _ _ => Zc <|Za <|Zb <|Zb <|Zd <|Zl J J <|Zc <|Za <|Zm <|Yh (Xy 98 1 3 encN) <|Yh (Xk 98 J J pN) <|Xv [(0, _), (1, _), (5, _), (6, _), (7, _)] [(0, _), (70, _), (71, _), (1, _), (2, _)] (fun (q : Nat × Value) => [(8, .int .i64 (q.1 : Int))]) (fun (q : Nat × Value) => [(97, box b 39 #[.bool (decide (sumTo (fun a9 => cf (ints zs) a9 * cf (ints ys) (i - a9)) q.1 < 0)), q.2]), (98, d9p q.2 (sumTo (fun a9 => cf (ints zs) a9 * cf (ints ys) (i - a9)) q.1).natAbs)]) (fun (q : Nat × Value) => (q.1 ≤ i + 1)) (fun (q : Nat × Value) => i + 1 - q.1) (0, .slice none 0 0) (by first | omega | (dsimp only <;> omega)) K6 K7 ?_
  rintro ⟨k, vs⟩ hk1
  dsimp only at hk1
  simp only [List.cons_append, List.nil_append]
  have h1 := hsb i k
  have h2 := htb i k
  have h3 := hs k
  have h4 := ht (i - k)
  refine Zb <|Zb <|Zd <|mv J J <|mv J J <|dt (d_leq J J J) J <|Zc <|Za <|Zn J (fun h126 => ?_) (fun h126 => ?_)
  ·refine Zk <|Za <|Zb <|Zm <|Xa (fun _ => False) [(0, 0), (1, 0), (2, 0), (4, 0), (5, 0), (6, 0), (7, 0), (3, 1), (8, 1), (9, 1), (10, 1), (11, 3)] (by kernel_rfl) ?_ ?_
   ·kernel_rfl
   exact r0' J J J J (st0 (Yc (i := 97) J J J iA39 zT39 J J)) <|r0' J J J J (st0 (Zv J J)) <|r0' J J J J (st0 (Zv J J)) <|r0' J J J J (st0 (Zv J J)) <|r0' J J J J (st0 (Zv J J)) <|r0' J J J J (st0 (Zv J J)) <|r0' J J J J (st0 (Xc J J J ⟨by omega, by omega⟩)) <|r1' J J (Zg (n := 3) (rp_at _ _ _ k J (by omega)) J J J K2 cF84 (Zf 1 J J J Ze) J hw) fun v _ => r1' J J (Zg (n := 4) (rp_at _ _ _ (i - k) (by omega) (by omega)) J J J K2 cF84 (Zf 2 J J J Ze) J hw) fun v_2 _ => r1' J J (Zg (n := 5) (r_mul _ _ _ _ (by omega) (by omega)) J J J K2 cF44 (Zf 3 J J J (Zf 4 J J J Ze)) J hw) fun v_3 _ => r1' J J (Zg (n := 6) (r_add _ _ _ _ (by omega) (by omega)) J J J K2 cF42 (Zf 98 J J J (Zf 5 J J J Ze)) J hw) fun v_4 _ => r3' J J (Zu (i := 97) J J J J J (by decide) J zT39 J J ⟨(Zh J), (Yb (i := 6) J Zi), trivial⟩ J hw trivial) fun _ _ => Xn <|Xl <|Za <|Zd <|mv J J <|dt (Yg J J J ⟨by omega, by omega⟩) J <|Zl J J <|Zc <|Xz (s_dup 6 98 J J J) <|Yv (k + 1, v_4) (by first | omega | (dsimp only <;> omega)) (by first | omega | (dsimp only <;> omega)) K6 ⟨by rw [sumTo_succ]; rfl, by rw [sumTo_succ]; rfl, rfl, rfl, rfl, rfl, rfl, trivial⟩
  ·refine Yo <|Zt <|Zt <|Xr <|Za ?_
   obtain rfl : k = i + 1 := by omega
   refine e_ex (f_slice 98 J Zi) (fun sl hsl => ?_)
   subst hsl
   exact Zd <|mv J J <|dt (Yc (i := 97) J J J iA39 zT39 J J) J <|tt (Xm (i := 7) (ivs := [(0, _)]) (enc := encI) [(sumTo (fun a9 => cf (ints zs) a9 * cf (ints ys) (i - a9)) (i + 1), sl)] J J J K2 uT33 Tryz.ti39 J J J J J J pI.cells J J hw) J fun v_5 _ => tt (t_appa (i := 70) (j := 7) (by_ := 32) J J J J J J (by decide) J (Ye pI) uT33 Tryz.ti39 J pI J J J (by simp; omega) (by decide) J hw) J fun v_6 _ => Zl J J <|Zc <|Xl <|Za <|Zd <|mv J J <|dt (Yg J J J ⟨by omega, by omega⟩) J <|Zl J J <|Zc <|Xz (Qe (q := qI) (z := (sumTo (fun a9 => cf (ints zs) a9 * cf (ints ys) (i - a9)) (i + 1), sl)) 71 98 71 J J J J J) <|Yv (i + 1, _, ws ++ [(sumTo (fun a9 => cf (ints zs) a9 * cf (ints ys) (i - a9)) (i + 1), sl)]) ⟨by first | omega | (dsimp only <;> omega), by rw [ints_snoc, mk_succ, hz], by simp [hzl]⟩ (by first | omega | (dsimp only <;> omega)) K4 K5
 ·refine Yo <|Zt <|Zt <|Xr <|Za <|Zb <|Zb <|Zd <|mv J J <|dt (Zy J J (i := 1) J Yx uT33) J <|dt (Xu J J J) J <|mv J J <|Xo (d := 43) J (fun s131 => ?_) (fun s131 => ?_)
  ·refine Yy J J J J J <|Yy J J J J J <|Yy J J J J J <|dt (Ym J J J) J <|Zc <|Za <|Qi J <|Zb <|Zd <|Zl J J <|Zc <|Za <|Zq <|Yp <|Xz (s_deep_nil 62) ?_
   have hp0 : pmul (ints zs) (ints ys) = [] := pmul_nil (by first | (left; omega) | (right; omega))
   exact Zr (.inl J) hsc (.slice none 0 0, []) _ (fun a w hs => Yr hs Tryz.results34 J) J (by rw [hp0] <;> rfl) J (Xw 62 J J J Zj)
  ·refine Yj (Zv J J) J J J J <|Yj (Zy J J (i := 2) J Yx uT33) J J J J <|Yj (Xu J J J) J J J J <|dt (Zs J J J) J <|Zc <|Za <|Zn J (fun h131 => ?_) (fun h131 => ?_)
   ·refine Zb <|Zd <|Zl J J <|Zc <|Za <|Zq <|Yp <|Xz (s_deep_nil 62) ?_
    have hp0 : pmul (ints zs) (ints ys) = [] := pmul_nil (by first | (left; omega) | (right; omega))
    exact Zr (.inl J) hsc (.slice none 0 0, []) _ (fun a w hs => Yr hs Tryz.results34 J) J (by rw [hp0] <;> rfl) J (Xw 62 J J J Zj)
   ·exact Zk <|Za <|Zb <|Yh (Xk 70 J J pI) <|Yh (s_mkdeep 70 71 72 J J J J) <|Zd <|mv J J <|tt (Zg (n := 8) (rp_trim _ _ (by rw [hz]; exact mk_sz fun t h => by have := hsb t (t + 1) (by omega); omega)) J J J K1 cF83 (Zf 72 J J J Ze) J hw) J fun g hg => Zl J J <|Zc <|Za <|Zq <|Zr (.inl J) hsc _ _ (fun a w hs => Yr hs Tryz.results34 J) J (by rw [hg, hz, show i = (ints zs).length + (ints ys).length - 1 by omega, pmul_mk]) J (Xw 8 J J J Zj)
theorem r_same (v u : Value) (r t : List (Bool × ByteArray)) : Cal Tryz.prog 24 #[v, u] [slp 2 encW v r, slp 2 encW u t] false (G := Unit) (fun _ => True) (fun _ => .bool (decide (r = t))) (fun _ => []) := by
 refine Ya Tryz.func24 J Tryz.ntmps24 J K2 ?_
 intro w0 sc hw hsc
 simp only [Zp, Zo]
 refine Qh (f_len (i := 1) J Zi) fun hlr => Qh (f_len (i := 2) J Zi) fun hlt => Zb <|Zd <|Zl J J <|Zc <|Za <|Zb <|Zb <|Zd <|mv J J <|dt (Zy J J (i := 1) J Zi uT23) J <|mv J J <|dt (Zy J J (i := 2) J Zi uT23) J <|dt (Ys J J J) J <|Zc <|Za <|Zn J (fun h78 => ?_) (fun h78 => ?_)
 ·exact Zb <|Zd <|Zl J J <|Zc <|Za <|Zq <|Yp <|Zr (.inl J) hsc () _ (fun a w hs => Yr hs Tryz.results24 J) (by rw [decide_eq_false (fun e => by subst e; exact h78 rfl)]) trivial J Zj
 ·have hle : r.length = t.length := by omega
  refine Zk <|Za <|Zb <|Zb <|Zd <|Zl J J <|Zc <|Za <|Zm <|Xv [(0, _), (1, _)] [(0, _), (1, _), (2, _)] (fun (k : Nat) => [(5, .int .i64 (k : Int))]) (fun (k : Nat) => []) (fun (k : Nat) => (k ≤ r.length) ∧ (r.take k = t.take k)) (fun (k : Nat) => r.length - k) 0 ⟨by first | omega | (dsimp only <;> omega), by simp⟩ K3 K3 ?_
  rintro k ⟨hk, ht⟩
  simp only [List.cons_append, List.nil_append]
  refine Zb <|Zb <|Zd <|mv J J <|mv J J <|dt (Zy J J (i := 1) J Zi uT23) J <|dt (Yw J J J) J <|Zc <|Za <|Zn J (fun h81 => ?_) (fun h81 => ?_)
  ·refine Zk <|Za <|Zb <|Zm <|Zb <|Xa (fun _ => False) [(0, 0), (1, 0), (2, 0), (3, 0), (4, 0), (5, 0), (6, 0), (7, 0), (8, 0)] (by kernel_rfl) ?_ ?_
   ·kernel_rfl
   refine r0' J J J J (st0 (Zv J J)) <|r0' J J J J (st0 (Zv J J)) <|r0' J J J J (st0 (Yf (ii := 1) J J J J Zi uT23 zT28 J (by first | omega | (simp only [List.length_set]; omega)))) <|r0' J J J J (st0 (Yn (ii := 1) (false, ⟨#[]⟩) J J J Zi pW (by first | omega | (simp only [List.length_set]; omega)))) <|r0' J J J J (st0 (Zv J J)) <|r0' J J J J (st0 (Zv J J)) <|r0' J J J J (st0 (Yf (ii := 2) J J J J Zi uT23 zT28 J (by first | omega | (simp only [List.length_set]; omega)))) <|r0' J J J J (st0 (Yn (ii := 2) (false, ⟨#[]⟩) J J J Zi pW (by first | omega | (simp only [List.length_set]; omega)))) <|r0' J J J J (st0 (d_eqg J J J eg28 (fun w => neq28 w _ _ _ _))) <|Xn <|Za <|Qn J (fun h82 => ?_) (fun h82 => ?_)
   ·exact Zb <|Zd <|Zl J J <|Zc <|Za <|Zq <|Qj <|Yp <|Yp <|Qj <|Yp <|Zr (.inl J) hsc () _ (fun a w hs => Yr hs Tryz.results24 J) (by rw [decide_eq_false (fun e => by rw [e] at h82; simp [eqW_refl] at h82)]) trivial J Zj
   ·exact Zk <|Xl <|Za <|Zd <|mv J J <|dt (Yg J J J ⟨by omega, by omega⟩) J <|Zl J J <|Zc <|Yv (k + 1) ⟨by first | omega | (dsimp only <;> omega), by rw [take_snoc (false, ⟨#[]⟩) _ _ (by omega), take_snoc (false, ⟨#[]⟩) _ _ (by omega), ht, eqW_pair (x := r.getD k (false, ⟨#[]⟩)) (y := t.getD k (false, ⟨#[]⟩)) (by simpa using h82)]⟩ (by first | omega | (dsimp only <;> omega)) K3 K3
  ·exact Yo <|Zt <|Zt <|Xr <|Za <|Zb <|Zd <|Zl J J <|Zc <|Za <|Zq <|Zr (.inl J) hsc () _ (fun a w hs => Yr hs Tryz.results24 J) (by rw [decide_eq_true (by rw [show k = r.length by omega, List.take_length, hle, List.take_length] at ht; exact ht)]) trivial J Zj
theorem r_same_ii (v u : Value) (xs ys : List Int) : Cal Tryz.prog 24 #[v, u] [slp 2 wv v xs, slp 2 wv u ys] false (G := Unit) (fun _ => True) (fun _ => .bool (decide (xs = ys))) (fun _ => []) := by
 have h := ((r_same v u (xs.map wr) (ys.map wr)).imp (slp_wr v xs) (fun _ h => h)).imp2 (slp_wr u ys) (fun _ h => h)
 rw [decide_eq_decide.2 (map_wr_iff xs ys)] at h; exact h
theorem rp_valid (v : Value) (r : List (Bool × ByteArray)) : Cal Tryz.prog 13 #[v] [slp 2 encW v r] false (G := Unit) (fun _ => True) (fun _ => .bool (okP r)) (fun _ => []) := by
 refine Ya Tryz.func13 J Tryz.ntmps13 J K1 ?_
 intro w0 sc hw hsc
 simp only [Zp, Zo]
 refine Qh (f_len (i := 1) J Zi) fun hlen => Zb <|Zd <|Zl J J <|Zc <|Za <|Zb <|Zb <|Zd <|Zl J J <|Zc <|Za <|Zm <|Xv [(0, _)] [(0, _), (1, _)] (fun (k : Nat) => [(3, .int .i64 (k : Int))]) (fun (k : Nat) => []) (fun (k : Nat) => (k ≤ r.length) ∧ ((r.take k).all (fun w => okW w.1 w.2) = true)) (fun (k : Nat) => r.length - k) 0 ⟨by first | omega | (dsimp only <;> omega), by simp⟩ K2 K2 ?_
 rintro k ⟨hk, ha⟩
 simp only [List.cons_append, List.nil_append]
 refine Zb <|Zb <|Zd <|mv J J <|mv J J <|dt (Zy J J (i := 1) J Zi uT23) J <|dt (Yw J J J) J <|Zc <|Za <|Zn J (fun h30 => ?_) (fun h30 => ?_)
 ·refine Zk <|Za <|Zb <|Zm <|Zb <|Zd <|mv J J <|mv J J <|dt (Yf (ii := 1) J J J J Zi uT23 zT28 J (by first | omega | (simp only [List.length_set]; omega))) J <|dt (Yn (ii := 1) (false, ⟨#[]⟩) J J J Zi pW (by first | omega | (simp only [List.length_set]; omega))) J <|tt (Zg (n := 1) (r_valid _ _) J J J K1 cF48 Ze J hw) J fun _ _ => dt (Xf J J) J <|Zc <|Za <|Qn J (fun h31 => ?_) (fun h31 => ?_)
  ·exact Zb <|Zd <|Zl J J <|Zc <|Za <|Zq <|Qj <|Yp <|Yp <|Qj <|Yp <|Zr (.inl J) hsc () _ (fun a w hs => Yr hs Tryz.results13 J) (by rw [okP_bad (getD_mem (i := k) (d := (false, ⟨#[]⟩)) (by omega)) (by simpa using h31)]) trivial J Zj
  ·exact Zk <|Xl <|Za <|Zd <|mv J J <|dt (Yg J J J ⟨by omega, by omega⟩) J <|Zl J J <|Zc <|Yv (k + 1) ⟨by first | omega | (dsimp only <;> omega), by rw [take_snoc (false, ⟨#[]⟩) _ _ (by omega), List.all_append, ha]; simpa using h31⟩ (by first | omega | (dsimp only <;> omega)) K2 K2
 ·refine Yo <|Zt <|Zt <|Xr <|Za <|Zb ?_
  obtain rfl : k = r.length := by omega
  rw [List.take_length] at ha
  refine Zd <|mv J J <|dt (Zy J J (i := 1) J Zi uT23) J <|dt (d_leq J J J) J <|mv J J <|Xo (d := 19) J (fun s35 => ?_) (fun s35 => ?_)
  ·refine Yj (Zv J J) J J J J <|Yj (Zy J J (i := 1) J Zi uT23) J J J J <|Yj (Xu J J J) J J J J <|Yj (Zv J J) J J J J <|Xo (d := 23) J (fun s35_2 => ?_) (fun s35_2 => ?_)
   ·exact Yy J J J J J <|Yy J J J J J <|Yy J J J J J <|Yy J J J J J <|Yy J J J J J <|Yy J J J J J <|Yy J J J J J <|Yy J J J J J <|Yy J J J J J <|Yj (Ym J J J) J J J J <|dt (Ym J J J) J <|Zl J J <|Zc <|Za <|Zq <|Zr (.inl J) hsc () _ (fun a w hs => Yr hs Tryz.results13 J) (by rw [okP_fin2 ha]; first | (rw [decide_eq_false (show ¬ r.length ≤ 25 by omega)]; rfl) | (rw [decide_eq_true (show r.length ≤ 25 by omega), decide_eq_true (show r.length = 0 by omega)]; rfl) | (rw [decide_eq_true (show r.length ≤ 25 by omega), decide_eq_false (show ¬ r.length = 0 by omega)]; rfl)) trivial J Zj
   ·exact Yj (Zv J J) J J J J <|Yj (Zv J J) J J J J <|Yj (Zy J J (i := 1) J Zi uT23) J J J J <|Yj (Xc J J J ⟨by omega, by omega⟩) J J J J <|Yj (Yf (ii := 1) (i := (r.length - 1)) J J J J Zi uT23 zT28 (by omega) (by omega)) J J J J <|Yj (d_fae (ii := 1) J J J Zi (by omega) uT28 J zT9 J) J J J J <|Yj (d_ldf (ii := 1) (false, ⟨#[]⟩) J J J Zi (by omega) iA9 J) J J J J <|Yj (Qc J J uT9) J J J J <|Yj (Xd J J J) J J J J <|Yj (Zs J J J) J J J J <|dt (Ym J J J) J <|Zl J J <|Zc <|Za <|Zq <|Zr (.inl J) hsc () _ (fun a w hs => Yr hs Tryz.results13 J) (by rw [okP_fin2 ha]; first | (rw [decide_eq_false (show ¬ r.length ≤ 25 by omega)]; rfl) | (rw [decide_eq_true (show r.length ≤ 25 by omega), decide_eq_true (show r.length = 0 by omega)]; rfl) | (rw [decide_eq_true (show r.length ≤ 25 by omega), decide_eq_false (show ¬ r.length = 0 by omega)]; rfl)) trivial J Zj
  ·exact Yy J J J J J <|Yy J J J J J <|Yy J J J J J <|Yy J J J J J <|gsku J J J <|gsku J J J <|gsku J J J <|gsku J J J <|gsku J J J <|gsku J J J <|gsku J J J <|gsku J J J <|gsku J J J <|Yy J J J J J <|dt (Zs J J J) J <|Zl J J <|Zc <|Za <|Zq <|Zr (.inl J) hsc () _ (fun a w hs => Yr hs Tryz.results13 J) (by rw [okP_fin2 ha]; first | (rw [decide_eq_false (show ¬ r.length ≤ 25 by omega)]; rfl) | (rw [decide_eq_true (show r.length ≤ 25 by omega), decide_eq_true (show r.length = 0 by omega)]; rfl) | (rw [decide_eq_true (show r.length ≤ 25 by omega), decide_eq_false (show ¬ r.length = 0 by omega)]; rfl)) trivial J Zj
theorem rp_valid_ok (v : Value) (xs : List Int) (h : Vp xs) : Cal Tryz.prog 13 #[v] [slp 2 wv v xs] false (G := Unit) (fun _ => True) (fun _ => .bool true) (fun _ => []) := okP_wr h ▸ (rp_valid v (xs.map wr)).imp (slp_wr v xs) (fun _ h => h)
end Go.Sky

