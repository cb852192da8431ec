/- rules, arithmetic and contracts: part 4
   Proved without conditions of its own: each theorem bears its own. -/
import Derived.Test.YtcegclhbeflgbaaGreatRows
import Derived.WalkKit
import Derived.ProofKit
import Derived.OpenShut
import Derived.ShutString
import Derived.ChangeOld
import Derived.Below
import Derived.Deep.Slices
import Derived.Lib.SmallJoins
import Derived.Test.YtcegclhbeflgbaaGreatSl02
import Derived.Test.YtcegclhbeflgbaaGreatSl01
set_option linter.all false
namespace Go.Sky
open Go.ChangeShapes Go.WideShapes Go.ChangeAt Go.RowKit Go.Joins Go.Deep
open Go.Proofs
set_option linter.unusedVariables false
variable {P : Program} {W : World} {H : Type} {enc : TypeId × Value → H}
end Go.Sky
namespace Go.Sky
set_option linter.unusedVariables false
set_option maxRecDepth 20000
theorem bl_sumn {K : Nat} {f : Nat → Int} {n : Nat} (h : ∀ i, i < n → bl (f i).natAbs ≤ K) (hn : n ≤ 1023) : bl (sumTo f n).natAbs ≤ K + 10 := by
  rw [bl_le]
  have h1 := bl_sum h
  have h2 : n * (2 ^ K - 1) ≤ 1023 * (2 ^ K - 1) := Nat.mul_le_mul_right _ hn
  have h3 : 0 < 2 ^ K := Nat.two_pow_pos K
  rw [Nat.pow_add]
  omega
theorem ints_snoc (zs : List (Int × SL)) (z : Int × SL) : ints (zs ++ [z]) = ints zs ++ [z.1] := by simp [ints]
theorem pmul_mk (p q : List Int) : tzl (mk (p.length + q.length - 1) fun t => sumTo (fun k => cf p k * cf q (t - k)) (t + 1)) = pmul p q := rfl
theorem pscale_len (p : List Int) (c : Int) : (pscale p c).length ≤ p.length := by
  unfold pscale; have := tzl_le (p.map (· * c)); rwa [List.length_map] at this
theorem int_pow_ne {y : Int} (h : y ≠ 0) : ∀ n : Nat, y ^ n ≠ 0
  | 0 => by rw [Int.pow_zero]; omega
  | n + 1 => by rw [Int.pow_succ]; exact Int.mul_ne_zero (int_pow_ne h n) h
theorem map_wr_iff (xs ys : List Int) : xs.map wr = ys.map wr ↔ xs = ys := by
  refine ⟨fun h => ?_, fun h => by rw [h]⟩
  exact List.map_inj_right (fun x y h => wv_inj (congrArg Prod.fst h) (congrArg Prod.snd h)) |>.1 h
theorem Cal.imp2 {P : Program} {f : FuncId} {args : Array Value} {p1 p q : Pc} {pre : List Pc} {al : Bool} {G : Type} {φ : G → Prop} {val : G → Value} {its : G → List Pc} (h : Cal P f args (p1 :: p :: pre) al φ val its) (hh : ∀ w, q.holds w → p.holds w) (hf : ∀ b, p.fp b → q.fp b) :
    Cal P f args (p1 :: q :: pre) al φ val its := fun w hp => by
  refine (h w fun r hr => ?_).mono ?_
  · rcases List.mem_cons.1 hr with rfl | hr
    · exact hp _ (List.mem_cons_self ..)
    · rcases List.mem_cons.1 hr with rfl | hr
      · exact hh w (hp q (List.mem_cons_of_mem _ (List.mem_cons_self ..)))
      · exact hp r (List.mem_cons_of_mem _ (List.mem_cons_of_mem _ hr))
  · rintro e w' ⟨g, he, hg, hb, hits⟩
    refine ⟨g, he, hg, hb, fun p' hp' => ?_⟩
    obtain ⟨h1, h2, h3⟩ := hits p' hp'
    refine ⟨h1, h2, fun b hb => ?_⟩
    rcases h3 b hb with h | ⟨h, r, hr, hrb⟩
    · exact .inl h
    · refine .inr ⟨h, ?_⟩
      rcases List.mem_cons.1 hr with rfl | hr
      · exact ⟨r, List.mem_cons_self .., hrb⟩
      · rcases List.mem_cons.1 hr with rfl | hr
        · exact ⟨q, List.mem_cons_of_mem _ (List.mem_cons_self ..), hf b hrb⟩
        · exact ⟨r, List.mem_cons_of_mem _ (List.mem_cons_of_mem _ hr), hrb⟩
end Go.Sky
namespace Go.Sky
def shm (q : List Int) (c : Int) (s i : Nat) : List Int := mk (s + i) fun t => if t < s then 0 else c * cf q (t - s)
theorem cf_shm (q : List Int) (c : Int) (s t : Nat) : cf (shm q c s q.length) t = if s ≤ t ∧ t < s + q.length then c * cf q (t - s) else 0 := by
  unfold shm
  rw [cf_mk]
  by_cases h1 : t < s
  · rw [if_neg (by omega : ¬ (s ≤ t ∧ t < s + q.length))]; split
    · rfl
    · rfl
  · by_cases h2 : t < s + q.length
    · rw [if_pos h2, if_neg h1, if_pos (show s ≤ t ∧ t < s + q.length by omega)]
    · rw [if_neg h2, if_neg (show ¬ (s ≤ t ∧ t < s + q.length) by omega)]
section
variable {p q : List Int}
theorem rsteps_top (hq : 0 < q.length) (hl : q.length ≤ p.length) : ∀ j, j ≤ p.length - q.length + 1 → ∀ t, p.length - j ≤ t → cf (rsteps p q j) t = 0
  | 0, _, t, ht => cf_ge (by unfold rsteps; omega)
  | j + 1, hj, t, ht => by
    rcases Nat.lt_or_ge t p.length with h | h
    · unfold rsteps
      rw [cf_rstep (by rw [length_rsteps]; exact h)]
      by_cases he : t = p.length - 1 - j
      · subst he
        rw [if_pos (by omega), show p.length - 1 - j - (p.length - 1 - j - (q.length - 1)) = q.length - 1 by omega]
        omega
      · rw [rsteps_top hq hl j (by omega) t (by omega), Int.zero_mul, if_neg (by omega)]; rfl
    · exact cf_ge (by rw [length_rsteps]; omega)
def RestInv (p q R : List Int) (j : Nat) : Prop := Tr R ∧ ∀ t, cf R t = cf (rsteps p q j) t * cf q (q.length - 1) ^ (p.length - q.length + 1 - j)
end
end Go.Sky
namespace Go.Sky
section
variable {P : Program} {N : Nat} {sc : Nat → Prop} {env env' : Env} {H H' : Hp}
end
end Go.Sky
namespace Go.Sky
open Go.Proofs
set_option maxRecDepth 20000
set_option maxHeartbeats 4000000
set_option linter.unusedVariables false
set_option linter.unusedSimpArgs false
theorem nat_trim (v : Value) (xs : List Nat) : Cal Tryz.prog 108 #[v] [slp 1 encU v xs] true (G := Unit) (fun _ => True) (fun _ => preV v (tz xs).length) (fun _ => [slp 1 encU (preV v (tz xs).length) (tz xs)]) := by
 refine Ye Tryz.func108 J Tryz.ntmps108 J K1 ?_
 intro w0 sc hw hsc
 simp only [Zq, Zo]
 refine Qn (f_self (i := 1) J Zi) fun hself => Qn (f_len (i := 1) J Zi) fun hlen => Zb <|Ze <|Zm J J <|Zd <|Za <|Zb <|Zv <|Qc [] [(0, _)] (fun (k : Nat) => [(0, preV v k)]) (fun (k : Nat) => [(1, slp 1 encU (preV v k) (xs.take k))]) (fun (k : Nat) => (k ≤ xs.length) ∧ (tz (xs.take k) = tz xs)) (fun (k : Nat) => k) xs.length ⟨Nat.le_refl _, by rw [List.take_length]⟩ ⟨by rw [hself]; rfl, trivial⟩ ⟨by rw [hself, List.take_length]; rfl, rfl, trivial⟩ ?_
 rintro k ⟨hk, ht⟩
 simp only [List.cons_append, List.nil_append]
 have hl : (xs.take k).length = k := by rw [List.length_take]; omega
 refine Zb <|Zb <|Ze <|mv J J <|dt (Zy J J (i := 1) J Zi uT127) J <|dt (Xv J J J) J <|mv J J <|Xu (d := 6) J (fun s21 => ?_) (fun s21 => ?_)
 ·refine Yr (Zw J J) J J J J <|Yr (Zw J J) J J J J <|Yr (Zy J J (i := 1) J Zi uT127) J J J J <|Yr (Yz J J J ⟨by omega, by omega⟩) J J J J <|Yr (Yn (ii := 1) (i := k - 1) J J J J Zi uT127 zT137 (by omega) (by omega)) J J J J <|Yr (Ys (ii := 1) 0 J J J Zi pU (by omega)) J J J J <|Yr (Xh J J J) J J J J <|dt (Yp J J J) J <|Zd <|Za <|Zn J (fun h21 => ?_) (fun h21 => ?_)
  ·have hstep := tz_step hk (by omega) (by omega : (xs.take k).getD (k - 1) 0 = 0)
   exact Zk <|Za <|Zv <|Ze <|mv J J <|mv J J <|dt (Zy J J (i := 1) J Zi uT127) J <|dt (Yz J J J ⟨by omega, by omega⟩) J <|dt (d_pre (ii := 1) (i := k - 1) J J J J Zi uT127 zT137 (by omega) (by omega)) J <|Zm J J <|Zd <|Xq <|Qe (s_pre 1 1 (k - 1) J J (by omega)) <|Xe (k - 1) ⟨by first | omega | (dsimp only <;> omega), by rw [← ht, ← hstep]⟩ (by first | omega | (dsimp only <;> omega)) ⟨by rw [← preV_preV v k (k - 1)]; rfl, trivial⟩ ⟨by rw [preV_preV, List.take_take, Nat.min_eq_left (by omega)]; rfl, rfl, trivial⟩
  ·refine Yv <|Zz <|Zz <|Xz <|Za <|Zb <|Ze <|mv J J <|Zm J J <|Zd <|Za <|Zr ?_
   have hx : tz xs = xs.take k := by rw [← ht]; exact tz_stop hk (by omega)
   exact Zx (.inl J) hsc () _ (fun a w hs => Yt hs Tryz.results108 J) (by rw [hx, hl]) trivial J (Yj 1 J J J (by rw [hx, hl]) Zj)
 ·refine Xm J J J J J <|Xm J J J J J <|Xm J J J J J <|Xm J J J J J <|Xm J J J J J <|Xm J J J J J <|Xm J J J J J <|dt (Yd J J J) J <|Zd <|Za <|Yc J <|Yv <|Zz <|Zz <|Xz <|Za <|Zb <|Ze <|mv J J <|Zm J J <|Zd <|Za <|Zr ?_
  have hx : tz xs = xs.take k := by rw [← ht]; exact tz_stop hk (by omega)
  exact Zx (.inl J) hsc () _ (fun a w hs => Yt hs Tryz.results108 J) (by rw [hx, hl]) trivial J (Yj 1 J J J (by rw [hx, hl]) Zj)
theorem nat_trim_own (v : Value) (xs : List Nat) : Cal Tryz.prog 108 #[v] [slp 1 encU v xs] false (G := Unit) (fun _ => True) (fun _ => preV v (tz xs).length) (fun _ => []) := (nat_trim v xs).bare
theorem nat_add (v w : Value) (x y : Nat) (hx : bl x ≤ 4294967296) (hy : bl y ≤ 4294967296) : Cal Tryz.prog 139 #[v, w] [dgp v x, dgp w y] false (G := Value) (fun r => True) (fun r => r) (fun r => [dgp r (x + y)]) := by
 refine Ye Tryz.func139 J Tryz.ntmps139 J K2 ?_
 intro w0 sc hw hsc
 simp only [Zq, Zo]
 have hX := lenU_bl x
 have hY := lenU_bl y
 refine Zb <|Ze <|Zm J J <|Zd <|Za <|Qm [] [(0, _), (1, _), (2, _)] (fun (q : Value × Value × Nat × Nat) => [(0, q.1), (1, q.2.1)]) (fun (q : Value × Value × Nat × Nat) => [(91, dgp q.1 q.2.2.1), (92, dgp q.2.1 q.2.2.2)]) (fun (q : Value × Value × Nat × Nat) => (q.2.2.1 + q.2.2.2 = x + y) ∧ ((dg U q.2.2.2).length ≤ (dg U q.2.2.1).length) ∧ ((dg U q.2.2.1).length ≤ 1099511627776)) trivial K3 ?_ ?_
 ·refine Zb <|Ze <|mv J J <|dt (Zy J J (i := 1) J Zi uT127) J <|mv J J <|dt (Zy J J (i := 2) J Zi uT127) J <|dt (Xj J J J) J <|Zd <|Za <|Zn J (fun h73 => ?_) (fun h73 => ?_)
  ·exact Ze <|mv J J <|mv J J <|Zm J J <|Zm J J <|Zd <|Qe (s_dup 2 91 J J J) <|Qe (s_dup 1 92 J J J) <|Yx (w, v, y, x) ⟨by first | omega | (dsimp only <;> omega), by first | omega | (dsimp only <;> omega), by first | omega | (dsimp only <;> omega)⟩ K2 K5
  ·exact Zk <|Qe (s_dup 1 91 J J J) <|Qe (s_dup 2 92 J J J) <|Yx (v, w, x, y) ⟨by first | omega | (dsimp only <;> omega), by first | omega | (dsimp only <;> omega), by first | omega | (dsimp only <;> omega)⟩ K2 K5
 ·rintro ⟨va, vb, a, b⟩ ⟨hs, hl, hla⟩
  dsimp only at hs hl hla
  simp only [List.cons_append, List.nil_append]
  refine Zb <|Ze <|mv J J <|dt (Zy J J (i := 91) J Zi uT127) J <|dt (Yl J J J ⟨by omega, by omega⟩) J <|tt (Qt (i := 3) (n := (dg U a).length + 1) (by_ := 8) (enc := encU) 0 J J J J J (by omega) uT127 Tryz.ti137 J pU.cells pU.pos J J (by omega) (by decide) J hw) J fun v _ => Zm J J <|Zd <|Za <|Zb <|Ze <|Zm J J <|Zd <|Za <|Zb <|Zb <|Ze <|mv J J <|dt (Zy J J (i := 91) J Zi uT127) J <|mv J J <|Zd <|Za <|Zv <|Qc [(0, _), (1, _), (5, _), (21, _)] [(0, _), (91, _), (92, _), (1, _), (2, _)] (fun (q : Nat × List Nat × Nat) => [(22, .int .i64 (q.1 : Int)), (6, .int .u64 (q.2.2 : Int))]) (fun (q : Nat × List Nat × Nat) => [(3, osl 1 137 encU v q.2.1)]) (fun (q : Nat × List Nat × Nat) => (q.1 ≤ (dg U a).length) ∧ (q.2.1.length = (dg U a).length + 1) ∧ (∀ d ∈ q.2.1, d < U) ∧ (q.2.2 ≤ 1) ∧ (val U (q.2.1.take q.1) + q.2.2 * U ^ q.1 = val U ((dg U a).take q.1) + val U ((dg U b).take q.1))) (fun (q : Nat × List Nat × Nat) => (dg U a).length - q.1) (0, List.replicate ((dg U a).length + 1) 0, 0) ⟨by first | omega | (dsimp only <;> omega), by simp, all_replicate _ U_pos, by first | omega | (dsimp only <;> omega), by simp [val]⟩ K6 K6 ?_
  rintro ⟨k, o, c⟩ ⟨hk, hol, hoa, hc, hv⟩
  dsimp only at hk hol hoa hc hv
  simp only [List.cons_append, List.nil_append]
  refine Zb <|Ze <|dt (Xj J J J) J <|Zd <|Za <|Zb <|Zn J (fun h78 => ?_) (fun h78 => ?_)
  ·refine Zk <|Za <|Zb <|Zv <|Zb <|Ze <|mv J J <|Zm J J <|Zd <|Za <|Zb <|Ze <|Zm J J <|Zd <|Za <|Qm [(0, _), (1, _), (5, _), (6, _), (7, _), (21, _), (22, _)] [(0, _), (3, _), (91, _), (92, _), (1, _), (2, _)] (fun (_ : Unit) => [(8, .int .u64 ((dg U b).getD k 0 : Int))]) (fun (_ : Unit) => []) (fun (_ : Unit) => True) K7 K6 ?_ ?_
   ·refine Zb <|Ze <|mv J J <|mv J J <|dt (Zy J J (i := 92) J Zi uT127) J <|dt (Xj J J J) J <|Zd <|Za <|Zn J (fun h80 => ?_) (fun h80 => ?_)
    ·refine Ze <|mv J J <|mv J J <|dt (Yn (ii := 92) J J J J Zi uT127 zT137 J (by first | omega | (simp only [List.length_set]; omega))) J <|dt (Ys (ii := 92) 0 J J J Zi pU (by first | omega | (simp only [List.length_set]; omega))) J <|Zm J J <|Zd ?_
     try (have hz : (dg U b).getD k 0 = 0 := by simp [List.getD, List.getElem?_eq_none (by omega : (dg U b).length ≤ k)])
     exact Yx () trivial ⟨by first | rfl | (rw [hz]; rfl), rfl, rfl, rfl, rfl, rfl, rfl, rfl, trivial⟩ K6
    ·refine Zk ?_
     try (have hz : (dg U b).getD k 0 = 0 := by simp [List.getD, List.getElem?_eq_none (by omega : (dg U b).length ≤ k)])
     exact Yx () trivial ⟨by first | rfl | (rw [hz]; rfl), rfl, rfl, rfl, rfl, rfl, rfl, rfl, trivial⟩ K6
   ·rintro _ -
    simp only [List.cons_append, List.nil_append]
    exact Ze <|mv J J <|mv J J <|mv J J <|mv J J <|dt (Yn (ii := 91) J J J J Zi uT127 zT137 J (by first | omega | (simp only [List.length_set]; omega))) J <|dt (Ys (ii := 91) 0 J J J Zi pU (by first | omega | (simp only [List.length_set]; omega))) J <|mv J J <|mv J J <|dt (d_add64 J J J J (by omega) add64_run) J <|mv J J <|dt (Zt J J J) J <|dt (Zt J J J) J <|dt (Yn (ii := 3) J J J J (Yi pU) uT127 zT137 J (by first | omega | (simp only [List.length_set]; omega))) J <|tt (Qj (i := 3) (enc := encU) _ J J J J J J (by decide) pU (by first | omega | (simp only [List.length_set]; omega)) J hw) J fun _ _ => Zm J J <|Zd <|Xq <|Za <|Ze <|dt (Yl J J J ⟨by omega, by omega⟩) J <|mv J J <|Zd <|Xe (k + 1, _, _) ⟨by first | omega | (dsimp only <;> omega), by simp; omega, all_set hoa _ _ (Nat.mod_lt _ U_pos), by have h1 := getD_lt U_pos (dg_lt two_U a) k; have h2 := getD_lt U_pos (dg_lt two_U b) k; simp only [U] at *; omega, add_step hv (by omega)⟩ (by first | omega | (dsimp only <;> omega)) K6 K6
  ·refine Yv <|Zz <|Zz <|Xz <|Za <|Zb ?_
   obtain rfl : k = (dg U a).length := by omega
   refine Ze <|mv J J <|mv J J <|dt (Zy J J (i := 91) J Zi uT127) J <|mv J J <|dt (Yn (ii := 3) J J J J (Yi pU) uT127 zT137 J (by first | omega | (simp only [List.length_set]; omega))) J <|tt (Qj (i := 3) (enc := encU) _ J J J J J J (by decide) pU (by first | omega | (simp only [List.length_set]; omega)) J hw) J fun _ _ => Zd <|Za <|Zb <|Ze <|mv J J <|tt (Zh (n := 3) (nat_trim_own _ _) J J J K1 cF108 (Xl 3 J J pU Zf) J hw) J fun _ _ => Xi (s_tz 3 J J pU) <|Zm J J <|Zd <|Za <|Zr ?_
   have hx : tz (o.set (dg U a).length c) = dg U (x + y) := by
    rw [← dg_val two_U _ (all_set hoa _ _ (by simp only [U]; omega)), ← hs]
    congr 1
    conv => rhs; rw [← val_dg two_U a, ← val_dg two_U b]
    rw [List.take_of_length_le (Nat.le_refl (dg U a).length), val_take_all U (dg U b) _ hl] at hv
    rw [← hv, ← val_take_set U o _ c (by omega), val_take_all _ _ _ (by simp; omega)]
   exact Zx (.inl J) hsc _ _ (fun a w hs => Yt hs Tryz.results139 J) J trivial J (Xs 3 J J pU hx Zj)
theorem nat_sub (v w : Value) (x y : Nat) (hx : bl x ≤ 4294967296) (hxy : y ≤ x) : Cal Tryz.prog 141 #[v, w] [dgp v x, dgp w y] false (G := Value) (fun r => True) (fun r => r) (fun r => [dgp r (x - y)]) := by
 refine Ye Tryz.func141 J Tryz.ntmps141 J K2 ?_
 intro w0 sc hw hsc
 simp only [Zq, Zo]
 have hX := lenU_bl x
 have hY := lenU_bl y
 have hm := bl_mono hxy
 refine Zb <|Ze <|Zm J J <|Zd <|Za <|Zb <|Ze <|mv J J <|dt (Zy J J (i := 1) J Zi uT127) J <|tt (Qt (i := 3) (n := (dg U x).length) (by_ := 8) (enc := encU) 0 J J J J J (by omega) uT127 Tryz.ti137 J pU.cells pU.pos J J (by omega) (by decide) J hw) J fun v _ => Zm J J <|Zd <|Za <|Zb <|Ze <|Zm J J <|Zd <|Za <|Zb <|Zb <|Ze <|mv J J <|dt (Zy J J (i := 1) J Zi uT127) J <|mv J J <|Zd <|Za <|Zv <|Qc [(0, _), (1, _), (5, _), (13, _)] [(0, _), (1, _), (2, _)] (fun (q : Nat × List Nat × Nat) => [(14, .int .i64 (q.1 : Int)), (6, .int .u64 (q.2.2 : Int))]) (fun (q : Nat × List Nat × Nat) => [(3, osl 1 137 encU v q.2.1)]) (fun (q : Nat × List Nat × Nat) => (q.1 ≤ (dg U x).length) ∧ (q.2.1.length = (dg U x).length) ∧ (∀ d ∈ q.2.1, d < U) ∧ (q.2.2 ≤ 1) ∧ (val U (q.2.1.take q.1) + val U ((dg U y).take q.1) = val U ((dg U x).take q.1) + q.2.2 * U ^ q.1)) (fun (q : Nat × List Nat × Nat) => (dg U x).length - q.1) (0, List.replicate ((dg U x).length) 0, 0) ⟨by first | omega | (dsimp only <;> omega), by simp, all_replicate _ U_pos, by first | omega | (dsimp only <;> omega), by simp [val]⟩ K6 K4 ?_
 rintro ⟨k, o, c⟩ ⟨hk, hol, hoa, hc, hv⟩
 dsimp only at hk hol hoa hc hv
 simp only [List.cons_append, List.nil_append]
 refine Zb <|Ze <|dt (Xj J J J) J <|Zd <|Za <|Zb <|Zn J (fun h93 => ?_) (fun h93 => ?_)
 ·refine Zk <|Za <|Zb <|Zv <|Zb <|Ze <|mv J J <|Zm J J <|Zd <|Za <|Zb <|Ze <|Zm J J <|Zd <|Za <|Qm [(0, _), (1, _), (5, _), (6, _), (7, _), (13, _), (14, _)] [(0, _), (3, _), (1, _), (2, _)] (fun (_ : Unit) => [(8, .int .u64 ((dg U y).getD k 0 : Int))]) (fun (_ : Unit) => []) (fun (_ : Unit) => True) K7 K4 ?_ ?_
  ·refine Zb <|Ze <|mv J J <|mv J J <|dt (Zy J J (i := 2) J Zi uT127) J <|dt (Xj J J J) J <|Zd <|Za <|Zn J (fun h95 => ?_) (fun h95 => ?_)
   ·refine Ze <|mv J J <|mv J J <|dt (Yn (ii := 2) J J J J Zi uT127 zT137 J (by first | omega | (simp only [List.length_set]; omega))) J <|dt (Ys (ii := 2) 0 J J J Zi pU (by first | omega | (simp only [List.length_set]; omega))) J <|Zm J J <|Zd ?_
    try (have hz : (dg U y).getD k 0 = 0 := by simp [List.getD, List.getElem?_eq_none (by omega : (dg U y).length ≤ k)])
    exact Yx () trivial ⟨by first | rfl | (rw [hz]; rfl), rfl, rfl, rfl, rfl, rfl, rfl, rfl, trivial⟩ K4
   ·refine Zk ?_
    try (have hz : (dg U y).getD k 0 = 0 := by simp [List.getD, List.getElem?_eq_none (by omega : (dg U y).length ≤ k)])
    exact Yx () trivial ⟨by first | rfl | (rw [hz]; rfl), rfl, rfl, rfl, rfl, rfl, rfl, rfl, trivial⟩ K4
  ·rintro _ -
   simp only [List.cons_append, List.nil_append]
   exact Ze <|mv J J <|mv J J <|mv J J <|mv J J <|dt (Yn (ii := 1) J J J J Zi uT127 zT137 J (by first | omega | (simp only [List.length_set]; omega))) J <|dt (Ys (ii := 1) 0 J J J Zi pU (by first | omega | (simp only [List.length_set]; omega))) J <|mv J J <|mv J J <|dt (d_sub64 J J J J (by omega) sub64_run) J <|mv J J <|dt (Zt J J J) J <|dt (Zt J J J) J <|dt (Yn (ii := 3) J J J J (Yi pU) uT127 zT137 J (by first | omega | (simp only [List.length_set]; omega))) J <|tt (Qj (i := 3) (enc := encU) _ J J J J J J (by decide) pU (by first | omega | (simp only [List.length_set]; omega)) J hw) J fun _ _ => Zm J J <|Zd <|Xq <|Za <|Ze <|dt (Yl J J J ⟨by omega, by omega⟩) J <|mv J J <|Zd <|Xe (k + 1, _, _) ⟨by first | omega | (dsimp only <;> omega), by simp; omega, all_set hoa _ _ (Nat.mod_lt _ U_pos), brw_le _ _ _, sub_step hc (getD_lt U_pos (dg_lt two_U x) k) (getD_lt U_pos (dg_lt two_U y) k) hv (by omega)⟩ (by first | omega | (dsimp only <;> omega)) K6 K4
 ·refine Yv <|Zz <|Zz <|Xz <|Za <|Zb <|Ze <|mv J J <|tt (Zh (n := 3) (nat_trim_own _ _) J J J K1 cF108 (Xl 3 J J pU Zf) J hw) J fun _ _ => Xi (s_tz 3 J J pU) <|Zm J J <|Zd <|Za <|Zr ?_
  obtain rfl : k = (dg U x).length := by omega
  have hx : tz o = dg U (x - y) := by
   rw [← dg_val two_U _ hoa]
   congr 1
   have hly : (dg U y).length ≤ (dg U x).length := by omega
   rw [val_take_all U o _ (by omega), val_take_all U (dg U y) _ hly, val_take_all U (dg U x) _ (Nat.le_refl _), val_dg two_U, val_dg two_U] at hv
   have h1 := val_lt U_pos o hoa
   rw [hol] at h1
   have h0 : c = 0 ∨ c = 1 := by omega
   rcases h0 with rfl | rfl <;> omega
  exact Zx (.inl J) hsc _ _ (fun a w hs => Yt hs Tryz.results141 J) J trivial J (Xs 3 J J pU hx Zj)
theorem nat_compare (v w : Value) (x y : Nat) (hx : bl x ≤ 4294967296) (hy : bl y ≤ 4294967296) : Cal Tryz.prog 140 #[v, w] [dgp v x, dgp w y] false (G := Int) (fun r => (r < 0 ↔ x < y) ∧ (0 < r ↔ y < x)) (fun r => .int .i64 r) (fun r => []) := by
 refine Ye Tryz.func140 J Tryz.ntmps140 J K2 ?_
 intro w0 sc hw hsc
 simp only [Zq, Zo]
 have hX := lenU_bl x
 have hY := lenU_bl y
 refine Zb <|Ze <|Zm J J <|Zd <|Za <|Zb <|Zb <|Ze <|mv J J <|dt (Zy J J (i := 1) J Zi uT127) J <|mv J J <|dt (Zy J J (i := 2) J Zi uT127) J <|dt (Ym J J J) J <|Zd <|Za <|Zn J (fun h57 => ?_) (fun h57 => ?_)
 ·exact Zb <|Ze <|mv J J <|dt (Zy J J (i := 1) J Zi uT127) J <|mv J J <|dt (Zy J J (i := 2) J Zi uT127) J <|dt (Yz J J J ⟨by omega, by omega⟩) J <|Zm J J <|Zd <|Za <|Zr <|Yw <|Zx (.inl J) hsc _ _ (fun a w hs => Yt hs Tryz.results140 J) J ⟨⟨fun h => dg_len_lt two_U (by omega), fun h => by have := bl_mono (Nat.le_of_lt h); omega⟩, ⟨fun h => dg_len_lt two_U (by omega), fun h => by have := bl_mono (Nat.le_of_lt h); omega⟩⟩ J Zj
 ·have hlen : (dg U x).length = (dg U y).length := by omega
  refine Zk <|Za <|Zb <|Zb <|Ze <|mv J J <|dt (Zy J J (i := 1) J Zi uT127) J <|dt (Yz J J J ⟨by omega, by omega⟩) J <|Zm J J <|Zd <|Za <|Zv <|Qc [(0, _), (1, _)] [(0, _), (1, _), (2, _)] (fun (k : Nat) => [(5, .int .i64 ((k : Int) - 1))]) (fun (k : Nat) => []) (fun (k : Nat) => (k ≤ (dg U x).length) ∧ ((dg U x).drop k = (dg U y).drop k)) (fun (k : Nat) => k) (dg U x).length ⟨by first | omega | (dsimp only <;> omega), by rw [List.drop_length, hlen, List.drop_length]⟩ K3 K3 ?_
  rintro k ⟨hk, hd⟩
  simp only [List.cons_append, List.nil_append]
  refine Zb <|Zb <|Ze <|mv J J <|dt (Qd J J J) J <|Zd <|Za <|Zn J (fun h60 => ?_) (fun h60 => ?_)
  ·refine Zk <|Za <|Zb <|Zv <|Zv <|Zb <|Xd (fun _ => False) [(0, 0), (1, 0), (2, 0), (3, 0), (4, 0), (5, 0), (6, 0), (7, 0), (8, 0), (9, 0)] (by kernel_rfl) ?_ ?_
   ·kernel_rfl
   refine r0' J J J J (st0 (Zw J J)) <|r0' J J J J (st0 (Zw J J)) <|r0' J J J J (st0 (Yn (ii := 1) (i := k - 1) J J J J Zi uT127 zT137 (by omega) (by omega))) <|r0' J J J J (st0 (Ys (ii := 1) 0 J J J Zi pU (by first | omega | (simp only [List.length_set]; omega)))) <|r0' J J J J (st0 (Zw J J)) <|r0' J J J J (st0 (Zw J J)) <|r0' J J J J (st0 (Yn (ii := 2) (i := k - 1) J J J J Zi uT127 zT137 (by omega) (by omega))) <|r0' J J J J (st0 (Ys (ii := 2) 0 J J J Zi pU (by first | omega | (simp only [List.length_set]; omega)))) <|r0' J J J J (st0 (Xj J J J)) <|r0' J J J J (st0 (Qb J J)) <|Xo <|Za <|Zn J (fun h62 => ?_) (fun h62 => ?_)
   ·refine Zb <|Ze <|Zm J J <|Zd <|Za <|Zr <|x_br <|x_br <|Yw <|Yw <|x_br <|Yw ?_
    have hlt := cmp_lt U_pos (xs := dg U x) (ys := dg U y) (dg_lt two_U x) (k := k - 1) (by omega) (by omega) (by rw [show k - 1 + 1 = k by omega]; exact hd) (by omega)
    rw [val_dg two_U, val_dg two_U] at hlt
    exact Zx (.inl J) hsc (-1) _ (fun a w hs => Yt hs Tryz.results140 J) J (by omega) J Zj
   ·refine Zb <|Xd (fun _ => False) [(0, 0), (1, 0), (2, 0), (3, 0), (4, 0), (5, 0), (6, 0), (7, 0), (8, 0), (9, 0)] (by kernel_rfl) ?_ ?_
    ·kernel_rfl
    refine r0' J J J J (st0 (Zw J J)) <|r0' J J J J (st0 (Zw J J)) <|r0' J J J J (st0 (Yn (ii := 1) (i := k - 1) J J J J Zi uT127 zT137 (by omega) (by omega))) <|r0' J J J J (st0 (Ys (ii := 1) 0 J J J Zi pU (by first | omega | (simp only [List.length_set]; omega)))) <|r0' J J J J (st0 (Zw J J)) <|r0' J J J J (st0 (Zw J J)) <|r0' J J J J (st0 (Yn (ii := 2) (i := k - 1) J J J J Zi uT127 zT137 (by omega) (by omega))) <|r0' J J J J (st0 (Ys (ii := 2) 0 J J J Zi pU (by first | omega | (simp only [List.length_set]; omega)))) <|r0' J J J J (st0 (Xv J J J)) <|r0' J J J J (st0 (Qb J J)) <|Xo <|Za <|Zn J (fun h64 => ?_) (fun h64 => ?_)
    ·refine Zb <|Ze <|Zm J J <|Zd <|Za <|Zr <|x_br <|x_br <|Yw <|Yw <|x_br <|Yw ?_
     have hlt := cmp_lt U_pos (xs := dg U y) (ys := dg U x) (dg_lt two_U y) (k := k - 1) (by omega) (by omega) (by rw [show k - 1 + 1 = k by omega]; exact hd.symm) (by omega)
     rw [val_dg two_U, val_dg two_U] at hlt
     exact Zx (.inl J) hsc 1 _ (fun a w hs => Yt hs Tryz.results140 J) J (by omega) J Zj
    ·exact Zk <|Xq <|Xq <|Za <|Ze <|mv J J <|dt (Yz J J J ⟨by omega, by omega⟩) J <|Zm J J <|Zd <|Xe (k - 1) ⟨by first | omega | (dsimp only <;> omega), by have := drop_eq_step (xs := dg U x) (ys := dg U y) (k := k - 1) (by omega) (by omega) (by rw [show k - 1 + 1 = k by omega]; exact hd) (by omega); exact this⟩ (by first | omega | (dsimp only <;> omega)) ⟨by rw [show (((k - 1 : Nat) : Int) - 1) = (k : Int) - 1 - 1 by omega]; rfl, rfl, rfl, trivial⟩ K3
  ·refine Yv <|Zz <|Zz <|Xz <|Za <|Zb <|Ze <|Zm J J <|Zd <|Za <|Zr ?_
   obtain rfl : k = 0 := by omega
   have heq : x = y := (dg_eq_iff two_U).1 (by simpa using hd)
   exact Zx (.inl J) hsc 0 _ (fun a w hs => Yt hs Tryz.results140 J) J (by omega) J Zj
theorem bits_mul (x y : Nat) (hx : x < U) (hy : y < U) : Cal Tryz.prog 165 #[.int .u64 (x : Int), .int .u64 (y : Int)] [] false (G := Unit) (fun _ => True) (fun _ => .tuple #[.int .u64 ((x * y / U : Nat) : Int), .int .u64 ((x * y % U : Nat) : Int)]) (fun _ => []) := by
 refine Ye Tryz.func165 J Tryz.ntmps165 J trivial ?_
 intro w0 sc hw hsc
 simp only [Zq, Zo]
 simp only [U] at hx hy
 refine Zb <|Ze <|Zm J J <|Zm J J <|Zd <|Za <|Zb <|Ze <|mv J J <|dt (u_and J J J hx (by decide)) J <|Zm J J <|Zd <|Za <|Zb <|Ze <|mv J J <|dt (Qs (n := 32) (n' := 4294967296) J J J J J) J <|Zm J J <|Zd <|Za <|Zb <|Ze <|mv J J <|dt (u_and J J J hy (by decide)) J <|Zm J J <|Zd <|Za <|Zb <|Ze <|mv J J <|dt (Qs (n := 32) (n' := 4294967296) J J J J J) J <|Zm J J <|Zd <|Za <|Zb <|Ze <|mv J J <|mv J J <|dt (u_mul J J J) J <|Zm J J <|Zd <|Za <|Zb <|Ze <|mv J J <|mv J J <|dt (u_mul J J J) J <|mv J J <|dt (Qs (n := 32) (n' := 4294967296) J J J J J) J <|dt (u_add J J J) J <|Zm J J <|Zd <|Za <|Zb <|Ze <|mv J J <|dt (u_and J J J (Nat.mod_lt _ U_pos) (by decide)) J <|Zm J J <|Zd <|Za <|Zb <|Ze <|mv J J <|dt (Qs (n := 32) (n' := 4294967296) J J J J J) J <|Zm J J <|Zd <|Za <|Zb <|Ze <|mv J J <|mv J J <|mv J J <|dt (u_mul J J J) J <|dt (u_add J J J) J <|Zm J J <|Zd <|Za <|Zb <|Ze <|mv J J <|mv J J <|dt (u_mul J J J) J <|mv J J <|dt (u_add J J J) J <|mv J J <|dt (Qs (n := 32) (n' := 4294967296) J J J J J) J <|dt (u_add J J J) J <|Zm J J <|Zd <|Za <|Zb <|Ze <|mv J J <|mv J J <|dt (u_mul J J J) J <|Zm J J <|Zd <|Za <|Zr ?_
 exact Zx (.inl J) hsc () _ (fun a w hs => Xn hs Tryz.results165 J J) (by rw [mul64_eq hx hy _ _ rfl rfl]) trivial J Zj
theorem nat_mul (v w : Value) (x y : Nat) (hx : bl x ≤ 4294967296) (hy : bl y ≤ 4294967296) : Cal Tryz.prog 161 #[v, w] [dgp v x, dgp w y] false (G := Value) (fun r => True) (fun r => r) (fun r => [dgp r (x * y)]) := by
 refine Ye Tryz.func161 J Tryz.ntmps161 J K2 ?_
 intro w0 sc hw hsc
 simp only [Zq, Zo]
 have hX := lenU_bl x
 have hY := lenU_bl y
 refine Zb <|Ze <|Zm J J <|Zd <|Za <|Zb <|Ze <|mv J J <|dt (Zy J J (i := 1) J Zi uT127) J <|mv J J <|dt (Zy J J (i := 2) J Zi uT127) J <|dt (Yl J J J ⟨by omega, by omega⟩) J <|tt (Qt (i := 3) (n := (dg U x).length + (dg U y).length) (by_ := 8) (enc := encU) 0 J J J J J (by omega) uT127 Tryz.ti137 J pU.cells pU.pos J J (by omega) (by decide) J hw) J fun v _ => Zm J J <|Zd <|Za <|Zb <|Zb <|Ze <|mv J J <|dt (Zy J J (i := 1) J Zi uT127) J <|mv J J <|Zd <|Za <|Zv <|Qc [(1, _), (5, _), (20, _), (21, _)] [(0, _), (1, _), (2, _)] (fun (q : Nat × List Nat) => [(22, .int .i64 (q.1 : Int))]) (fun (q : Nat × List Nat) => [(3, osl 1 137 encU v q.2)]) (fun (q : Nat × List Nat) => (q.1 ≤ (dg U x).length) ∧ (q.2.length = (dg U x).length + (dg U y).length) ∧ (∀ d ∈ q.2, d < U) ∧ (∀ j, q.1 + (dg U y).length ≤ j → q.2.getD j 0 = 0) ∧ (val U (q.2.take (q.1 + (dg U y).length)) = val U ((dg U x).take q.1) * y)) (fun (q : Nat × List Nat) => (dg U x).length - q.1) (0, List.replicate ((dg U x).length + (dg U y).length) 0) ⟨by first | omega | (dsimp only <;> omega), by simp, all_replicate _ U_pos, fun j _ => getD_replicate _ j, by simp [val, List.take_replicate, val_replicate]⟩ K5 K4 ?_
 rintro ⟨i, o⟩ ⟨hi, hol, hoa, hz, hv⟩
 dsimp only at hi hol hoa hz hv
 simp only [List.cons_append, List.nil_append]
 refine Zb <|Ze <|dt (Xj J J J) J <|Zd <|Za <|Zb <|Zn J (fun h106 => ?_) (fun h106 => ?_)
 ·refine Zk <|Za <|Zb <|Zv <|Zb <|Ze <|mv J J <|dt (Yn (ii := 1) J J J J Zi uT127 zT137 J (by first | omega | (simp only [List.length_set]; omega))) J <|dt (Ys (ii := 1) 0 J J J Zi pU (by first | omega | (simp only [List.length_set]; omega))) J <|Zm J J <|Zm J J <|Zd <|Za <|Zb <|Ze <|Zm J J <|Zd <|Za <|Zb <|Zb <|Ze <|mv J J <|dt (Zy J J (i := 2) J Zi uT127) J <|mv J J <|Zd <|Za <|Zv <|Qc [(1, _), (5, _), (6, _), (7, _), (20, _), (21, _), (22, _), (27, _), (28, _)] [(0, _), (1, _), (2, _)] (fun (q : Nat × List Nat × Nat) => [(29, .int .i64 (q.1 : Int)), (8, .int .u64 (q.2.2 : Int))]) (fun (q : Nat × List Nat × Nat) => [(3, osl 1 137 encU v q.2.1)]) (fun (q : Nat × List Nat × Nat) => (q.1 ≤ (dg U y).length) ∧ (q.2.1.length = (dg U x).length + (dg U y).length) ∧ (∀ d ∈ q.2.1, d < U) ∧ (∀ j, i + (dg U y).length ≤ j → q.2.1.getD j 0 = 0) ∧ (q.2.2 < U) ∧ (val U (q.2.1.take (i + (dg U y).length)) + q.2.2 * U ^ (i + q.1) = val U ((dg U x).take i) * y + (dg U x).getD i 0 * U ^ i * val U ((dg U y).take q.1))) (fun (q : Nat × List Nat × Nat) => (dg U y).length - q.1) (0, o, 0) ⟨by first | omega | (dsimp only <;> omega), hol, hoa, hz, U_pos, by rw [hv]; simp [val]⟩ K11 K4 ?_
  rintro ⟨k, p, c⟩ ⟨hk, hpl, hpa, hpz, hcU, hpv⟩
  dsimp only at hk hpl hpa hpz hcU hpv
  simp only [List.cons_append, List.nil_append]
  have hdig := mul_digit (getD_lt U_pos (dg_lt two_U x) i) (getD_lt U_pos (dg_lt two_U y) k) (getD_lt U_pos hpa (i + k)) hcU
  refine Zb <|Ze <|dt (Xj J J J) J <|Zd <|Za <|Zb <|Zn J (fun h108 => ?_) (fun h108 => ?_)
  ·refine Zk <|Za <|Zb <|Zv <|Zb <|Ze <|mv J J <|dt (Yn (ii := 2) J J J J Zi uT127 zT137 J (by first | omega | (simp only [List.length_set]; omega))) J <|dt (Ys (ii := 2) 0 J J J Zi pU (by first | omega | (simp only [List.length_set]; omega))) J <|Zm J J <|Zm J J <|Zd <|Za <|Zb <|Ze <|mv J J <|mv J J <|tt (Zh (n := 3) (bits_mul _ _ (getD_lt U_pos (dg_lt two_U _) _) (getD_lt U_pos (dg_lt two_U _) _)) J J J K2 cF165 Zf J hw) J fun _ _ => mv J J <|dt (Zt J J J) J <|dt (Zt J J J) J <|Zm J J <|Zm J J <|Zd <|Za <|Zb <|Ze <|mv J J <|mv J J <|mv J J <|mv J J <|dt (Yl J J J ⟨by omega, by omega⟩) J <|dt (Yn (ii := 3) (i := i + k) J J J J (Yi pU) uT127 zT137 (by omega) (by omega)) J <|dt (Ys (ii := 3) 0 J J J (Yi pU) pU (by first | omega | (simp only [List.length_set]; omega))) J <|dt (d_add64 (c := 0) J J J J (by omega) add64_run) J <|mv J J <|dt (Zt J J J) J <|dt (Zt J J J) J <|Zm J J <|Zm J J <|Zd <|Za <|Zb <|Ze <|mv J J <|mv J J <|dt (u_add J J J) J <|Zm J J <|Zd <|Za <|Zb <|Ze <|mv J J <|mv J J <|dt (d_add64 (c := 0) J J J J (by omega) add64_run) J <|mv J J <|dt (Zt J J J) J <|dt (Zt J J J) J <|Zm J J <|Zm J J <|Zd <|Za <|Ze <|mv J J <|mv J J <|mv J J <|dt (Yl J J J ⟨by omega, by omega⟩) J <|mv J J <|mv J J <|mv J J ?_
   exact dt (u_add J J J) J <|dt (Yn (ii := 3) (i := i + k) J J J J (Yi pU) uT127 zT137 (by omega) (by omega)) J <|tt (Qj (i := 3) (enc := encU) _ J J J J J J (by decide) pU (by first | omega | (simp only [List.length_set]; omega)) J hw) J fun _ _ => Zm J J <|Zd <|Xq <|Za <|Ze <|dt (Yl J J J ⟨by omega, by omega⟩) J <|mv J J <|Zd <|Xe (k + 1, _, _) ⟨by first | omega | (dsimp only <;> omega), by simp; omega, all_set hpa _ _ (Nat.mod_lt _ U_pos), fun j hj => by rw [getD_set _ _ _ _ _ (by omega), if_neg (by omega)]; exact hpz j hj, hdig.2, mul_step hpv (by omega) (by omega) hdig.1⟩ (by first | omega | (dsimp only <;> omega)) K11 K4
  ·refine Yv <|Zz <|Zz <|Xz <|Za ?_
   obtain rfl : k = (dg U y).length := by omega
   have hfin := hpv
   rw [List.take_of_length_le (Nat.le_refl (dg U y).length), val_dg two_U] at hfin
   exact Ze <|mv J J <|mv J J <|mv J J <|dt (Zy J J (i := 2) J Zi uT127) J <|dt (Yl J J J ⟨by omega, by omega⟩) J <|mv J J <|dt (Yn (ii := 3) (i := i + (dg U y).length) J J J J (Yi pU) uT127 zT137 (by omega) (by omega)) J <|tt (Qj (i := 3) (enc := encU) _ J J J J J J (by decide) pU (by first | omega | (simp only [List.length_set]; omega)) J hw) J fun _ _ => Zd <|Xq <|Za <|Ze <|dt (Yl J J J ⟨by omega, by omega⟩) J <|mv J J <|Zd <|Xe (i + 1, _) ⟨by first | omega | (dsimp only <;> omega), by simp; omega, all_set hpa _ _ hcU, fun j hj => by rw [getD_set _ _ _ _ _ (by omega), if_neg (by omega)]; exact hpz j (by omega), by dsimp only; rw [show i + 1 + (dg U y).length = i + (dg U y).length + 1 by omega, val_take_set _ _ _ _ (by omega), val_take_succ, Nat.add_mul, ← hfin]⟩ (by first | omega | (dsimp only <;> omega)) K5 K4
 ·refine Yv <|Zz <|Zz <|Xz <|Za <|Zb <|Ze <|mv J J <|tt (Zh (n := 3) (nat_trim_own _ _) J J J K1 cF108 (Xl 3 J J pU Zf) J hw) J fun _ _ => Xi (s_tz 3 J J pU) <|Zm J J <|Zd <|Za <|Zr ?_
  obtain rfl : i = (dg U x).length := by omega
  have hx : tz o = dg U (x * y) := by
   rw [← dg_val two_U _ hoa]
   congr 1
   rw [val_take_all U o _ (by omega), List.take_of_length_le (Nat.le_refl _), val_dg two_U] at hv
   exact hv
  exact Zx (.inl J) hsc _ _ (fun a w hs => Yt hs Tryz.results161 J) J trivial J (Xs 3 J J pU hx Zj)
set_option maxHeartbeats 1000000 in
theorem bits_len (x : Nat) (hx : x < U) : Cal Tryz.prog 164 #[.int .u64 (x : Int)] [] false (G := Unit) (fun _ => True) (fun _ => .int .i64 (bl x : Int)) (fun _ => []) := by
 refine Ye Tryz.func164 J Tryz.ntmps164 J trivial ?_
 intro w0 sc hw hsc
 simp only [Zq, Zo]
 simp only [U] at hx
 have e32 := bl_div_pow x 32
 have e16 := bl_div_pow x 16
 have e8 := bl_div_pow x 8
 have e24 := bl_div_pow x 24
 have e40 := bl_div_pow x 40
 have e48 := bl_div_pow x 48
 have e56 := bl_div_pow x 56
 have f32 := bl_lt 32 x
 have f16 := bl_lt 16 x
 have f8 := bl_lt 8 x
 have f24 := bl_lt 24 x
 have f40 := bl_lt 40 x
 have f48 := bl_lt 48 x
 have f56 := bl_lt 56 x
 have d1 := Nat.div_div_eq_div_mul x (2 ^ 32) (2 ^ 16)
 have d2 := Nat.div_div_eq_div_mul x (2 ^ 32) (2 ^ 8)
 have d3 := Nat.div_div_eq_div_mul x (2 ^ 16) (2 ^ 8)
 have d4 := Nat.div_div_eq_div_mul (x / 2 ^ 32) (2 ^ 16) (2 ^ 8)
 have d5 := Nat.div_div_eq_div_mul x (2 ^ 32) (2 ^ 16 * 2 ^ 8)
 simp only [Nat.reducePow, Nat.reduceMul] at *
 refine Zb <|Ze <|Zm J J <|Zd <|Za <|Zb <|Zb <|Ze <|mv J J <|dt (Qd J J J) J <|Zd <|Za <|Zn J (fun h338 => ?_) (fun h338 => ?_)
 ·refine Zb <|Ze <|mv J J <|dt (Qs (n := 32) (n' := 4294967296) J J J J J) J <|Zm J J <|Zd <|Za <|Ze <|Zm J J <|Zd <|Za <|Zb <|Zb <|Ze <|mv J J <|dt (Qd J J J) J <|Zd <|Za <|Zn J (fun h342 => ?_) (fun h342 => ?_)
  ·refine Zb <|Ze <|mv J J <|dt (Qs (n := 16) (n' := 65536) J J J J J) J <|Zm J J <|Zd <|Za <|Ze <|mv J J <|dt (Yl J J J ⟨by omega, by omega⟩) J <|Zm J J <|Zd <|Za <|Zb <|Zb <|Ze <|mv J J <|dt (Qd J J J) J <|Zd <|Za <|Zn J (fun h346 => ?_) (fun h346 => ?_)
   ·exact Zb <|Ze <|mv J J <|dt (Qs (n := 8) (n' := 256) J J J J J) J <|Zm J J <|Zd <|Za <|Ze <|mv J J <|dt (Yl J J J ⟨by omega, by omega⟩) J <|Zm J J <|Zd <|Za <|Zb <|Ze <|mv J J <|mv J J <|dt (cv_u8 J J uT137 uT5) J <|dt (d_ix8 J J J uT9 J (by omega) (by decide) (by decide +kernel)) J <|dt (cv_i64 J J uT5 uT3 (inI_bl8 _)) J <|dt (Yl J J J (inI_add8 _ (by omega) (by omega))) J <|Zm J J <|Zd <|Za <|Zr <|Zx (.inl J) hsc () _ (fun a w hs => Yt hs Tryz.results164 J) (len_fin (n := x) (by omega) (by first | omega | (simp only [Nat.div_div_eq_div_mul, Nat.reduceMul, e32, e16, e8, e24, e40, e48, e56]; omega))).symm trivial J Zj
   ·exact Zk <|Za <|Zb <|Ze <|mv J J <|mv J J <|dt (cv_u8 J J uT137 uT5) J <|dt (d_ix8 J J J uT9 J (by omega) (by decide) (by decide +kernel)) J <|dt (cv_i64 J J uT5 uT3 (inI_bl8 _)) J <|dt (Yl J J J (inI_add8 _ (by omega) (by omega))) J <|Zm J J <|Zd <|Za <|Zr <|Zx (.inl J) hsc () _ (fun a w hs => Yt hs Tryz.results164 J) (len_fin (n := x) (by omega) (by first | omega | (simp only [Nat.div_div_eq_div_mul, Nat.reduceMul, e32, e16, e8, e24, e40, e48, e56]; omega))).symm trivial J Zj
  ·refine Zk <|Za <|Zb <|Zb <|Ze <|mv J J <|dt (Qd J J J) J <|Zd <|Za <|Zn J (fun h346_2 => ?_) (fun h346_2 => ?_)
   ·exact Zb <|Ze <|mv J J <|dt (Qs (n := 8) (n' := 256) J J J J J) J <|Zm J J <|Zd <|Za <|Ze <|mv J J <|dt (Yl J J J ⟨by omega, by omega⟩) J <|Zm J J <|Zd <|Za <|Zb <|Ze <|mv J J <|mv J J <|dt (cv_u8 J J uT137 uT5) J <|dt (d_ix8 J J J uT9 J (by omega) (by decide) (by decide +kernel)) J <|dt (cv_i64 J J uT5 uT3 (inI_bl8 _)) J <|dt (Yl J J J (inI_add8 _ (by omega) (by omega))) J <|Zm J J <|Zd <|Za <|Zr <|Zx (.inl J) hsc () _ (fun a w hs => Yt hs Tryz.results164 J) (len_fin (n := x) (by omega) (by first | omega | (simp only [Nat.div_div_eq_div_mul, Nat.reduceMul, e32, e16, e8, e24, e40, e48, e56]; omega))).symm trivial J Zj
   ·exact Zk <|Za <|Zb <|Ze <|mv J J <|mv J J <|dt (cv_u8 J J uT137 uT5) J <|dt (d_ix8 J J J uT9 J (by omega) (by decide) (by decide +kernel)) J <|dt (cv_i64 J J uT5 uT3 (inI_bl8 _)) J <|dt (Yl J J J (inI_add8 _ (by omega) (by omega))) J <|Zm J J <|Zd <|Za <|Zr <|Zx (.inl J) hsc () _ (fun a w hs => Yt hs Tryz.results164 J) (len_fin (n := x) (by omega) (by first | omega | (simp only [Nat.div_div_eq_div_mul, Nat.reduceMul, e32, e16, e8, e24, e40, e48, e56]; omega))).symm trivial J Zj
 ·refine Zk <|Za <|Zb <|Zb <|Ze <|mv J J <|dt (Qd J J J) J <|Zd <|Za <|Zn J (fun h342_2 => ?_) (fun h342_2 => ?_)
  ·refine Zb <|Ze <|mv J J <|dt (Qs (n := 16) (n' := 65536) J J J J J) J <|Zm J J <|Zd <|Za <|Ze <|mv J J <|dt (Yl J J J ⟨by omega, by omega⟩) J <|Zm J J <|Zd <|Za <|Zb <|Zb <|Ze <|mv J J <|dt (Qd J J J) J <|Zd <|Za <|Zn J (fun h346_3 => ?_) (fun h346_3 => ?_)
   ·exact Zb <|Ze <|mv J J <|dt (Qs (n := 8) (n' := 256) J J J J J) J <|Zm J J <|Zd <|Za <|Ze <|mv J J <|dt (Yl J J J ⟨by omega, by omega⟩) J <|Zm J J <|Zd <|Za <|Zb <|Ze <|mv J J <|mv J J <|dt (cv_u8 J J uT137 uT5) J <|dt (d_ix8 J J J uT9 J (by omega) (by decide) (by decide +kernel)) J <|dt (cv_i64 J J uT5 uT3 (inI_bl8 _)) J <|dt (Yl J J J (inI_add8 _ (by omega) (by omega))) J <|Zm J J <|Zd <|Za <|Zr <|Zx (.inl J) hsc () _ (fun a w hs => Yt hs Tryz.results164 J) (len_fin (n := x) (by omega) (by first | omega | (simp only [Nat.div_div_eq_div_mul, Nat.reduceMul, e32, e16, e8, e24, e40, e48, e56]; omega))).symm trivial J Zj
   ·exact Zk <|Za <|Zb <|Ze <|mv J J <|mv J J <|dt (cv_u8 J J uT137 uT5) J <|dt (d_ix8 J J J uT9 J (by omega) (by decide) (by decide +kernel)) J <|dt (cv_i64 J J uT5 uT3 (inI_bl8 _)) J <|dt (Yl J J J (inI_add8 _ (by omega) (by omega))) J <|Zm J J <|Zd <|Za <|Zr <|Zx (.inl J) hsc () _ (fun a w hs => Yt hs Tryz.results164 J) (len_fin (n := x) (by omega) (by first | omega | (simp only [Nat.div_div_eq_div_mul, Nat.reduceMul, e32, e16, e8, e24, e40, e48, e56]; omega))).symm trivial J Zj
  ·refine Zk <|Za <|Zb <|Zb <|Ze <|mv J J <|dt (Qd J J J) J <|Zd <|Za <|Zn J (fun h346_4 => ?_) (fun h346_4 => ?_)
   ·exact Zb <|Ze <|mv J J <|dt (Qs (n := 8) (n' := 256) J J J J J) J <|Zm J J <|Zd <|Za <|Ze <|mv J J <|dt (Yl J J J ⟨by omega, by omega⟩) J <|Zm J J <|Zd <|Za <|Zb <|Ze <|mv J J <|mv J J <|dt (cv_u8 J J uT137 uT5) J <|dt (d_ix8 J J J uT9 J (by omega) (by decide) (by decide +kernel)) J <|dt (cv_i64 J J uT5 uT3 (inI_bl8 _)) J <|dt (Yl J J J (inI_add8 _ (by omega) (by omega))) J <|Zm J J <|Zd <|Za <|Zr <|Zx (.inl J) hsc () _ (fun a w hs => Yt hs Tryz.results164 J) (len_fin (n := x) (by omega) (by first | omega | (simp only [Nat.div_div_eq_div_mul, Nat.reduceMul, e32, e16, e8, e24, e40, e48, e56]; omega))).symm trivial J Zj
   ·exact Zk <|Za <|Zb <|Ze <|mv J J <|mv J J <|dt (cv_u8 J J uT137 uT5) J <|dt (d_ix8 J J J uT9 J (by omega) (by decide) (by decide +kernel)) J <|dt (cv_i64 J J uT5 uT3 (inI_bl8 _)) J <|dt (Yl J J J (inI_add8 _ (by omega) (by omega))) J <|Zm J J <|Zd <|Za <|Zr <|Zx (.inl J) hsc () _ (fun a w hs => Yt hs Tryz.results164 J) (len_fin (n := x) (by omega) (by first | omega | (simp only [Nat.div_div_eq_div_mul, Nat.reduceMul, e32, e16, e8, e24, e40, e48, e56]; omega))).symm trivial J Zj
theorem bits_lz (x : Nat) (hx : x < U) : Cal Tryz.prog 155 #[.int .u64 (x : Int)] [] false (G := Unit) (fun _ => True) (fun _ => .int .i64 ((64 - bl x : Nat) : Int)) (fun _ => []) := by
 refine Ye Tryz.func155 J Tryz.ntmps155 J trivial ?_
 intro w0 sc hw hsc
 simp only [Zq, Zo]
 have hb : bl x ≤ 64 := (bl_le 64 x).2 hx
 exact Zb <|Ze <|Zm J J <|Zd <|Za <|Zb <|Ze <|mv J J <|tt (Zh (n := 0) (bits_len _ hx) J J J K1 cF164 Zf J hw) J fun _ _ => dt (Yz J J J ⟨by omega, by omega⟩) J <|Zm J J <|Zd <|Za <|Zr <|Zx (.inl J) hsc () _ (fun a w hs => Yt hs Tryz.results155 J) (by congr 1; omega) trivial J Zj
theorem nat_size (v : Value) (x : Nat) (hx : bl x ≤ 1099511627776) : Cal Tryz.prog 136 #[v] [dgp v x] false (G := Unit) (fun _ => True) (fun _ => .int .i64 (bl x : Int)) (fun _ => []) := by
 refine Ye Tryz.func136 J Tryz.ntmps136 J K1 ?_
 intro w0 sc hw hsc
 simp only [Zq, Zo]
 have hX := lenU_bl x
 refine Zb <|Ze <|Zm J J <|Zd <|Za <|Zb <|Zb <|Ze <|mv J J <|dt (Zy J J (i := 1) J Zi uT127) J <|dt (Xh J J J) J <|Zd <|Za <|Zn J (fun h39 => ?_) (fun h39 => ?_)
 ·refine Zb <|Ze <|Zm J J <|Zd <|Za <|Zr <|Yw ?_
  have h0 : x = 0 := (dg_nil_iff two_U x).1 (by omega)
  exact Zx (.inl J) hsc () _ (fun a w hs => Yt hs Tryz.results136 J) (by rw [h0]; rfl) trivial J Zj
 ·have hp : 0 < x := by rcases Nat.eq_zero_or_pos x with rfl | h; (simp [dg_zero] at h39); exact h
  obtain ⟨z1, z2, z3, z4⟩ := size_eq hp
  exact Zk <|Za <|Zb <|Ze <|mv J J <|dt (Zy J J (i := 1) J Zi uT127) J <|dt (d_mul J J J ⟨by omega, by omega⟩) J <|mv J J <|mv J J <|dt (Zy J J (i := 1) J Zi uT127) J <|dt (Yz J J J ⟨by omega, by omega⟩) J <|dt (Yn (ii := 1) (i := (dg U x).length - 1) J J J J Zi uT127 zT137 (by omega) (by omega)) J <|dt (Ys (ii := 1) 0 J J J Zi pU (by first | omega | (simp only [List.length_set]; omega))) J <|tt (Zh (n := 1) (bits_lz _ (getD_lt U_pos (dg_lt two_U _) _)) J J J K1 cF155 Zf J hw) J fun _ _ => dt (Yz J J J ⟨by omega, by omega⟩) J <|Zm J J <|Zd <|Za <|Zr <|Zx (.inl J) hsc () _ (fun a w hs => Yt hs Tryz.results136 J) (by congr 1; omega) trivial J Zj
end Go.Sky

