/- rules, arithmetic and contracts: part 3
   Proved without conditions of its own: each theorem bears its own. -/
import Derived.Test.YtcegclhbeflgbaaGreatSh01
import Derived.Laws.StructEq
import Derived.Test.YtcegclhbeflgbaaGreatSh00
import Derived.Test.YtcegclhbeflgbaaGreatProg
set_option linter.all false
namespace Go.Sky
set_option linter.unusedVariables false
set_option maxRecDepth 20000
theorem tz_single {n : Nat} (h : n < U) : tz [n] = dg U n := by
  rw [← dg_val two_U [n] (by simpa using h)]
  simp [val]
theorem s_oeq {N : Nat} {sc : Nat → Prop} {env : Env} {H : Hp} {α : Type} {k : Nat} {e : TypeId} {enc : α → Value} {v : Value} {xs ys : List α} (i : Nat) (h : xs = ys) (hi : lk H i = some (osl k e enc v xs)) (hi0 : Nat.beq i 0 = false) :
    ∀ a w, Sat N sc env H a w → Sat N sc env ((i, osl k e enc v ys) :: H) a w := by
  subst h
  exact s_conv i hi rfl (fun w h => h) (fun b hb => hb) hi0
theorem val_take_drop (R : List Nat) (j : Nat) (hj : j ≤ R.length) : val U R = val U (R.take j) + U ^ j * val U (R.drop j) := by
  have := val_append U (R.take j) (R.drop j)
  rw [List.take_append_drop, List.length_take, Nat.min_eq_left hj] at this
  exact this
theorem val_lo {R : List Nat} (hR : ∀ d ∈ R, d < U) (j : Nat) (hj : j ≤ R.length) : val U (R.take j) = val U R % U ^ j ∧ val U (R.drop j) = val U R / U ^ j := by
  have h1 := val_take_drop R j hj
  have h2 := val_lt U_pos (R.take j) (fun d hd => hR d (List.mem_of_mem_take hd))
  rw [List.length_take, Nat.min_eq_left hj] at h2
  have hp : 0 < U ^ j := Nat.pow_pos U_pos
  constructor
  · rw [h1, Nat.add_comm, Nat.mul_add_mod, Nat.mod_eq_of_lt h2]
  · rw [h1, Nat.add_comm, Nat.mul_add_div hp, Nat.div_eq_of_lt h2, Nat.add_zero]
theorem val_zero_all {R : List Nat} (hR : ∀ d ∈ R, d < U) {n : Nat} (hn : n ≤ R.length) (h : val U R < U ^ n) : val U (R.drop n) = 0 ∧ val U (R.take n) = val U R := by
  obtain ⟨h1, h2⟩ := val_lo hR n hn
  rw [h2, h1, Nat.mod_eq_of_lt h]
  exact ⟨Nat.div_eq_of_lt h, rfl⟩
theorem win_val {R : List Nat} (hR : ∀ d ∈ R, d < U) {j n : Nat} (hn : j + n ≤ R.length) (h : val U R < U ^ (j + n)) : tz ((R.drop j).take n) = dg U (val U R / U ^ j) := by
  have hd : ∀ d ∈ R.drop j, d < U := fun d hd => hR d (List.mem_of_mem_drop hd)
  rw [← (val_lo hR j (by omega)).2, ← dg_val two_U _ (fun d hd' => hd d (List.mem_of_mem_take hd'))]
  congr 1
  refine (val_zero_all hd (by rw [List.length_drop]; omega) ?_).2
  rw [(val_lo hR j (by omega)).2, Nat.div_lt_iff_lt_mul (Nat.pow_pos U_pos), ← Nat.pow_add, Nat.add_comm]
  exact h
theorem all_spl {R ys : List Nat} (hR : ∀ d ∈ R, d < U) (hy : ∀ d ∈ ys, d < U) (lo : Nat) : ∀ d ∈ spl R lo ys, d < U := fun d hd => by
  simp only [spl, List.mem_append] at hd
  rcases hd with (hd | hd) | hd
  · exact hR d (List.mem_of_mem_take hd)
  · exact hy d hd
  · exact hR d (List.mem_of_mem_drop hd)
theorem val_spl0 (L : Nat) (ys : List Nat) : val U (spl (List.replicate L 0) 0 ys) = val U ys := by
  simp [spl, val_append, List.drop_replicate, val_replicate]
theorem val_win {R ys : List Nat} (hR : ∀ d ∈ R, d < U) {j n : Nat} (hn : j + n ≤ R.length) (h : val U R < U ^ (j + n)) (hy : ys.length ≤ n) :
    val U (spl (spl R j (List.replicate n 0)) j ys) = val U R % U ^ j + U ^ j * val U ys := by
  have e1 : (spl R j (List.replicate n 0)).take j = R.take j := by
    simp only [spl, List.append_assoc]
    rw [List.take_append_of_le_length (by rw [List.length_take]; omega), List.take_take, Nat.min_self]
  have e2 : (spl R j (List.replicate n 0)).drop (j + ys.length) = List.replicate (n - ys.length) 0 ++ R.drop (j + n) := by
    simp only [spl, List.append_assoc, List.length_replicate]
    rw [← List.drop_drop, List.drop_left' (by rw [List.length_take]; omega), List.drop_append_of_le_length (by rw [List.length_replicate]; exact hy), List.drop_replicate]
  rw [spl, e1, e2, val_append, val_append, val_append, val_replicate, (val_zero_all hR hn h).1, (val_lo hR j (by omega)).1, List.length_take, Nat.min_eq_left (by omega)]
  simp
theorem norm_dg {y b k : Nat} (hy : 0 < y) (hk : k = (dg U y).length) (hb : b = 64 - bl ((dg U y).getD (k - 1) 0)) : (dg U (y * 2 ^ b)).length = k ∧ 2 ^ b * U ^ k ≤ y * 2 ^ b * U * 2 ^ b ∧ 1 ≤ k ∧ y * 2 ^ b < U ^ k ∧ b ≤ 63 ∧ U ^ (k - 1) * 9223372036854775808 ≤ y * 2 ^ b := by
  obtain ⟨z1, z2, z3, z4⟩ := size_eq hy
  rw [← hk] at z1 z2 z3 z4
  obtain ⟨h1, h2⟩ := bl_pos hy
  have h3 := bl_self y
  have e : bl y + b = 64 * k := by omega
  have h4 : y * 2 ^ b < U ^ k := by
    rw [U_pow2, ← e, Nat.pow_add]; exact Nat.mul_lt_mul_of_pos_right h3 (Nat.two_pow_pos b)
  have h5 : U ^ (k - 1) * 9223372036854775808 ≤ y * 2 ^ b := by
    have : U ^ (k - 1) * 9223372036854775808 = 2 ^ (bl y - 1) * 2 ^ b := by
      rw [U_pow2, ← Nat.pow_add, show 9223372036854775808 = 2 ^ 63 from rfl, ← Nat.pow_add]
      congr 1; omega
    rw [this]; exact Nat.mul_le_mul_right _ h1
  have h6 : U ^ k = U ^ (k - 1) * U := by rw [← Nat.pow_succ]; congr 1; omega
  refine ⟨?_, ?_, z3, h4, by omega, h5⟩
  · refine Nat.le_antisymm ((dg_length_le two_U _ _).2 h4) ?_
    have : k - 1 < (dg U (y * 2 ^ b)).length := (dg_length_lt two_U _ _).2 (Nat.le_trans (Nat.le_mul_of_pos_right _ (by omega)) h5)
    omega
  · rw [h6, Nat.mul_comm (2 ^ b)]
    refine Nat.mul_le_mul_right _ ?_
    refine Nat.mul_le_mul_right _ (Nat.le_trans (Nat.le_mul_of_pos_right _ (by omega)) h5)
theorem guess_ge {W D k w1 w0 t : Nat} (hD : t * U ^ k ≤ D) (ht : 0 < t) (hW : W / U ^ k = w1 * U + w0) : W / D ≤ (w1 * U + w0) / t := by
  have hp : 0 < U ^ k := Nat.pow_pos U_pos
  rw [← hW, Nat.div_div_eq_div_mul, Nat.mul_comm]
  exact Nat.div_le_div_left hD (Nat.mul_pos ht hp)
theorem top_two {R : List Nat} (hR : ∀ d ∈ R, d < U) {j k : Nat} (hk : 1 ≤ k) (h : val U R < U ^ (j + k + 1)) (hn : j + k + 1 ≤ R.length) : val U R / U ^ j / U ^ (k - 1) = R.getD (j + k) 0 * U + R.getD (j + k - 1) 0 := by
  have h1 : ∀ i, R.getD i 0 = val U R / U ^ i % U := fun i => by
    rcases Nat.lt_or_ge i R.length with hi | hi
    · have h2 := (val_lo hR i (by omega)).2
      rw [drop_get 0 R i hi] at h2
      simp only [val] at h2
      rw [← h2, Nat.add_mul_mod_self_left, Nat.mod_eq_of_lt (getD_lt U_pos hR i)]
    · rw [show R.getD i 0 = 0 by simp [List.getD, List.getElem?_eq_none hi], Nat.div_eq_of_lt (Nat.lt_of_lt_of_le (val_lt U_pos R hR) (Nat.pow_le_pow_right U_pos hi))]; rfl
  rw [h1, h1, Nat.div_div_eq_div_mul, ← Nat.pow_add, show j + (k - 1) = j + k - 1 by omega]
  have h3 : val U R / U ^ (j + k) < U := by
    rw [Nat.div_lt_iff_lt_mul (Nat.pow_pos U_pos), ← Nat.pow_succ', Nat.add_comm (j + k)] at *
    rw [Nat.add_comm 1] at *
    exact h
  have h4 : val U R / U ^ (j + k) = val U R / U ^ (j + k - 1) / U := by
    rw [Nat.div_div_eq_div_mul, ← Nat.pow_succ]; congr 2; omega
  rw [Nat.mod_eq_of_lt h3, h4, Nat.mul_comm, Nat.div_add_mod]
theorem div_init {x b k lx D : Nat} (hx : x < U ^ lx) (hb : b ≤ 63) (hk : 1 ≤ k) (hkl : k ≤ lx + 1) (hD : U ^ (k - 1) * 9223372036854775808 ≤ D) : x * 2 ^ b < D * U ^ (lx + 1 - k) := by
  have h1 : x * 2 ^ b < U ^ lx * 2 ^ b := Nat.mul_lt_mul_of_pos_right hx (Nat.two_pow_pos b)
  have h2 : U ^ lx * 2 ^ b ≤ U ^ lx * 9223372036854775808 := Nat.mul_le_mul_left _ (by
    rw [show 9223372036854775808 = 2 ^ 63 from rfl]; exact Nat.pow_le_pow_right (by omega) hb)
  have h3 : U ^ lx * 9223372036854775808 = U ^ (k - 1) * 9223372036854775808 * U ^ (lx + 1 - k) := by
    rw [Nat.mul_right_comm, ← Nat.pow_add]; congr 2; omega
  have h4 : U ^ (k - 1) * 9223372036854775808 * U ^ (lx + 1 - k) ≤ D * U ^ (lx + 1 - k) := Nat.mul_le_mul_right _ hD
  omega
theorem div_step {V D j Q Vq N : Nat} (hD : 0 < D) (hQ : Q = V / U ^ j / D) (hN : Vq * U ^ (j + 1) * D + V = N) :
    V % U ^ j + U ^ j * (V / U ^ j - D * Q) < D * U ^ j ∧ (Q + U * Vq) * U ^ j * D + (V % U ^ j + U ^ j * (V / U ^ j - D * Q)) = N := by
  have hp : 0 < U ^ j := Nat.pow_pos U_pos
  have h1 := Nat.mod_lt V hp
  have h2 := Nat.div_add_mod V (U ^ j)
  have h3 := Nat.div_add_mod (V / U ^ j) D
  have h4 := Nat.mod_lt (V / U ^ j) hD
  have h5 : V / U ^ j - D * Q = V / U ^ j % D := by rw [hQ]; omega
  rw [h5]
  constructor
  · have h6 : U ^ j * (V / U ^ j % D + 1) ≤ U ^ j * D := Nat.mul_le_mul_left _ h4
    rw [Nat.mul_add] at h6
    rw [Nat.mul_comm D]; omega
  · rw [← hN]
    have e1 : (Q + U * Vq) * U ^ j * D = U ^ j * (D * Q) + Vq * U ^ (j + 1) * D := by
      rw [Nat.add_mul, Nat.add_mul, Nat.pow_succ]
      congr 1
      · rw [Nat.mul_comm Q, Nat.mul_assoc, Nat.mul_comm Q]
      · rw [Nat.mul_comm U Vq, Nat.mul_assoc Vq, Nat.mul_comm U]
    have e2 : U ^ j * (D * Q) + U ^ j * (V / U ^ j % D) = U ^ j * (V / U ^ j) := by rw [← Nat.mul_add, hQ, h3]
    omega
end Go.Sky
namespace Go.Sky
set_option linter.unusedVariables false
def sg (s : Bool) (x : Int) : Prop := (s = true → x ≤ 0) ∧ (s = false → 0 ≤ x)
theorem sg_neg {s : Bool} {x : Int} (h : sg s x) : sg (!s) (-x) := by
  cases s <;> simp [sg] at * <;> omega
theorem sg_mul {s t : Bool} {x y : Int} (hs : sg s x) (ht : sg t y) : sg (s != t) (x * y) := by
  cases s <;> cases t <;> simp [sg] at *
  · exact Int.mul_nonneg hs ht
  · exact Int.mul_nonpos_of_nonneg_of_nonpos hs ht
  · exact Int.mul_nonpos_of_nonpos_of_nonneg hs ht
  · exact Int.mul_nonneg_of_nonpos_of_nonpos hs ht
theorem sign_zero {x : Int} (h : (((dg U x.natAbs).length : Nat) : Int) = 0) : Value.int .i64 x.sign = .int .i64 0 := by
  have h1 := (dg_nil_iff two_U x.natAbs).1 (by omega)
  have : x = 0 := by omega
  subst this; rfl
theorem sign_neg {s : Bool} {x : Int} (hs : sg s x) (h1 : s = true) (h : ¬ (((dg U x.natAbs).length : Nat) : Int) = 0) : Value.int .i64 x.sign = .int .i64 (-1) := by
  have h2 : ¬ x.natAbs = 0 := fun e => h (by rw [(dg_nil_iff two_U x.natAbs).2 e]; rfl)
  have h3 := hs.1 h1
  rw [Int.sign_eq_neg_one_of_neg (by omega)]
theorem sign_pos {s : Bool} {x : Int} (hs : sg s x) (h1 : s = false) (h : ¬ (((dg U x.natAbs).length : Nat) : Int) = 0) : Value.int .i64 x.sign = .int .i64 1 := by
  have h2 : ¬ x.natAbs = 0 := fun e => h (by rw [(dg_nil_iff two_U x.natAbs).2 e]; rfl)
  have h3 := hs.2 h1
  rw [Int.sign_eq_one_of_pos (by omega)]
theorem sg_add1 {s : Bool} {x y : Int} (hs : sg s x) (ht : sg s y) : sg s (x + y) := by
  cases s <;> simp [sg] at * <;> omega
theorem abs_add1 {s : Bool} {x y : Int} (hs : sg s x) (ht : sg s y) : (x + y).natAbs = x.natAbs + y.natAbs := by
  cases s <;> simp [sg] at * <;> omega
theorem sg_add2 {s t : Bool} {x y : Int} (hs : sg s x) (ht : sg t y) (h : s ≠ t) (hge : y.natAbs ≤ x.natAbs) : sg s (x + y) := by
  cases s <;> cases t <;> simp [sg] at * <;> omega
theorem abs_add2 {s t : Bool} {x y : Int} (hs : sg s x) (ht : sg t y) (h : s ≠ t) (hge : y.natAbs ≤ x.natAbs) : (x + y).natAbs = x.natAbs - y.natAbs := by
  cases s <;> cases t <;> simp [sg] at * <;> omega
abbrev wv (x : Int) : Value := .agg #[.bool (decide (x < 0)), .string (bstr x.natAbs)]
def clip (x : Int) : Int := if 65536 < bl x.natAbs then 0 else x
def full (x : Int) : Int := if 65536 < bl x.natAbs then 7 else 0
theorem clip_bl (x : Int) : bl (clip x).natAbs ≤ 65536 := by
  unfold clip
  split
  · decide
  · omega
theorem clip_ok {x : Int} (h : bl x.natAbs ≤ 65536) : clip x = x := by unfold clip; rw [if_neg (by omega)]
theorem full_ok {x : Int} (h : bl x.natAbs ≤ 65536) : full x = 0 := by unfold full; rw [if_neg (by omega)]
theorem clip_no {x : Int} (h : 65536 < bl x.natAbs) : clip x = 0 := by unfold clip; rw [if_pos h]
theorem full_no {x : Int} (h : 65536 < bl x.natAbs) : full x = 7 := by unfold full; rw [if_pos h]
abbrev wideV (x : Int) : Value := .tuple #[wv (clip x), .int .i64 (full x)]
theorem wide_full {x : Int} (h : ((65536 : Int) < ((bl x.natAbs : Nat) : Int))) : wideV x = .tuple #[.agg #[.bool false, .string ⟨#[]⟩], .int .i64 7] := by
  unfold wideV; rw [clip_no (by omega), full_no (by omega)]; rfl
theorem wide_ok {x : Int} (h : ¬ ((65536 : Int) < ((bl x.natAbs : Nat) : Int))) : wideV x = .tuple #[wv x, .int .i64 0] := by
  unfold wideV; rw [clip_ok (by omega), full_ok (by omega)]
theorem wide_okf {x : Int} (hs : sg false x) (h : ¬ ((65536 : Int) < ((bl x.natAbs : Nat) : Int))) : wideV x = .tuple #[.agg #[.bool false, .string (bstr x.natAbs)], .int .i64 0] := by
  rw [wide_ok h, wv, decide_eq_false (by have := hs.2 rfl; omega)]
theorem wide_okt {x : Int} (hs : sg true x) (h : ¬ ((65536 : Int) < ((bl x.natAbs : Nat) : Int))) : wideV x = .tuple #[.agg #[.bool (decide ((0 : Int) < (((dg U x.natAbs).length : Nat) : Int))), .string (bstr x.natAbs)], .int .i64 0] := by
  have h1 := hs.1 rfl
  have h2 := dg_nil_iff two_U x.natAbs
  rw [wide_ok h, wv, show decide (x < 0) = decide ((0 : Int) < (((dg U x.natAbs).length : Nat) : Int)) from decide_eq_decide.2 ⟨fun h => by omega, fun h => by omega⟩]
theorem ediv_uniq {x y q r : Int} (hy : y ≠ 0) (h : x = y * q + r) (h0 : 0 ≤ r) (h1 : r < (y.natAbs : Int)) : x / y = q ∧ x % y = r := by
  have e := Int.mul_ediv_add_emod x y
  have e0 := Int.emod_nonneg x hy
  have e1 := Int.emod_lt x hy
  have hq : x / y = q := by
    have hk : y * (x / y - q) = r - x % y := by rw [Int.mul_sub]; omega
    have habs : (y * (x / y - q)).natAbs < y.natAbs := by rw [hk]; omega
    rw [Int.natAbs_mul] at habs
    rcases Nat.eq_zero_or_pos (x / y - q).natAbs with h | h
    · omega
    · exact absurd (Nat.le_mul_of_pos_right y.natAbs h) (by omega)
  refine ⟨hq, ?_⟩
  rw [hq] at e; omega
theorem sg_abs {s : Bool} {x : Int} (h : sg s x) : x = if s then -(x.natAbs : Int) else (x.natAbs : Int) := by
  cases s <;> simp [sg] at * <;> omega
theorem div_gen {s t : Bool} {x y : Int} (hs : sg s x) (ht : sg t y) (hy : y ≠ 0) (Q R : Nat) (hR : R < y.natAbs) (h : x = (if s then -1 else 1) * ((y.natAbs : Int) * Q) + R) :
    sg (s != t) (x / y) ∧ (x / y).natAbs = Q ∧ (x % y).natAbs = R := by
  have hy2 := sg_abs ht
  have key : x / y = (if s != t then -(Q : Int) else Q) ∧ x % y = R := by
    refine ediv_uniq hy ?_ (by omega) (by omega)
    conv => lhs; rw [h]
    conv => rhs; rw [hy2]
    cases s <;> cases t <;> simp [Int.neg_mul, Int.mul_neg]
  rw [key.1, key.2]
  cases s <;> cases t <;> simp [sg]
theorem divB {s t : Bool} {x y : Int} (hs : sg s x) (ht : sg t y) (hy : y ≠ 0) (hc : s = false ∨ x.natAbs % y.natAbs = 0) : sg (s != t) (x / y) ∧ (x / y).natAbs = x.natAbs / y.natAbs ∧ (x % y).natAbs = x.natAbs % y.natAbs := by
  have hx := sg_abs hs
  have e := Nat.div_add_mod x.natAbs y.natAbs
  refine div_gen hs ht hy _ _ (Nat.mod_lt _ (by omega)) ?_
  have e2 : ((y.natAbs : Int) * ((x.natAbs / y.natAbs : Nat) : Int)) + ((x.natAbs % y.natAbs : Nat) : Int) = x.natAbs := by rw [← Int.natCast_mul, ← Int.natCast_add, e]
  rcases hc with rfl | h0
  · simp at hx ⊢; simp at e2; omega
  · rw [h0] at e2 ⊢
    cases s <;> simp at hx e2 ⊢ <;> omega
theorem divA {t : Bool} {x y : Int} (hs : sg true x) (ht : sg t y) (hy : y ≠ 0) (h0 : 0 < x.natAbs % y.natAbs) : sg (true != t) (x / y) ∧ (x / y).natAbs = x.natAbs / y.natAbs + 1 ∧ (x % y).natAbs = y.natAbs - x.natAbs % y.natAbs := by
  have hx := sg_abs hs
  have e := Nat.div_add_mod x.natAbs y.natAbs
  have hl := Nat.mod_lt x.natAbs (show 0 < y.natAbs by omega)
  refine div_gen hs ht hy _ _ (by omega) ?_
  have e2 : ((y.natAbs : Int) * ((x.natAbs / y.natAbs : Nat) : Int)) + ((x.natAbs % y.natAbs : Nat) : Int) = x.natAbs := by rw [← Int.natCast_mul, ← Int.natCast_add, e]
  rw [Int.natCast_sub (by omega), Int.natCast_add, Int.mul_add]
  generalize ((y.natAbs : Int) * ((x.natAbs / y.natAbs : Nat) : Int)) = P at *
  generalize ((x.natAbs % y.natAbs : Nat) : Int) = R at *
  simp only [if_true] at *
  omega
def okW (b : Bool) (s : ByteArray) : Bool := if s.size = 0 then !b else decide ((s.data.toList.getD 0 0).toNat ≠ 0) && decide (s.size ≤ 8192)
theorem bl256 {n k : Nat} : (dg 256 n).length ≤ k ↔ bl n ≤ 8 * k := by rw [len256]; omega
theorem okW_wv {x : Int} (h : bl x.natAbs ≤ 65536) : okW (decide (x < 0)) (bstr x.natAbs) = true := by
  unfold okW
  rw [bstr_size]
  split
  · rename_i h0
    have := (dg_nil_iff (by omega : 2 ≤ 256) x.natAbs).1 h0
    simp; omega
  · rename_i h0
    have hp : 0 < x.natAbs := by
      rcases Nat.eq_zero_or_pos x.natAbs with h1 | h1
      · rw [h1] at h0; simp [dg_zero] at h0
      · exact h1
    have h1 := bstr_get x.natAbs 0 (by omega)
    have h2 := dg_top (by omega : 2 ≤ 256) hp
    rw [dg_getD (by omega)] at h2
    have h3 := (bl256 (n := x.natAbs) (k := 8192)).2 (by omega)
    rw [Bool.and_eq_true]
    refine ⟨decide_eq_true (by rw [h1]; simpa using h2), decide_eq_true h3⟩
theorem bytes_ext {a b : ByteArray} (h : a.data.toList = b.data.toList) : a = b := by
  cases a; cases b; simp at h; rw [h]
theorem bstr_of {s : ByteArray} (h0 : s.size ≠ 0) (h : (s.data.toList.getD 0 0).toNat ≠ 0) : s = bstr (val 256 (s.data.toList.reverse.map UInt8.toNat)) := by
  have hl : s.data.toList.length = s.size := rfl
  have hb : ∀ d ∈ s.data.toList.reverse.map UInt8.toNat, d < 256 := fun d hd => by
    obtain ⟨u, _, rfl⟩ := List.mem_map.1 hd
    exact u.toNat_lt
  refine bytes_ext ?_
  unfold bstr
  rw [dg_val (by omega) _ hb, tz_eq]
  · simp [List.map_reverse, Function.comp_def]
  · refine .inr ?_
    rw [List.length_map, List.length_reverse, List.getD_eq_getElem?_getD, List.getElem?_map, List.getElem?_reverse (by omega)]
    rw [show s.data.toList.length - 1 - (s.data.toList.length - 1) = 0 by omega]
    rw [List.getD_eq_getElem?_getD] at h
    cases hx : s.data.toList[0]? with
    | none => rw [hx] at h; simp at h
    | some u => rw [hx] at h; simpa using h
theorem okW_ex {b : Bool} {s : ByteArray} (h : okW b s = true) : ∃ x : Int, bl x.natAbs ≤ 65536 ∧ b = decide (x < 0) ∧ s = bstr x.natAbs := by
  unfold okW at h
  split at h
  · rename_i h0
    refine ⟨0, by simp [bl_zero], ?_, ?_⟩
    · cases b <;> simp_all
    · refine bytes_ext ?_
      have : s.data.toList.length = 0 := h0
      rw [List.eq_nil_of_length_eq_zero this]; rfl
  · rename_i h0
    rw [Bool.and_eq_true] at h
    have h1 := of_decide_eq_true h.1
    have h2 := of_decide_eq_true h.2
    have hs := bstr_of h0 h1
    generalize val 256 (s.data.toList.reverse.map UInt8.toNat) = n at hs
    have hsz : (dg 256 n).length = s.size := by rw [hs, bstr_size]
    have hn : 0 < n := by
      rcases Nat.eq_zero_or_pos n with h | h
      · subst h; simp [dg_zero] at hsz; omega
      · exact h
    have hbl : bl n ≤ 65536 := by have := (bl256 (n := n) (k := 8192)).1 (by omega); omega
    cases b with
    | true => exact ⟨-(n : Int), by simpa using hbl, by simp; omega, by simpa using hs⟩
    | false => exact ⟨n, by simpa using hbl, by simp, by simpa using hs⟩
def eqW (a : Bool) (s : ByteArray) (b : Bool) (t : ByteArray) : Bool := (a == b) && (s.toList == t.toList)
theorem wv_inj {x y : Int} (h : decide (x < 0) = decide (y < 0)) (h2 : bstr x.natAbs = bstr y.natAbs) : x = y := by
  have h3 : x.natAbs = y.natAbs := by
    have h4 : (dg 256 x.natAbs).reverse.map UInt8.ofNat = (dg 256 y.natAbs).reverse.map UInt8.ofNat := by
      have := congrArg (fun b : ByteArray => b.data.toList) h2
      simpa [bstr] using this
    have h5 : ∀ n : Nat, ((dg 256 n).reverse.map UInt8.ofNat).map UInt8.toNat = (dg 256 n).reverse := fun n => by
      rw [List.map_map]
      conv => rhs; rw [← List.map_id (dg 256 n).reverse]
      refine List.map_congr_left fun d hd => ?_
      have := dg_lt (by omega : 2 ≤ 256) n d (List.mem_reverse.1 hd)
      simp [UInt8.toNat_ofNat', Nat.mod_eq_of_lt this]
    have h6 := congrArg (List.map UInt8.toNat) h4
    rw [h5, h5] at h6
    exact (dg_eq_iff (by omega : 2 ≤ 256)).1 (List.reverse_inj.1 h6)
  have h4 := decide_eq_decide.1 h
  omega
theorem eqW_iff {a b : Bool} {s t : ByteArray} : eqW a s b t = true ↔ a = b ∧ s = t := by
  unfold eqW
  rw [Bool.and_eq_true, ByteArray.toList_eq, ByteArray.toList_eq, beq_iff_eq, beq_iff_eq]
  exact ⟨fun h => ⟨h.1, bytes_ext h.2⟩, fun h => ⟨h.1, by rw [h.2]⟩⟩
end Go.Sky
namespace Go.Sky
set_option linter.unusedVariables false
theorem sg_dec (x : Int) : sg (decide (x < 0)) x := by
  unfold sg
  simp; omega
theorem bl_iadd (x y : Int) : bl (x + y).natAbs ≤ max (bl x.natAbs) (bl y.natAbs) + 1 :=
  Nat.le_trans (bl_mono (Int.natAbs_add_le x y)) (bl_add _ _)
theorem bl_imul (x y : Int) : bl (x * y).natAbs ≤ bl x.natAbs + bl y.natAbs := by
  rw [Int.natAbs_mul]; exact bl_mul _ _
theorem bl_isub (x y : Int) : bl (x - y).natAbs ≤ max (bl x.natAbs) (bl y.natAbs) + 1 := by
  have := bl_iadd x (-y)
  rwa [Int.natAbs_neg, ← Int.sub_eq_add_neg] at this
theorem bl_neg (x : Int) : bl (-x).natAbs = bl x.natAbs := by rw [Int.natAbs_neg]
theorem bl_idiv (x y : Int) : bl (x / y).natAbs ≤ bl x.natAbs + 1 := by
  have h : (x / y).natAbs ≤ x.natAbs := Int.natAbs_ediv_le_natAbs x y
  have := bl_mono h; omega
theorem bl_imod (x y : Int) (hy : y ≠ 0) : bl (x % y).natAbs ≤ bl y.natAbs := by
  have e0 := Int.emod_nonneg x hy
  have e1 := Int.emod_lt x hy
  exact bl_mono (by omega)
theorem bl_gcd (x y : Nat) : bl (Nat.gcd x y) ≤ max (bl x) (bl y) := by
  rcases Nat.eq_zero_or_pos x with h | h
  · subst h; rw [Nat.gcd_zero_left]; omega
  · have := bl_mono (Nat.le_of_dvd h (Nat.gcd_dvd_left x y)); omega
theorem sg_emod (x : Int) {y : Int} (h : y ≠ 0) : sg false (x % y) := ⟨fun h0 => Bool.noConfusion h0, fun _ => Int.emod_nonneg x h⟩
def lgcd (x y : Int) : Int := if y < 0 then -(Int.gcd x y : Int) else (Int.gcd x y : Int)
theorem lgcd_abs (x y : Int) : (lgcd x y).natAbs = Nat.gcd x.natAbs y.natAbs := by
  unfold lgcd; split <;> simp [Int.gcd]
theorem lgcd_ne {x y : Int} (h : y ≠ 0) : lgcd x y ≠ 0 := fun e => by
  have h1 := lgcd_abs x y
  rw [e] at h1
  have := (Nat.gcd_eq_zero_iff.1 h1.symm).2
  omega
theorem sg_lgcd {t : Bool} {x y : Int} (ht : sg t y) (hy : y ≠ 0) : sg t (lgcd x y) := by
  unfold lgcd sg at *
  refine ⟨fun h => ?_, fun h => ?_⟩
  · rw [if_pos (by have := ht.1 h; omega)]; omega
  · rw [if_neg (by have := ht.2 h; omega)]; omega
theorem lgcd_pc (v : Value) (x y : Int) : dgp v (Nat.gcd x.natAbs y.natAbs) = dgp v (lgcd x y).natAbs := by rw [lgcd_abs]
def rfull (x y : Int) : Prop := 65536 < bl (x / lgcd x y).natAbs ∨ 65536 < bl (y / lgcd x y).natAbs
instance (x y : Int) : Decidable (rfull x y) := by unfold rfull; infer_instance
def rnum (x y : Int) : Int := if rfull x y then 0 else x / lgcd x y
def rden (x y : Int) : Int := if rfull x y then 0 else y / lgcd x y
def rerr (x y : Int) : Int := if rfull x y then 7 else 0
abbrev ratioV (x y : Int) : Value := .tuple #[.agg #[.bool (decide (rnum x y < 0)), .string (bstr (rnum x y).natAbs), .bool (decide (rden x y < 0)), .string (bstr (rden x y).natAbs)], .int .i64 (rerr x y)]
theorem ratio_full {x y : Int} (h : rfull x y) : ratioV x y = .tuple #[.agg #[.bool false, .string ⟨#[]⟩, .bool false, .string ⟨#[]⟩], .int .i64 7] := by
  unfold ratioV rnum rden rerr; rw [if_pos h, if_pos h, if_pos h]; rfl
theorem full_ne {x : Int} (h : full x ≠ 0) : 65536 < bl x.natAbs := by
  unfold full at h; split at h
  · assumption
  · exact absurd rfl h
theorem full_eq {x : Int} (h : full x = 0) : bl x.natAbs ≤ 65536 := by
  unfold full at h; split at h
  · omega
  · omega
theorem ratio_ok {x y : Int} (h1 : full (x / lgcd x y) = 0) (h2 : full (y / lgcd x y) = 0) : ratioV x y = .tuple #[.agg #[.bool (decide (clip (x / lgcd x y) < 0)), .string (bstr (clip (x / lgcd x y)).natAbs), .bool (decide (clip (y / lgcd x y) < 0)), .string (bstr (clip (y / lgcd x y)).natAbs)], .int .i64 0] := by
  have h3 : ¬ rfull x y := fun h => by have := full_eq h1; have := full_eq h2; unfold rfull at h; omega
  unfold ratioV rnum rden rerr
  rw [if_neg h3, if_neg h3, if_neg h3, clip_ok (full_eq h1), clip_ok (full_eq h2)]
def okR (b : Bool) (s : ByteArray) (c : Bool) (t : ByteArray) : Bool := okW b s && okW c t && (!c && decide (0 < t.size))
theorem pos_iff (z : Int) : (!decide (z < 0) && decide (0 < (bstr z.natAbs).size)) = decide (0 < z) := by
  rw [Bool.eq_iff_iff, Bool.and_eq_true, bstr_size, decide_eq_true_iff, decide_eq_true_iff]
  have := dg_nil_iff (by omega : 2 ≤ 256) z.natAbs
  simp only [Bool.not_eq_true', decide_eq_false_iff_not]
  omega
theorem sign_pos_iff (z : Int) : decide (0 < z.sign) = decide (0 < z) := by
  rw [decide_eq_decide]
  rcases Int.lt_trichotomy z 0 with h | h | h
  · rw [Int.sign_eq_neg_one_of_neg h]; omega
  · subst h; simp
  · rw [Int.sign_eq_one_of_pos h]; omega
theorem okR_sign {b : Bool} {s : ByteArray} {z : Int} (h1 : okW b s = true) (hz : bl z.natAbs ≤ 65536) : okR b s (decide (z < 0)) (bstr z.natAbs) = decide (0 < z.sign) := by
  unfold okR; rw [h1, okW_wv hz, pos_iff, sign_pos_iff]; rfl
theorem okR_wv {x y : Int} (hx : bl x.natAbs ≤ 65536) (hy : bl y.natAbs ≤ 65536) (hy0 : 0 < y) : okR (decide (x < 0)) (bstr x.natAbs) (decide (y < 0)) (bstr y.natAbs) = true := by
  unfold okR; rw [okW_wv hx, okW_wv hy, pos_iff]; simp [hy0]
theorem okR_ex {b c : Bool} {s t : ByteArray} (h : okR b s c t = true) : ∃ x y : Int, bl x.natAbs ≤ 65536 ∧ bl y.natAbs ≤ 65536 ∧ 0 < y ∧ b = decide (x < 0) ∧ s = bstr x.natAbs ∧ c = decide (y < 0) ∧ t = bstr y.natAbs := by
  unfold okR at h
  rw [Bool.and_eq_true, Bool.and_eq_true] at h
  obtain ⟨⟨h1, h2⟩, h3⟩ := h
  obtain ⟨x, hx, rfl, rfl⟩ := okW_ex h1
  obtain ⟨y, hy, rfl, rfl⟩ := okW_ex h2
  rw [pos_iff] at h3
  exact ⟨x, y, hx, hy, of_decide_eq_true h3, rfl, rfl, rfl, rfl⟩
end Go.Sky
namespace Go.Sky
open Go.RowKit (Below)
set_option linter.unusedVariables false
def Sz (n : Nat) (p : List Int) : Prop := ∀ i, bl (cf p i).natAbs ≤ n
theorem Sz.getD {n : Nat} {p : List Int} (h : Sz n p) (i : Nat) : bl (p.getD i 0).natAbs ≤ n := h i
theorem Sz.mono {n m : Nat} {p : List Int} (h : Sz n p) (hm : n ≤ m) : Sz m p := fun i => Nat.le_trans (h i) hm
theorem Sz.tzl {n : Nat} {p : List Int} (h : Sz n p) : Sz n (tzl p) := fun i => by rw [cf_tzl]; exact h i
theorem Sz.nil (n : Nat) : Sz n [] := fun i => by simp [cf, bl_zero]
theorem Sz.take {n : Nat} {p : List Int} (h : Sz n p) (k : Nat) : Sz n (p.take k) := fun i => by
  rw [cf_take]; split
  · exact h i
  · simp [bl_zero]
theorem Sz.mem {n : Nat} {p : List Int} (h : Sz n p) {x : Int} (hx : x ∈ p) : bl x.natAbs ≤ n := by
  obtain ⟨i, hi, rfl⟩ := List.mem_iff_getElem.1 hx
  have := h i
  rwa [cf_lt hi] at this
theorem Sz.of_mem {n : Nat} {p : List Int} (h : ∀ x ∈ p, bl x.natAbs ≤ n) : Sz n p := fun i => by
  rcases Nat.lt_or_ge i p.length with hi | hi
  · rw [cf_lt hi]; exact h _ (List.getElem_mem hi)
  · rw [cf_ge hi]; simp [bl_zero]
structure Vp (p : List Int) : Prop where
  sz : Sz 65536 p
  tr : Tr p
  len : p.length ≤ 25
def wr (x : Int) : Bool × ByteArray := (decide (x < 0), bstr x.natAbs)
def okP (r : List (Bool × ByteArray)) : Bool := r.all (fun w => okW w.1 w.2) && (decide (r.length ≤ 25) && (decide (r.length = 0) || decide ((r.getD (r.length - 1) (false, ⟨#[]⟩)).2.size ≠ 0)))
theorem bstr_size0 {x : Int} : (bstr x.natAbs).size = 0 ↔ x = 0 := by
  rw [bstr_size]
  have := dg_nil_iff (by omega : 2 ≤ 256) x.natAbs
  omega
theorem getD_map_wr (xs : List Int) (i : Nat) (h : i < xs.length) : (xs.map wr).getD i (false, ⟨#[]⟩) = wr (cf xs i) := by
  rw [cf_lt h]; simp [List.getD, h]
theorem okP_wr {xs : List Int} (h : Vp xs) : okP (xs.map wr) = true := by
  unfold okP
  rw [Bool.and_eq_true, Bool.and_eq_true, Bool.or_eq_true]
  refine ⟨List.all_eq_true.2 fun w hw => ?_, by simpa using h.len, ?_⟩
  · obtain ⟨x, hx, rfl⟩ := List.mem_map.1 hw
    exact okW_wv (h.sz.mem hx)
  · rcases h.tr with h0 | h0
    · left; simp [h0]
    · right
      have hl : 0 < xs.length := by
        rcases Nat.eq_zero_or_pos xs.length with h1 | h1
        · rw [cf_ge (by omega)] at h0; exact absurd rfl h0
        · exact h1
      rw [List.length_map, getD_map_wr _ _ (by omega)]
      refine decide_eq_true fun he => h0 (bstr_size0.1 he)
theorem okW_list {r : List (Bool × ByteArray)} (h : ∀ w ∈ r, okW w.1 w.2 = true) : ∃ xs : List Int, (∀ x ∈ xs, bl x.natAbs ≤ 65536) ∧ r = xs.map wr := by
  induction r with
  | nil => exact ⟨[], by simp, rfl⟩
  | cons w r ih =>
    obtain ⟨xs, h1, h2⟩ := ih fun u hu => h u (List.mem_cons_of_mem _ hu)
    obtain ⟨x, hx, h3, h4⟩ := okW_ex (h w (List.mem_cons_self ..))
    refine ⟨x :: xs, fun y hy => ?_, ?_⟩
    · rcases List.mem_cons.1 hy with rfl | hy
      · exact hx
      · exact h1 y hy
    · rw [List.map_cons, ← h2, wr, ← h3, ← h4]
theorem okP_ex {r : List (Bool × ByteArray)} (h : okP r = true) : ∃ xs : List Int, Vp xs ∧ r = xs.map wr := by
  unfold okP at h
  rw [Bool.and_eq_true, Bool.and_eq_true, Bool.or_eq_true] at h
  obtain ⟨h1, h2, h3⟩ := h
  obtain ⟨xs, h4, rfl⟩ := okW_list (List.all_eq_true.1 h1)
  refine ⟨xs, ⟨Sz.of_mem h4, ?_, by simpa using h2⟩, rfl⟩
  rcases h3 with h3 | h3
  · left; exact List.eq_nil_of_length_eq_zero (by simpa using h3)
  · rcases Nat.eq_zero_or_pos xs.length with h5 | h5
    · left; exact List.eq_nil_of_length_eq_zero h5
    · right
      rw [List.length_map, getD_map_wr _ _ (by omega)] at h3
      exact fun he => of_decide_eq_true h3 (bstr_size0.2 he)
theorem takeD_zero {xs : List Int} {k j : Nat} (h : j < k) (h0 : (xs.take k).getD j 0 = 0) : cf xs j = 0 := by rw [getD_take _ _ _ _ h] at h0; exact h0
theorem takeD_ne {xs : List Int} {k j : Nat} (h : j < k) (h0 : ¬ ((xs.take k).getD j 0).sign = 0) : cf xs j ≠ 0 := fun e => h0 (by rw [getD_take _ _ _ _ h]; rw [show xs.getD j 0 = 0 from e]; rfl)
theorem okP_bad {r : List (Bool × ByteArray)} {w : Bool × ByteArray} (hw : w ∈ r) (h : okW w.1 w.2 = false) : okP r = false := by
  unfold okP
  rw [show r.all (fun w => okW w.1 w.2) = false from List.all_eq_false.2 ⟨w, hw, by simp [h]⟩]; rfl
theorem okP_fin {xs : List Int} (h : ∀ x ∈ xs, bl x.natAbs ≤ 65536) : okP (xs.map wr) = (decide (xs.length ≤ 25) && (decide (xs.length = 0) || decide (¬ (xs.getD (xs.length - 1) 0).sign = 0))) := by
  unfold okP
  rw [show (xs.map wr).all (fun w => okW w.1 w.2) = true from List.all_eq_true.2 fun w hw => by
    obtain ⟨x, hx, rfl⟩ := List.mem_map.1 hw
    exact okW_wv (h x hx)]
  rw [List.length_map, Bool.true_and]
  congr 1
  by_cases h0 : xs.length = 0
  · simp [h0]
  · rw [decide_eq_false h0, Bool.false_or, Bool.false_or, getD_map_wr _ _ (by omega)]
    rw [decide_eq_decide, Int.sign_eq_zero_iff_zero]
    exact not_congr bstr_size0
def err (e x : Int) : Int := if e = 0 then full x else e
theorem err_ok {x : Int} (h : bl x.natAbs ≤ 65536) : err 0 x = 0 := by unfold err; rw [if_pos rfl, full_ok h]
def msz : List Int → Nat
  | [] => 0
  | x :: r => max (bl x.natAbs) (msz r)
theorem msz_sz (p : List Int) : Sz (msz p) p := by
  refine Sz.of_mem fun x hx => ?_
  induction p with
  | nil => cases hx
  | cons y r ih =>
    rcases List.mem_cons.1 hx with rfl | h
    · simp only [msz]; omega
    · have := ih h; simp only [msz]; omega
theorem msz_le {n : Nat} {p : List Int} (h : Sz n p) : msz p ≤ n := by
  have h2 : ∀ x ∈ p, bl x.natAbs ≤ n := fun x hx => h.mem hx
  clear h
  induction p with
  | nil => exact Nat.zero_le _
  | cons y r ih =>
    have := h2 y (List.mem_cons_self ..)
    have := ih fun x hx => h2 x (List.mem_cons_of_mem _ hx)
    simp only [msz]; omega
theorem msz_snoc (p : List Int) (x : Int) : msz (p ++ [x]) = max (msz p) (bl x.natAbs) := by
  induction p with
  | nil => simp [msz]
  | cons y r ih => simp only [List.cons_append, msz, ih]; omega
variable {P : Program} {N : Nat} {sc : Nat → Prop} {env env' : Env} {H H' : Hp} {Q Q' : Exit → Act → World → Prop} {M : Nat → Prop}
theorem slp_wr (v : Value) (xs : List Int) (w : World) (h : (slp 2 wv v xs).holds w) : (slp 2 (fun w : Bool × ByteArray => Value.agg #[.bool w.1, .string w.2]) v (xs.map wr)).holds w := by
  obtain ⟨⟨a, c, h0, h1, h2, h3⟩, hb⟩ := h
  refine ⟨⟨a, c, by rw [List.length_map]; exact h0, by rw [List.length_map]; exact h1, h2, ?_⟩, hb⟩
  rcases h3 with h3 | ⟨g, off, h3, h4⟩
  · left; rw [h3]; rfl
  · right
    refine ⟨g, off, h3, fun i x hi j u hu => ?_⟩
    rw [List.getElem?_map] at hi
    cases hx : xs[i]? with
    | none => rw [hx] at hi; cases hi
    | some y => rw [hx] at hi; cases hi; exact h4 i y hx j u hu
theorem slp_wr' (v : Value) (xs : List Int) (w : World) (h : (slp 2 (fun w : Bool × ByteArray => Value.agg #[.bool w.1, .string w.2]) v (xs.map wr)).holds w) : (slp 2 wv v xs).holds w := by
  obtain ⟨⟨a, c, h0, h1, h2, h3⟩, hb⟩ := h
  rw [List.length_map] at h0 h1
  refine ⟨⟨a, c, h0, h1, h2, ?_⟩, hb⟩
  rcases h3 with h3 | ⟨g, off, h3, h4⟩
  · left; simpa using h3
  · right
    refine ⟨g, off, h3, fun i x hi j u hu => ?_⟩
    exact h4 i (wr x) (by rw [List.getElem?_map, hi]; rfl) j u hu
theorem Cal.imp {f : FuncId} {args : Array Value} {p q : Pc} {pre : List Pc} {al : Bool} {G : Type} {φ : G → Prop} {val : G → Value} {its : G → List Pc} (h : Cal P f args (p :: pre) al φ val its) (hh : ∀ w, q.holds w → p.holds w) (hf : ∀ b, p.fp b → q.fp b) :
    Cal P f args (q :: pre) al φ val its := fun w hp => by
  refine (h w fun r hr => ?_).mono ?_
  · rcases List.mem_cons.1 hr with rfl | hr
    · exact hh w (hp q (List.mem_cons_self ..))
    · exact hp r (List.mem_cons_of_mem _ hr)
  · rintro e w' ⟨g, he, hg, hb, hits⟩
    refine ⟨g, he, hg, hb, fun p' hp' => ?_⟩
    obtain ⟨h1, h2, h3⟩ := hits p' hp'
    refine ⟨h1, h2, fun b hb => ?_⟩
    rcases h3 b hb with h | ⟨h, r, hr, hrb⟩
    · exact .inl h
    · refine .inr ⟨h, ?_⟩
      rcases List.mem_cons.1 hr with rfl | hr
      · exact ⟨q, List.mem_cons_self .., hf b hrb⟩
      · exact ⟨r, List.mem_cons_of_mem _ hr, hrb⟩
end Go.Sky
namespace Go.Sky
set_option linter.unusedVariables false
def fill (n k : Nat) (f : Nat → Int) : List Int := mk n fun i => if i < k then f i else 0
theorem length_fill (n k : Nat) (f : Nat → Int) : (fill n k f).length = n := length_mk _ _
theorem fill_set {n k : Nat} {f : Nat → Int} (h : k < n) : (fill n k f).set k (f k) = fill n (k + 1) f := list_ext (by simp [length_fill]) fun i hi => by
  rw [List.length_set, length_fill] at hi
  rw [cf_set _ _ _ _ (by rw [length_fill]; exact h)]
  unfold fill
  rw [cf_mk, cf_mk, if_pos hi, if_pos hi]
  by_cases hk : i = k
  · subst hk; rw [if_pos rfl, if_pos (by omega)]
  · rw [if_neg hk]
    by_cases h2 : i < k
    · rw [if_pos h2, if_pos (by omega)]
    · rw [if_neg h2, if_neg (by omega)]
theorem fill_zero (n : Nat) (f : Nat → Int) : List.replicate n 0 = fill n 0 f := list_ext (by simp [length_fill]) fun i hi => by
  rw [List.length_replicate] at hi
  unfold fill; rw [cf_mk, if_pos hi, if_neg (by omega), cf_lt (by simpa using hi)]; simp
theorem fill_all (n : Nat) (f : Nat → Int) : fill n n f = mk n f := mk_congr fun i hi => by rw [if_pos hi]
theorem mk_map (xs : List Int) (g : Int → Int) : mk xs.length (fun i => g (cf xs i)) = xs.map g := list_ext (by simp [length_mk]) fun i hi => by
  rw [length_mk] at hi
  rw [cf_mk, if_pos hi, cf_lt hi, cf_lt (p := xs.map g) (by simpa using hi)]; simp
theorem mk_sz {n m : Nat} {f : Nat → Int} (h : ∀ i, i < n → bl (f i).natAbs ≤ m) : Sz m (mk n f) := fun i => by
  rw [cf_mk]; split
  · exact h i ‹_›
  · simp [bl_zero]
theorem tr_pder {p : List Int} (h : Tr p) : Tr (pder p) := by
  unfold pder
  rcases Nat.lt_or_ge 1 p.length with h1 | h1
  · right
    rw [length_mk, cf_mk, if_pos (by omega)]
    have h2 := h.mem (by intro e; rw [e] at h1; simp at h1)
    rw [show p.length - 1 - 1 + 1 = p.length - 1 by omega]
    intro h3
    rcases Int.mul_eq_zero.1 h3 with h4 | h4
    · exact h2 h4
    · omega
  · left
    exact List.eq_nil_of_length_eq_zero (by rw [length_mk]; omega)
theorem pscale_mk (xs : List Int) (c : Int) : tzl (fill xs.length xs.length fun i => cf xs i * c) = pscale xs c := by
  rw [fill_all, mk_map xs (· * c)]; rfl
theorem pder_mk {xs : List Int} (h : Tr xs) : tzl (fill (xs.length - 1) (xs.length - 1) fun i => cf xs (i + 1) * ((i : Int) + 1)) = pder xs := by
  rw [fill_all]; exact tzl_tr (tr_pder h)
theorem pder_nil {p : List Int} (h : p.length = 0) : pder p = [] := List.eq_nil_of_length_eq_zero (by unfold pder; rw [length_mk]; omega)
theorem pcont_snoc (p : List Int) (x : Int) : pcont (p ++ [x]) = (Int.gcd (pcont p) x : Int) := by unfold pcont; rw [List.foldl_append]; rfl
theorem pcont_nonneg (p : List Int) : 0 ≤ pcont p := by
  rcases snoc_or p with rfl | ⟨ys, y, rfl⟩
  · exact Int.le_refl _
  · rw [pcont_snoc]; omega
theorem pcont_take_succ {p : List Int} {k : Nat} (h : k < p.length) : pcont (p.take (k + 1)) = (Int.gcd (pcont (p.take k)) (p.getD k 0) : Int) := by rw [take_snoc 0 _ _ h, pcont_snoc]
theorem pcont_bl {n : Nat} : ∀ (p : List Int), Sz n p → bl (pcont p).natAbs ≤ n := fun p => by
  have key : ∀ k, k ≤ p.length → Sz n p → bl (pcont (p.take k)).natAbs ≤ n := by
    intro k
    induction k with
    | zero => intro _ _; rw [List.take_zero]; exact Nat.zero_le _
    | succ k ih =>
      intro hk hs
      rw [pcont_take_succ hk]
      have h1 := ih (by omega) hs
      have h2 := hs k
      have := bl_gcd (pcont (p.take k)).natAbs (p.getD k 0).natAbs
      have h4 : bl (p.getD k 0).natAbs ≤ n := h2
      show bl (Nat.gcd _ _) ≤ n
      omega
  intro hs
  have := key p.length (Nat.le_refl _) hs
  rwa [List.take_length] at this
theorem pcont_dvd (p : List Int) : ∀ i, pcont p ∣ cf p i := by
  have key : ∀ k, k ≤ p.length → ∀ i, i < k → pcont (p.take k) ∣ cf p i := by
    intro k
    induction k with
    | zero => intro _ i hi; omega
    | succ k ih =>
      intro hk i hi
      rw [pcont_take_succ hk]
      rcases Nat.lt_or_ge i k with h | h
      · exact Int.dvd_trans (Int.gcd_dvd_left ..) (ih (by omega) i h)
      · have : i = k := by omega
        subst this
        exact Int.gcd_dvd_right ..
  intro i
  rcases Nat.lt_or_ge i p.length with h | h
  · have := key p.length (Nat.le_refl _) i h
    rwa [List.take_length] at this
  · rw [cf_ge h]; exact Int.dvd_zero _
theorem pcont_zero_iff (p : List Int) : pcont p = 0 ↔ ∀ i, cf p i = 0 := by
  refine ⟨fun h i => by have := pcont_dvd p i; rw [h] at this; exact Int.zero_dvd.1 this, fun h => ?_⟩
  have key : ∀ k, k ≤ p.length → pcont (p.take k) = 0 := by
    intro k
    induction k with
    | zero => intro _; rfl
    | succ k ih =>
      intro hk
      rw [pcont_take_succ hk, ih (by omega)]
      have := h k
      rw [show p.getD k 0 = 0 from this]; rfl
  have := key p.length (Nat.le_refl _)
  rwa [List.take_length] at this
theorem dvd_pcont {p : List Int} {d : Int} (h : ∀ i, d ∣ cf p i) : d ∣ pcont p := by
  have key : ∀ k, k ≤ p.length → d ∣ pcont (p.take k) := by
    intro k
    induction k with
    | zero => intro _; exact Int.dvd_zero _
    | succ k ih =>
      intro hk
      rw [pcont_take_succ hk]
      exact Int.dvd_coe_gcd (ih (by omega)) (h k)
  have := key p.length (Nat.le_refl _)
  rwa [List.take_length] at this
theorem cf_pprim (p : List Int) (i : Nat) : cf (pprim p) i = cf p i / pcont p := by
  unfold pprim
  rw [cf_map _ _ (by simp)]
theorem length_pprim (p : List Int) : (pprim p).length = p.length := by simp [pprim]
theorem ediv_bl_le {x y : Int} {n : Nat} (h : y ∣ x) (hx : bl x.natAbs ≤ n) : bl (x / y).natAbs ≤ n := by
  have h1 : (x / y).natAbs ≤ x.natAbs := Int.natAbs_ediv_le_natAbs x y
  exact Nat.le_trans (bl_mono h1) hx
theorem tr_pprim {p : List Int} (h : Tr p) : Tr (pprim p) := by
  rcases h with rfl | h
  · left; rfl
  · right
    rw [cf_pprim, length_pprim]
    intro h0
    have hd := pcont_dvd p (p.length - 1)
    have := Int.mul_ediv_cancel' hd
    rw [h0, Int.mul_zero] at this
    exact h this.symm
theorem sz_pprim {n : Nat} {p : List Int} (h : Sz n p) : Sz n (pprim p) := fun i => by rw [cf_pprim]; exact ediv_bl_le (pcont_dvd p i) (h i)
theorem vp_pprim {p : List Int} (h : Vp p) : Vp (pprim p) := ⟨sz_pprim h.sz, tr_pprim h.tr, by rw [length_pprim]; exact h.len⟩
theorem Vp.ne {p : List Int} (h : Vp p) (h0 : p ≠ []) : pcont p ≠ 0 := fun e => h.tr.mem h0 ((pcont_zero_iff p).1 e _)
def hor (p : List Int) (n d : Int) (i : Nat) : Int := sumTo (fun m => cf p (i + m) * (n ^ m * d ^ (p.length - 1 - (i + m)))) (p.length - i)
theorem hor_zero (p : List Int) (n d : Int) : hor p n d 0 = pev p n d := by unfold hor pev; simp only [Nat.zero_add, Nat.sub_zero]
theorem hor_top {p : List Int} (n d : Int) (h : 0 < p.length) : hor p n d (p.length - 1) = cf p (p.length - 1) := by
  unfold hor
  rw [show p.length - (p.length - 1) = 0 + 1 by omega, sumTo_succ, sumTo_zero]
  simp
theorem hor_step {p : List Int} (n d : Int) {i : Nat} (h : i < p.length) : hor p n d i = hor p n d (i + 1) * n + cf p i * d ^ (p.length - 1 - i) := by
  unfold hor
  rw [show p.length - i = p.length - (i + 1) + 1 by omega, sumTo_first]
  rw [← sumTo_mulr]
  have : sumTo (fun m => cf p (i + (m + 1)) * (n ^ (m + 1) * d ^ (p.length - 1 - (i + (m + 1))))) (p.length - (i + 1)) = sumTo (fun m => cf p (i + 1 + m) * (n ^ m * d ^ (p.length - 1 - (i + 1 + m))) * n) (p.length - (i + 1)) :=
    sumTo_congr fun m hm => by rw [show i + (m + 1) = i + 1 + m by omega, Int.pow_succ]; grind
  rw [this]
  simp only [Nat.add_zero, Int.pow_zero, Int.one_mul]
  omega
theorem bl_sum {K : Nat} {f : Nat → Int} : ∀ {n : Nat}, (∀ i, i < n → bl (f i).natAbs ≤ K) → (sumTo f n).natAbs ≤ n * (2 ^ K - 1)
  | 0, _ => by simp [sumTo]
  | n + 1, h => by
    have ih := bl_sum (n := n) fun i hi => h i (by omega)
    have h1 := (bl_le K _).1 (h n (by omega))
    rw [sumTo_succ, Nat.add_mul]
    have := Int.natAbs_add_le (sumTo f n) (f n)
    omega
theorem bl_sum5 {K : Nat} {f : Nat → Int} {n : Nat} (h : ∀ i, i < n → bl (f i).natAbs ≤ K) (hn : n ≤ 31) : bl (sumTo f n).natAbs ≤ K + 5 := by
  rw [bl_le]
  have h1 := bl_sum h
  have h2 : n * (2 ^ K - 1) ≤ 31 * (2 ^ K - 1) := Nat.mul_le_mul_right _ hn
  have h3 : 0 < 2 ^ K := Nat.two_pow_pos K
  rw [Nat.pow_add]
  omega
theorem bl_ipow (x : Int) {m : Nat} (h : bl x.natAbs ≤ m) : ∀ k, 0 < k → bl (x ^ k).natAbs ≤ k * m
  | 0, h0 => by omega
  | 1, _ => by rw [Int.pow_succ, Int.pow_zero, Int.one_mul, Nat.one_mul]; exact h
  | k + 2, _ => by
    have ih := bl_ipow x h (k + 1) (by omega)
    rw [Int.pow_succ, show k + 2 = (k + 1) + 1 from rfl, Nat.add_mul (k + 1) 1 m]
    have := bl_imul (x ^ (k + 1)) x
    omega
theorem bl_term {a n d : Int} {A m i j : Nat} (ha : bl a.natAbs ≤ A) (hn : bl n.natAbs ≤ m) (hd : bl d.natAbs ≤ m) : bl (a * (n ^ i * d ^ j)).natAbs ≤ A + (i + j) * m := by
  rcases Nat.eq_zero_or_pos i with rfl | hi
  · rcases Nat.eq_zero_or_pos j with rfl | hj
    · simp; exact ha
    · have h1 := bl_ipow d hd j hj
      have h2 := bl_imul a (n ^ 0 * d ^ j)
      rw [Int.pow_zero, Int.one_mul] at h2 ⊢
      rw [Nat.zero_add]; omega
  · rcases Nat.eq_zero_or_pos j with rfl | hj
    · have h1 := bl_ipow n hn i hi
      have h2 := bl_imul a (n ^ i * d ^ 0)
      rw [Int.pow_zero, Int.mul_one] at h2 ⊢
      rw [Nat.add_zero]; omega
    · have h1 := bl_ipow n hn i hi
      have h2 := bl_ipow d hd j hj
      have h3 := bl_imul (n ^ i) (d ^ j)
      have h4 := bl_imul a (n ^ i * d ^ j)
      rw [Nat.add_mul]; omega
theorem bl_hor {p : List Int} {n d : Int} {A m : Nat} (hp : Sz A p) (hn : bl n.natAbs ≤ m) (hd : bl d.natAbs ≤ m) (hl : p.length ≤ 31) (i : Nat) : bl (hor p n d i).natAbs ≤ A + (p.length - 1 - i) * m + 5 := by
  unfold hor
  refine bl_sum5 (fun k hk => ?_) (by omega)
  have h1 := bl_term (i := k) (j := p.length - 1 - (i + k)) (hp (i + k)) hn hd
  rw [show k + (p.length - 1 - (i + k)) = p.length - 1 - i by omega] at h1
  exact h1
def evfull (p : List Int) (n d : Int) : Prop := p ≠ [] ∧ 65536 < msz p + (p.length - 1) * msz [n, d] + 8
instance (p : List Int) (n d : Int) : Decidable (evfull p n d) := by unfold evfull; infer_instance
def evv (p : List Int) (n d : Int) : Int := if evfull p n d then 0 else pev p n d
def eve (p : List Int) (n d : Int) : Int := if evfull p n d then 7 else 0
abbrev wc (x : Int) : Array Value := #[.bool (decide (x < 0)), .string (bstr x.natAbs)]
section
variable {p : List Int} {n d : Int} (hF : msz p + (p.length - 1) * msz [n, d] + 8 ≤ 65536) (hl : p.length ≤ 25)
include hF
theorem ev_in : bl n.natAbs ≤ msz [n, d] ∧ bl d.natAbs ≤ msz [n, d] := by simp only [msz]; omega
theorem ev_pow {k : Nat} : bl (d ^ (p.length - 1 - k)).natAbs ≤ 65536 := by
  rcases Nat.eq_zero_or_pos (p.length - 1 - k) with h | h
  · rw [h, Int.pow_zero]; decide
  · have h1 := bl_ipow d (ev_in hF).2 _ h
    have h2 : (p.length - 1 - k) * msz [n, d] ≤ (p.length - 1) * msz [n, d] := Nat.mul_le_mul_right _ (by omega)
    omega
theorem ev_term {k : Nat} : bl (cf p k * d ^ (p.length - 1 - k)).natAbs ≤ 65536 := by
  have h1 := bl_term (i := 0) (j := p.length - 1 - k) (msz_sz p k) (ev_in hF).1 (ev_in hF).2
  have h2 : (0 + (p.length - 1 - k)) * msz [n, d] ≤ (p.length - 1) * msz [n, d] := Nat.mul_le_mul_right _ (by omega)
  rw [Int.pow_zero, Int.one_mul] at h1
  omega
include hl
theorem ev_hor (k : Nat) : bl (hor p n d k).natAbs ≤ 65536 := by
  have h1 := bl_hor (msz_sz p) (ev_in hF).1 (ev_in hF).2 (by omega) k
  have h2 : (p.length - 1 - k) * msz [n, d] ≤ (p.length - 1) * msz [n, d] := Nat.mul_le_mul_right _ (by omega)
  omega
theorem ev_mul {k : Nat} (h1 : 1 ≤ k) (h2 : k ≤ p.length - 1) : bl (hor p n d k * n).natAbs ≤ 65536 := by
  have h3 := bl_hor (msz_sz p) (ev_in hF).1 (ev_in hF).2 (by omega) k
  have h4 := bl_imul (hor p n d k) n
  have h5 := (ev_in hF).1
  have h6 : (p.length - 1 - k) * msz [n, d] + msz [n, d] ≤ (p.length - 1) * msz [n, d] := by
    rw [← Nat.succ_mul]; exact Nat.mul_le_mul_right _ (by omega)
  omega
end
theorem evv_bl {p : List Int} {n d : Int} (hl : p.length ≤ 25) : bl (evv p n d).natAbs ≤ 65536 := by
  unfold evv
  split
  · decide
  · rename_i h
    rcases Nat.eq_zero_or_pos p.length with h0 | h0
    · rw [List.eq_nil_of_length_eq_zero h0, show pev [] n d = 0 from rfl]; decide
    · rw [← hor_zero]
      have hne : p ≠ [] := fun e => by rw [e] at h0; simp at h0
      exact ev_hor (Nat.le_of_not_lt fun hlt => h ⟨hne, hlt⟩) hl 0
theorem pow_step (d : Int) {L k : Nat} (h1 : 1 ≤ k) (h2 : k ≤ L) : d ^ (L - k) * d = d ^ (L - (k - 1)) := by
  rw [show L - (k - 1) = L - k + 1 by omega, Int.pow_succ]
theorem hor_step' {p : List Int} (n d : Int) {k : Nat} (h1 : 1 ≤ k) (h2 : k ≤ p.length - 1) : hor p n d k * n + cf p (k - 1) * d ^ (p.length - 1 - (k - 1)) = hor p n d (k - 1) := by
  rw [hor_step n d (i := k - 1) (by omega), show k - 1 + 1 = k by omega]
end Go.Sky
namespace Go.Sky
set_option linter.unusedVariables false
def acc (p q : List Int) (i t : Nat) : Int := sumTo (fun k => if k ≤ t then cf p k * cf q (t - k) else 0) i
def acc2 (p q : List Int) (i j t : Nat) : Int := acc p q i t + if i ≤ t ∧ t < i + j then cf p i * cf q (t - i) else 0
theorem mk_set {L k : Nat} {f g : Nat → Int} (hk : k < L) (h : ∀ t, t < L → t ≠ k → f t = g t) (x : Int) (hx : x = g k) : (mk L f).set k x = mk L g := list_ext (by simp [length_mk]) fun t ht => by
  rw [List.length_set, length_mk] at ht
  rw [cf_set _ _ _ _ (by rw [length_mk]; exact hk), cf_mk, cf_mk, if_pos ht]
  by_cases htk : t = k
  · rw [if_pos htk, htk, hx, if_pos hk]
  · rw [if_neg htk, if_pos ht, h t ht htk]
theorem acc_conv (p q : List Int) (t : Nat) : acc p q p.length t = (ps p * ps q).c t := by
  rw [PS.mul_c]
  unfold acc
  have h1 : sumTo (fun k => if k ≤ t then cf p k * cf q (t - k) else 0) (max (t + 1) p.length) = sumTo (fun k => if k ≤ t then cf p k * cf q (t - k) else 0) p.length :=
    sumTo_ext (by omega) fun k h1 _ => by rw [cf_ge h1, Int.zero_mul]; split <;> rfl
  have h2 : sumTo (fun k => if k ≤ t then cf p k * cf q (t - k) else 0) (max (t + 1) p.length) = sumTo (fun k => if k ≤ t then cf p k * cf q (t - k) else 0) (t + 1) :=
    sumTo_ext (by omega) fun k h1 _ => by rw [if_neg (by omega)]
  rw [← h1, h2]
  exact sumTo_congr fun k hk => by rw [if_pos (by omega)]; rfl
theorem rep_mk (L : Nat) : List.replicate L 0 = mk L fun _ => 0 := by
  rw [fill_zero L fun _ => 0]; unfold fill; exact mk_congr fun i _ => by split <;> rfl
theorem bl_acc {p q : List Int} {A B i t : Nat} (hp : Sz A p) (hq : Sz B q) (hi : i ≤ 31) : bl (acc p q i t).natAbs ≤ A + B + 5 := by
  refine bl_sum5 (fun k hk => ?_) hi
  split
  · have := bl_imul (cf p k) (cf q (t - k)); have := hp k; have := hq (t - k); omega
  · simp [bl_zero]
def mulfull (p q : List Int) : Prop := p ≠ [] ∧ q ≠ [] ∧ (24 < p.length + q.length - 2 ∨ 65536 < msz p + msz q + 5)
instance (p q : List Int) : Decidable (mulfull p q) := by unfold mulfull; infer_instance
theorem getD_mk {L i : Nat} {f : Nat → Int} (h : i < L) : (mk L f).getD i 0 = f i := by
  have := cf_mk L f i; rw [if_pos h] at this; exact this
def dlow (p q : List Int) : Bool := decide (q ≠ []) && decide (p.length < q.length)
def derr (p q : List Int) : Int := if q.length = 0 then 3 else if p.length < q.length then 0 else if 65536 < msz p + (p.length - q.length + 1) * (msz q + 1) then 7 else 0
def rstep (q r : List Int) (top : Nat) : List Int :=
  mk r.length fun t => cf r t * cf q (q.length - 1) - if top - (q.length - 1) ≤ t ∧ t < top - (q.length - 1) + q.length then cf r top * cf q (t - (top - (q.length - 1))) else 0
def rsteps (p q : List Int) : Nat → List Int
  | 0 => p
  | j + 1 => rstep q (rsteps p q j) (p.length - 1 - j)
theorem length_rstep (q r : List Int) (top : Nat) : (rstep q r top).length = r.length := length_mk _ _
theorem length_rsteps (p q : List Int) : ∀ j, (rsteps p q j).length = p.length
  | 0 => rfl
  | j + 1 => by unfold rsteps; rw [length_rstep, length_rsteps p q j]
def prest (p q : List Int) : List Int := if p.length < q.length then p else tzl (rsteps p q (p.length - q.length + 1))
theorem cf_rstep {q r : List Int} {top t : Nat} (ht : t < r.length) : cf (rstep q r top) t = cf r t * cf q (q.length - 1) - if top - (q.length - 1) ≤ t ∧ t < top - (q.length - 1) + q.length then cf r top * cf q (t - (top - (q.length - 1))) else 0 := by
  unfold rstep; rw [cf_mk, if_pos ht]
theorem bl_step {a b c d : Int} {A B : Nat} (ha : bl a.natAbs ≤ A) (hb : bl b.natAbs ≤ B) (hc : bl c.natAbs ≤ A) (hd : bl d.natAbs ≤ B) : bl (a * b - c * d).natAbs ≤ A + (B + 1) := by
  have h1 := bl_imul a b
  have h2 := bl_imul c d
  have h3 := bl_isub (a * b) (c * d)
  omega
theorem sz_rstep {q r : List Int} {A B : Nat} (hr : Sz A r) (hq : Sz B q) (top : Nat) : Sz (A + (B + 1)) (rstep q r top) := by
  unfold rstep
  refine mk_sz fun t ht => ?_
  split
  · exact bl_step (hr t) (hq _) (hr _) (hq _)
  · rw [Int.sub_zero]
    have := bl_imul (cf r t) (cf q (q.length - 1)); have := hr t; have := hq (q.length - 1); omega
theorem sz_rsteps (p q : List Int) : ∀ j, Sz (msz p + j * (msz q + 1)) (rsteps p q j)
  | 0 => by rw [Nat.zero_mul]; exact msz_sz p
  | j + 1 => by
    unfold rsteps
    rw [Nat.succ_mul, ← Nat.add_assoc]
    exact sz_rstep (sz_rsteps p q j) (msz_sz q) _
def dq (q r : List Int) (k : Nat) : Int := cf r (k + q.length - 1) / cf q (q.length - 1)
def dstep (q r : List Int) (k : Nat) : List Int := mk r.length fun t => cf r t - if k ≤ t ∧ t < k + q.length then dq q r k * cf q (t - k) else 0
def dsteps (p q : List Int) : Nat → List Int
  | 0 => p
  | j + 1 => dstep q (dsteps p q j) (p.length - q.length - j)
theorem length_dsteps (p q : List Int) : ∀ j, (dsteps p q j).length = p.length
  | 0 => rfl
  | j + 1 => by unfold dsteps dstep; rw [length_mk, length_dsteps p q j]
def dcoef (p q : List Int) (k : Nat) : Int := dq q (dsteps p q (p.length - q.length - k)) k
def dexact (p q : List Int) (k : Nat) : Prop := cf (dsteps p q (p.length - q.length - k)) (k + q.length - 1) % cf q (q.length - 1) = 0
def pquo (p q : List Int) : List Int := tzl (mk (p.length - q.length + 1) (dcoef p q))
def pdivs (p q : List Int) : Prop := p = [] ∨ (q.length ≤ p.length ∧ (∀ k, k ≤ p.length - q.length → dexact p q k) ∧ ∀ i, cf (dsteps p q (p.length - q.length + 1)) i = 0)
theorem sz_dstep {q r : List Int} {A B : Nat} (hr : Sz A r) (hq : Sz B q) (k : Nat) (he : cf r (k + q.length - 1) % cf q (q.length - 1) = 0) : Sz (A + (B + 1)) (dstep q r k) := by
  unfold dstep
  refine mk_sz fun t ht => ?_
  split
  · have h1 : bl (dq q r k).natAbs ≤ A := ediv_bl_le (Int.dvd_of_emod_eq_zero he) (hr _)
    have h2 := bl_imul (dq q r k) (cf q (t - k))
    have h3 := bl_isub (cf r t) (dq q r k * cf q (t - k))
    have := hr t; have := hq (t - k); omega
  · rw [Int.sub_zero]; have := hr t; omega
theorem sz_dsteps (p q : List Int) : ∀ j, j ≤ p.length - q.length + 1 → (∀ k, p.length - q.length < k + j → k ≤ p.length - q.length → dexact p q k) → Sz (msz p + j * (msz q + 1)) (dsteps p q j)
  | 0, _, _ => by rw [Nat.zero_mul]; exact msz_sz p
  | j + 1, hj, h => by
    unfold dsteps
    rw [Nat.succ_mul, ← Nat.add_assoc]
    refine sz_dstep (sz_dsteps p q j (by omega) fun k h1 h2 => h k (by omega) h2) (msz_sz q) _ ?_
    have := h (p.length - q.length - j) (by omega) (by omega)
    unfold dexact at this
    rw [show p.length - q.length - (p.length - q.length - j) = j by omega] at this
    exact this
end Go.Sky
namespace Go.Sky
theorem eqW_pair {x y : Bool × ByteArray} (h : eqW x.1 x.2 y.1 y.2 = true) : x = y := by
  obtain ⟨h1, h2⟩ := eqW_iff.1 h
  exact Prod.ext h1 h2
theorem eqW_refl (a : Bool) (s : ByteArray) : eqW a s a s = true := eqW_iff.2 ⟨rfl, rfl⟩
end Go.Sky
namespace Go.Sky
theorem pmul_nil {p q : List Int} (h : p.length = 0 ∨ q.length = 0) : pmul p q = [] := by
  unfold pmul
  refine (tzl_nil_iff _).2 fun i => ?_
  rw [cf_mk]
  split
  · rw [PS.mul_c]
    refine sumTo_z fun k _ => ?_
    rcases h with h | h
    · rw [ps_c, cf_ge (by omega), Int.zero_mul]
    · rw [ps_c, ps_c, cf_ge (p := q) (by omega), Int.mul_zero]
  · rfl
end Go.Sky
namespace Go.Sky
set_option linter.unusedVariables false
def mul1 (R : List Int) (l : Int) (i : Nat) : List Int := mk R.length fun t => if t < i then cf R t * l else cf R t
def sub2 (q R : List Int) (l c : Int) (s i : Nat) : List Int := mk R.length fun t => cf R t * l - if s ≤ t ∧ t < s + i then c * cf q (t - s) else 0
theorem length_mul1 (R : List Int) (l : Int) (i : Nat) : (mul1 R l i).length = R.length := length_mk _ _
theorem length_sub2 (q R : List Int) (l c : Int) (s i : Nat) : (sub2 q R l c s i).length = R.length := length_mk _ _
theorem mul1_zero (R : List Int) (l : Int) : mul1 R l 0 = R := by
  unfold mul1
  refine Eq.trans (mk_congr fun i hi => ?_) (mk_self R)
  rw [if_neg (by omega)]
theorem mul1_get {R : List Int} {l : Int} {i : Nat} (h : i < R.length) : (mul1 R l i).getD i 0 = cf R i := by
  unfold mul1; rw [getD_mk h, if_neg (by omega)]
theorem mul1_set {R : List Int} {l : Int} {i : Nat} (h : i < R.length) : (mul1 R l i).set i (cf R i * l) = mul1 R l (i + 1) := by
  unfold mul1
  refine mk_set h (fun t ht hne => ?_) _ (by rw [if_pos (by omega)])
  by_cases h2 : t < i
  · rw [if_pos h2, if_pos (by omega)]
  · rw [if_neg h2, if_neg (by omega)]
theorem sub2_zero (q R : List Int) (l c : Int) (s : Nat) : mul1 R l R.length = sub2 q R l c s 0 := by
  unfold mul1 sub2
  exact mk_congr fun i hi => by rw [if_pos hi, if_neg (by omega), Int.sub_zero]
theorem sub2_get {q R : List Int} {l c : Int} {s i : Nat} (h : s + i < R.length) : (sub2 q R l c s i).getD (s + i) 0 = cf R (s + i) * l := by
  unfold sub2; rw [getD_mk h, if_neg (by omega), Int.sub_zero]
theorem sub2_set {q R : List Int} {l c : Int} {s i : Nat} (h : s + i < R.length) : (sub2 q R l c s i).set (s + i) (cf R (s + i) * l - c * cf q i) = sub2 q R l c s (i + 1) := by
  unfold sub2
  refine mk_set h (fun t ht hne => ?_) _ (by rw [if_pos (by omega), show s + i - s = i by omega])
  by_cases h2 : s ≤ t ∧ t < s + i
  · rw [if_pos h2, if_pos (by omega)]
  · rw [if_neg h2, if_neg (by omega)]
theorem rest_b {p q : List Int} {j : Nat} (hF : msz p + (p.length - q.length + 1) * (msz q + 1) ≤ 65536) (hj : j < p.length - q.length + 1) :
    (∀ t, bl (cf (rsteps p q j) t).natAbs ≤ 65536) ∧ (∀ t i, bl (cf (rsteps p q j) t * cf q i).natAbs ≤ 65536) ∧ (∀ t i t2 i2, bl (cf (rsteps p q j) t * cf q i - cf (rsteps p q j) t2 * cf q i2).natAbs ≤ 65536) := by
  have h1 := sz_rsteps p q j
  have h2 : j * (msz q + 1) + (msz q + 1) ≤ (p.length - q.length + 1) * (msz q + 1) := by rw [← Nat.succ_mul]; exact Nat.mul_le_mul_right _ (by omega)
  refine ⟨fun t => by have := h1 t; omega, fun t i => ?_, fun t i t2 i2 => ?_⟩
  · have := h1 t; have := msz_sz q i; have := bl_imul (cf (rsteps p q j) t) (cf q i); omega
  · have := bl_step (h1 t) (msz_sz q i) (h1 t2) (msz_sz q i2); omega
theorem sz_prest {p q : List Int} (hF : msz p + (p.length - q.length + 1) * (msz q + 1) ≤ 65536) : Sz 65536 (rsteps p q (p.length - q.length + 1)) := (sz_rsteps p q _).mono hF
theorem derr_ok {p q : List Int} (h : derr p q = 0) : q.length ≠ 0 ∧ (q.length ≤ p.length → msz p + (p.length - q.length + 1) * (msz q + 1) ≤ 65536) := by
  unfold derr at h
  split at h
  · omega
  · refine ⟨‹_›, fun hle => ?_⟩
    rw [if_neg (by omega)] at h
    split at h
    · omega
    · omega
theorem dlow_eq {p q : List Int} (h : q.length ≠ 0) : dlow p q = decide (p.length < q.length) := by
  unfold dlow
  have h2 : q ≠ [] := fun e => h (by rw [e]; rfl)
  simp [h2]
def dsub (q R : List Int) (c : Int) (k i : Nat) : List Int := mk R.length fun t => cf R t - if k ≤ t ∧ t < k + i then c * cf q (t - k) else 0
theorem length_dsub (q R : List Int) (c : Int) (k i : Nat) : (dsub q R c k i).length = R.length := length_mk _ _
theorem dsub_zero (q R : List Int) (c : Int) (k : Nat) : R = dsub q R c k 0 := by
  unfold dsub
  refine Eq.trans (mk_self R).symm (mk_congr fun i hi => ?_)
  rw [if_neg (by omega), Int.sub_zero]
theorem dsub_get {q R : List Int} {c : Int} {k i : Nat} (h : k + i < R.length) : (dsub q R c k i).getD (k + i) 0 = cf R (k + i) := by
  unfold dsub; rw [getD_mk h, if_neg (by omega), Int.sub_zero]
theorem dsub_set {q R : List Int} {c : Int} {k i : Nat} (h : k + i < R.length) : (dsub q R c k i).set (k + i) (cf R (k + i) - c * cf q i) = dsub q R c k (i + 1) := by
  unfold dsub
  refine mk_set h (fun t ht hne => ?_) _ (by rw [if_pos (by omega), show k + i - k = i by omega])
  by_cases h2 : k ≤ t ∧ t < k + i
  · rw [if_pos h2, if_pos (by omega)]
  · rw [if_neg h2, if_neg (by omega)]
def dout (p q : List Int) (j : Nat) : List Int := mk (p.length - q.length + 1) fun t => if p.length - q.length < t + j then dcoef p q t else 0
theorem length_dout (p q : List Int) (j : Nat) : (dout p q j).length = p.length - q.length + 1 := length_mk _ _
theorem dout_zero (p q : List Int) : List.replicate (p.length - q.length + 1) 0 = dout p q 0 := by
  rw [rep_mk]; unfold dout
  exact mk_congr fun i hi => by rw [if_neg (by omega)]
theorem dout_set {p q : List Int} {j : Nat} (hj : j < p.length - q.length + 1) : (dout p q j).set (p.length - q.length - j) (dq q (dsteps p q j) (p.length - q.length - j)) = dout p q (j + 1) := by
  unfold dout
  refine mk_set (by omega) (fun t ht hne => ?_) _ ?_
  · by_cases h2 : p.length - q.length < t + j
    · rw [if_pos h2, if_pos (by omega)]
    · rw [if_neg h2, if_neg (by omega)]
  · rw [if_pos (by omega)]; unfold dcoef; rw [show p.length - q.length - (p.length - q.length - j) = j by omega]
theorem dout_all (p q : List Int) : tzl (dout p q (p.length - q.length + 1)) = pquo p q := by
  unfold dout pquo
  congr 1
  exact mk_congr fun i hi => by rw [if_pos (by omega)]
def pdv (p q : List Int) : Prop := p = [] ∨ (q.length ≤ p.length ∧ (∀ k, k ≤ p.length - q.length → dexact p q k) ∧ tzl (dsteps p q (p.length - q.length + 1)) = [])
instance (p q : List Int) (k : Nat) : Decidable (dexact p q k) := by unfold dexact; infer_instance
instance (p q : List Int) : Decidable (pdv p q) := by unfold pdv; infer_instance
theorem div_b {p q : List Int} {j : Nat} (hF : msz p + (p.length - q.length + 1) * (msz q + 1) ≤ 65536) (hj : j < p.length - q.length + 1) (hx : ∀ k, p.length - q.length < k + j → k ≤ p.length - q.length → dexact p q k) :
    (∀ t, bl (cf (dsteps p q j) t).natAbs ≤ 65536) ∧ (dexact p q (p.length - q.length - j) → bl (dq q (dsteps p q j) (p.length - q.length - j)).natAbs ≤ 65536 ∧ (∀ i, bl (dq q (dsteps p q j) (p.length - q.length - j) * cf q i).natAbs ≤ 65536) ∧
      ∀ t i, bl (cf (dsteps p q j) t - dq q (dsteps p q j) (p.length - q.length - j) * cf q i).natAbs ≤ 65536) := by
  have h1 := sz_dsteps p q j (by omega) hx
  have h2 : j * (msz q + 1) + (msz q + 1) ≤ (p.length - q.length + 1) * (msz q + 1) := by rw [← Nat.succ_mul]; exact Nat.mul_le_mul_right _ (by omega)
  refine ⟨fun t => by have := h1 t; omega, fun he => ?_⟩
  unfold dexact at he
  rw [show p.length - q.length - (p.length - q.length - j) = j by omega] at he
  have h3 : bl (dq q (dsteps p q j) (p.length - q.length - j)).natAbs ≤ msz p + j * (msz q + 1) := ediv_bl_le (Int.dvd_of_emod_eq_zero he) (h1 _)
  have h4 : ∀ i, bl (dq q (dsteps p q j) (p.length - q.length - j) * cf q i).natAbs ≤ msz p + j * (msz q + 1) + msz q := fun i => by
    have := bl_imul (dq q (dsteps p q j) (p.length - q.length - j)) (cf q i); have := msz_sz q i; omega
  refine ⟨by omega, fun i => by have := h4 i; omega, fun t i => ?_⟩
  have := bl_isub (cf (dsteps p q j) t) (dq q (dsteps p q j) (p.length - q.length - j) * cf q i)
  have := h4 i
  have := h1 t
  omega
theorem sz_pquo {p q : List Int} (hF : msz p + (p.length - q.length + 1) * (msz q + 1) ≤ 65536) (hx : ∀ k, k ≤ p.length - q.length → dexact p q k) (j : Nat) : Sz 65536 (dout p q j) := by
  unfold dout
  refine mk_sz fun t ht => ?_
  split
  · have h1 := (div_b hF (j := p.length - q.length - t) (by omega) (fun k _ hk => hx k hk)).2
    rw [show p.length - q.length - (p.length - q.length - t) = t by omega] at h1
    exact (h1 (hx t (by omega))).1
  · simp [bl_zero]
theorem sz_dlast {p q : List Int} (hF : msz p + (p.length - q.length + 1) * (msz q + 1) ≤ 65536) (hx : ∀ k, k ≤ p.length - q.length → dexact p q k) : Sz 65536 (dsteps p q (p.length - q.length + 1)) :=
  (sz_dsteps p q _ (Nat.le_refl _) fun k _ hk => hx k hk).mono hF
def chor (p : List Int) (a b d : Int) : Nat → List Int
  | 0 => [cf p (p.length - 1)]
  | j + 1 => mk ((chor p a b d j).length + 1) fun t => cf (chor p a b d j) t * a + (if t = 0 then cf p (p.length - 2 - j) * d ^ (j + 1) else cf (chor p a b d j) (t - 1) * b)
def pcompo (p : List Int) (a b d : Int) : List Int := if p.length = 0 then [] else tzl (chor p a b d (p.length - 1))
def cpfull (p : List Int) (a b d : Int) : Prop := p ≠ [] ∧ 65536 < msz p + (p.length - 1) * (msz [a, b, d] + 1) + 8
instance (p : List Int) (a b d : Int) : Decidable (cpfull p a b d) := by unfold cpfull; infer_instance
end Go.Sky
namespace Go.Sky
def pquoz (p q : List Int) : List Int := if p = [] then [] else pquo p q
theorem pquoz_eq {p q : List Int} (h : p ≠ []) : pquoz p q = pquo p q := if_neg h
theorem dexact_j {p q : List Int} {j : Nat} (hj : j ≤ p.length - q.length) : dexact p q (p.length - q.length - j) ↔ cf (dsteps p q j) (p.length - q.length - j + q.length - 1) % cf q (q.length - 1) = 0 := by
  unfold dexact; rw [show p.length - q.length - (p.length - q.length - j) = j by omega]
theorem clip_mod {x y : Int} (hy : y ≠ 0) (hb : bl y.natAbs ≤ 65536) : clip (x % y) = x % y := clip_ok (Nat.le_trans (bl_imod x y hy) hb)
def cnx (c : List Int) (a b : Int) (i : Nat) : List Int := mk (c.length + 1) fun t => if t < i then cf c t * a + (if t = 0 then 0 else cf c (t - 1) * b) else if t = i ∧ 0 < i then cf c (t - 1) * b else 0
section
variable {p : List Int} {x y z : Int} (hF : msz p + (p.length - 1) * (msz [x, y, z] + 1) + 8 ≤ 65536) {j : Nat} (hj : j < p.length - 1)
include hF hj
end
theorem length_prest_le (p q : List Int) : (prest p q).length ≤ p.length := by
  unfold prest
  split
  · exact Nat.le_refl _
  · have := tzl_le (rsteps p q (p.length - q.length + 1)); rw [length_rsteps] at this; exact this
theorem vp_prest {p q : List Int} (hp : Vp p) (hd : derr p q = 0) : Vp (prest p q) := by
  have hl := length_prest_le p q
  refine ⟨?_, ?_, by have := hp.len; omega⟩
  · unfold prest
    split
    · exact hp.sz
    · exact (sz_prest ((derr_ok hd).2 (by omega))).tzl
  · unfold prest
    split
    · exact hp.tr
    · exact tr_tzl _
def gfull (p q : List Int) : Prop := p.length ≠ 0 ∧ q.length ≠ 0 ∧ 65536 < (max p.length q.length + 2) * (max p.length q.length + 2) * (max (msz p) (msz q) + 8)
instance (p q : List Int) : Decidable (gfull p q) := by unfold gfull; infer_instance
def gA (p q : List Int) : List Int := if p.length < q.length then pprim q else pprim p
def gB (p q : List Int) : List Int := if p.length < q.length then pprim p else pprim q
def eok : Nat → List Int → List Int → Prop
  | 0, _, b => b = []
  | f + 1, a, b => b = [] ∨ (derr a b = 0 ∧ eok f b (pprim (prest a b)))
def eu : Nat → List Int → List Int → List Int
  | 0, a, _ => a
  | f + 1, a, b => if b = [] then a else eu f b (pprim (prest a b))
theorem eok_step {f : Nat} {a b : List Int} (h : eok f a b) (hb : b ≠ []) : ∃ g, f = g + 1 ∧ derr a b = 0 ∧ eok g b (pprim (prest a b)) ∧ eu f a b = eu g b (pprim (prest a b)) := by
  cases f with
  | zero => exact absurd h hb
  | succ g =>
    rcases h with h | h
    · exact absurd h hb
    · exact ⟨g, rfl, h.1, h.2, by show (if b = [] then a else _) = _; rw [if_neg hb]⟩
theorem eu_nil (f : Nat) (a : List Int) : eu f a [] = a := by cases f <;> rfl
def gnorm (g : List Int) : List Int := if g.length ≠ 0 ∧ cf g (g.length - 1) < 0 then pscale g (-1) else g
def pgcd (f : Nat) (p q : List Int) : List Int := gnorm (eu f (gA p q) (gB p q))
theorem vp_gA {p q : List Int} (hp : Vp p) (hq : Vp q) : Vp (gA p q) := by unfold gA; split <;> exact vp_pprim (by assumption)
theorem vp_gB {p q : List Int} (hp : Vp p) (hq : Vp q) : Vp (gB p q) := by unfold gB; split <;> exact vp_pprim (by assumption)
theorem bl_negm {p : List Int} (h : Sz 65536 p) (i : Nat) : bl (cf p i * -1).natAbs ≤ 65536 := by
  rw [Int.mul_neg, Int.mul_one, Int.natAbs_neg]; exact h i
theorem sign_neg_iff (z : Int) : z.sign < 0 ↔ z < 0 := by
  rcases Int.lt_trichotomy z 0 with h | h | h
  · rw [Int.sign_eq_neg_one_of_neg h]; omega
  · subst h; simp
  · rw [Int.sign_eq_one_of_pos h]; omega
end Go.Sky
namespace Go.Sky
theorem sz_ints {l : List Int} (h : ∀ x ∈ l, inI x) : Sz 65536 l := Sz.of_mem fun x hx => by
  obtain ⟨h1, h2⟩ := h x hx
  have : bl x.natAbs ≤ 64 := (bl_le 64 _).2 (by omega)
  omega
end Go.Sky
namespace Go.Sky
open Go.RowKit (Below)
set_option linter.unusedVariables false
set_option maxRecDepth 20000
theorem two_D : 2 ≤ 1000000000 := by decide
theorem D_pos : 0 < 1000000000 := by decide
abbrev d9p (v : Value) (x : Nat) : Pc := slp 1 encN v (dg 1000000000 x)
theorem len9_bl (x : Nat) : (dg 1000000000 x).length ≤ bl x := by
  rw [dg_length_le two_D]
  exact Nat.lt_of_lt_of_le (bl_self x) (Nat.pow_le_pow_left (by decide) _)
theorem tz_full {b : Nat} (hb : 2 ≤ b) {o : List Nat} (ho : ∀ d ∈ o, d < b) {x : Nat} (hv : val b o = x) (h : o.length = 0 ∨ b ^ (o.length - 1) ≤ x) : o = dg b x := by
  rw [← hv, dg_val hb o ho]
  have h1 : (tz o).length ≤ o.length := (tz_prefix o).1
  have h2 : o.length ≤ (tz o).length := by
    rw [← dg_val hb o ho, hv]
    rcases h with h | h
    · omega
    · have := (dg_length_lt hb (o.length - 1) x).2 h; omega
  have h3 := (tz_prefix o).2
  rw [List.take_of_length_le h2] at h3
  exact h3
theorem plus_step {b : Nat} {o xs ys : List Nat} {k c : Nat} (hl : o.length = k) (h : val b o + c * b ^ k = val b (xs.take k) + val b (ys.take k)) :
    val b (o ++ [(c + xs.getD k 0 + ys.getD k 0) % b]) + (c + xs.getD k 0 + ys.getD k 0) / b * b ^ (k + 1) = val b (xs.take (k + 1)) + val b (ys.take (k + 1)) := by
  rw [val_append, val_take_succ, val_take_succ, hl]
  have e := Nat.div_add_mod (c + xs.getD k 0 + ys.getD k 0) b
  generalize (c + xs.getD k 0 + ys.getD k 0) / b = q at *
  generalize (c + xs.getD k 0 + ys.getD k 0) % b = r at *
  simp only [val, Nat.pow_succ]
  generalize b ^ k = B at *
  have : (b * q + r) * B = (c + xs.getD k 0 + ys.getD k 0) * B := by rw [e]
  grind
def d9s (a b c : Nat) : Nat := if a < b + c then a + 1000000000 - (b + c) else a - (b + c)
theorem d9s_int {a b c : Nat} (ha : a < 1000000000) (hb : b < 1000000000) (hc : c ≤ 1) : d9s a b c < 1000000000 ∧ d9s a b c + (b + c) = a + brw a b c * 1000000000 := by
  unfold d9s brw
  split <;> omega
theorem minus_step {o xs ys : List Nat} {k c : Nat} (hc : c ≤ 1) (hx : xs.getD k 0 < 1000000000) (hy : ys.getD k 0 < 1000000000) (hl : o.length = k) (h : val 1000000000 o + val 1000000000 (ys.take k) = val 1000000000 (xs.take k) + c * 1000000000 ^ k) :
    val 1000000000 (o ++ [d9s (xs.getD k 0) (ys.getD k 0) c]) + val 1000000000 (ys.take (k + 1)) = val 1000000000 (xs.take (k + 1)) + brw (xs.getD k 0) (ys.getD k 0) c * 1000000000 ^ (k + 1) := by
  rw [val_append, val_take_succ, val_take_succ, hl]
  have e := (d9s_int hx hy hc).2
  generalize d9s (xs.getD k 0) (ys.getD k 0) c = r at *
  generalize brw (xs.getD k 0) (ys.getD k 0) c = q at *
  simp only [val, Nat.pow_succ]
  generalize 1000000000 ^ k = B at *
  have : (r + (ys.getD k 0 + c)) * B = (xs.getD k 0 + q * 1000000000) * B := by rw [e]
  grind
theorem all_snoc {p : Nat → Prop} {o : List Nat} (h : ∀ d ∈ o, p d) {x : Nat} (hx : p x) : ∀ d ∈ o ++ [x], p d := fun d hd => by
  rcases List.mem_append.1 hd with h1 | h1
  · exact h d h1
  · rw [List.mem_singleton.1 h1]; exact hx
theorem pow_le_dg {b x k : Nat} (hb : 2 ≤ b) (h : k < (dg b x).length) : b ^ k ≤ x := (dg_length_lt hb k x).1 h
theorem take_dg_all {b x k : Nat} (hb : 2 ≤ b) (h : (dg b x).length ≤ k) : val b ((dg b x).take k) = x := by rw [val_take_all _ _ _ h, val_dg hb]
theorem times_digit {a b o c : Nat} (ha : a < 1000000000) (hb : b < 1000000000) (ho : o < 1000000000) (hc : c < 1000000000) : (o + c + a * b) / 1000000000 < 1000000000 ∧ o + c + a * b ≤ 9223372036854775807 := by
  have h : a * b ≤ 999999999 * 999999999 := Nat.mul_le_mul (by omega) (by omega)
  refine ⟨?_, by omega⟩
  rw [Nat.div_lt_iff_lt_mul D_pos]; omega
theorem times_step {o xs ys : List Nat} {i k c V : Nat} (h : val 1000000000 o + c * 1000000000 ^ (i + k) = V + xs.getD i 0 * 1000000000 ^ i * val 1000000000 (ys.take k)) (hp : i + k < o.length) :
    val 1000000000 (o.set (i + k) ((o.getD (i + k) 0 + c + xs.getD i 0 * ys.getD k 0) % 1000000000)) + (o.getD (i + k) 0 + c + xs.getD i 0 * ys.getD k 0) / 1000000000 * 1000000000 ^ (i + (k + 1)) = V + xs.getD i 0 * 1000000000 ^ i * val 1000000000 (ys.take (k + 1)) := by
  have h1 := val_set 1000000000 o o.length (i + k) ((o.getD (i + k) 0 + c + xs.getD i 0 * ys.getD k 0) % 1000000000) hp hp
  rw [List.take_of_length_le (by rw [List.length_set]; exact Nat.le_refl _), List.take_of_length_le (Nat.le_refl _)] at h1
  rw [val_take_succ]
  have e := Nat.div_add_mod (o.getD (i + k) 0 + c + xs.getD i 0 * ys.getD k 0) 1000000000
  generalize (o.getD (i + k) 0 + c + xs.getD i 0 * ys.getD k 0) / 1000000000 = q at *
  generalize (o.getD (i + k) 0 + c + xs.getD i 0 * ys.getD k 0) % 1000000000 = r at *
  generalize val 1000000000 (o.set (i + k) r) = W at *
  rw [show i + (k + 1) = (i + k) + 1 by omega, Nat.pow_succ]
  have e2 : 1000000000 ^ (i + k) = 1000000000 ^ i * 1000000000 ^ k := Nat.pow_add _ _ _
  rw [e2] at h h1 ⊢
  generalize 1000000000 ^ i = A at *
  generalize 1000000000 ^ k = B at *
  have h3 : (1000000000 * q + r) * (A * B) = (o.getD (i + k) 0 + c + xs.getD i 0 * ys.getD k 0) * (A * B) := by rw [e]
  simp only [Nat.add_mul] at h3
  have t1 : q * (A * B * 1000000000) = 1000000000 * q * (A * B) := by grind
  have t2 : xs.getD i 0 * A * (val 1000000000 (ys.take k) + ys.getD k 0 * B) = xs.getD i 0 * A * val 1000000000 (ys.take k) + xs.getD i 0 * ys.getD k 0 * (A * B) := by grind
  rw [t1, t2]
  omega
def cmpI (x y : Nat) : Int := if x < y then -1 else if y < x then 1 else 0
section
variable {P : Program} {N : Nat} {sc : Nat → Prop} {env env' : Env} {H H' : Hp} {Q Q' : Exit → Act → World → Prop} {M : Nat → Prop}
variable {o : Oper} {t t' : TypeId} {x y : Operand} {m n : Nat}
theorem n_add (ho : o.op = .binOp .add t x y t') (hx : ev env x = some (.int .i64 (m : Int))) (hy : ev env y = some (.int .i64 (n : Int))) (h : m + n ≤ 9223372036854775807) : Det P N sc o env H (.int .i64 ((m + n : Nat) : Int)) := by
  have := Yg (P := P) (N := N) (sc := sc) (H := H) ho hx hy ⟨by omega, by omega⟩
  rwa [← Int.natCast_add] at this
theorem n_mul (ho : o.op = .binOp .mul t x y t') (hx : ev env x = some (.int .i64 (m : Int))) (hy : ev env y = some (.int .i64 (n : Int))) (h : m * n ≤ 9223372036854775807) : Det P N sc o env H (.int .i64 ((m * n : Nat) : Int)) := by
  have := d_mul (P := P) (N := N) (sc := sc) (H := H) ho hx hy (by rw [← Int.natCast_mul]; exact ⟨by omega, by omega⟩)
  rwa [← Int.natCast_mul] at this
theorem n_quo (ho : o.op = .binOp .quo t x y t') (hx : ev env x = some (.int .i64 (m : Int))) (hy : ev env y = some (.int .i64 (n : Int))) (h : m ≤ 9223372036854775807) (hn : 0 < n) : Det P N sc o env H (.int .i64 ((m / n : Nat) : Int)) := by
  have := d_quo (P := P) (N := N) (sc := sc) (H := H) ho hx hy (by omega) (by omega) (by omega)
  rwa [← Int.natCast_ediv] at this
theorem n_rem (ho : o.op = .binOp .rem t x y t') (hx : ev env x = some (.int .i64 (m : Int))) (hy : ev env y = some (.int .i64 (n : Int))) (hn : 0 < n) : Det P N sc o env H (.int .i64 ((m % n : Nat) : Int)) := by
  have := d_rem (P := P) (N := N) (sc := sc) (H := H) ho hx hy (by omega) (by omega)
  rwa [← Int.natCast_emod] at this
end
end Go.Sky
namespace Go.Sky
theorem dg_getD0 {l : List Nat} {i : Nat} (h : l.length ≤ i) : l.getD i 0 = 0 := by simp [List.getD, List.getElem?_eq_none h]
end Go.Sky
namespace Go.Sky
theorem dg_len_mono {b x y : Nat} (hb : 2 ≤ b) (h : x ≤ y) : (dg b x).length ≤ (dg b y).length := by
  rcases Nat.lt_or_ge (dg b y).length (dg b x).length with h1 | h1
  · have := dg_len_lt hb h1; omega
  · exact h1
theorem dg_digit {b n : Nat} (hb : 2 ≤ b) (h : n < b) (h0 : n ≠ 0) : dg b n = [n] := by
  rw [dg_pos hb (by omega), Nat.mod_eq_of_lt h, Nat.div_eq_of_lt h, dg_zero]
end Go.Sky
namespace Go.Sky
theorem cmpI_ge {a b : Nat} : 0 ≤ cmpI a b ↔ b ≤ a := by unfold cmpI; split <;> (try split) <;> omega
theorem bl_small {y n : Nat} (hn : n < 1000000000) : bl (y * n) ≤ bl y + 30 := by
  have h3 := bl_mul y n
  have h4 : bl n ≤ 30 := (bl_le 30 _).2 (by omega)
  omega
theorem drop_set_val {q : List Nat} {k d : Nat} (hk : 0 < k) (h : k ≤ q.length) : val 1000000000 ((q.set (k - 1) d).drop (k - 1)) = d + 1000000000 * val 1000000000 (q.drop k) := by
  rw [drop_set _ _ _ (by omega), show k - 1 + 1 = k by omega]; rfl
end Go.Sky
namespace Go.Sky
theorem tz_one {b n : Nat} (hb : 2 ≤ b) (h : n < b) : tz [n] = dg b n := by
  have := dg_val hb [n] (by simpa using h)
  simpa [val] using this.symm
theorem tz_three {m : Nat} (h : m < 9223372036854775809) : tz [m % 1000000000, m / 1000000000 % 1000000000, m / 1000000000 / 1000000000] = dg 1000000000 m := by
  rw [← dg_val two_D [m % 1000000000, m / 1000000000 % 1000000000, m / 1000000000 / 1000000000] (by intro d hd; simp at hd; omega)]
  congr 1
  simp only [val]
  omega
theorem sign9 {x : Int} (h : (((dg 1000000000 x.natAbs).length : Nat) : Int) = 0) : Value.int .i64 x.sign = .int .i64 0 := by
  have h1 := (dg_nil_iff two_D x.natAbs).1 (by omega)
  have : x = 0 := by omega
  subst this; rfl
theorem len9_pos {x : Nat} (h : ¬ (((dg 1000000000 x).length : Nat) : Int) = 0) : 0 < x := by
  rcases Nat.eq_zero_or_pos x with h1 | h1
  · subst h1; simp [dg_zero] at h
  · exact h1
theorem made_b {s : Bool} {n : Nat} {z : Int} (hn : n = z.natAbs) (hs : sg s z) : (s && decide (0 < n)) = decide (z < 0) := by
  subst hn
  cases s
  · have := hs.2 rfl; rw [Bool.false_and, decide_eq_false (by omega)]
  · have := hs.1 rfl; rw [Bool.true_and, decide_eq_decide]; omega
theorem len_pos9 (n : Nat) : decide ((0 : Int) < (((dg 1000000000 n).length : Nat) : Int)) = decide (0 < n) := by
  rw [decide_eq_decide]
  have := dg_nil_iff two_D n
  omega
theorem beq_dec {a b : Bool} (h : (a == b) = true) : a = b := by simpa using h
end Go.Sky
namespace Go.Sky
section
variable {P : Program} {N : Nat} {sc : Nat → Prop} {env env' : Env} {H H' : Hp} {Q Q' : Exit → Act → World → Prop} {M : Nat → Prop}
variable {o : Oper} {t t' : TypeId} {x y : Operand} {m n : Nat}
theorem nn_quo (ho : o.op = .binOp .quo t x y t') (hx : ev env x = some (.int .i64 (-(m : Int)))) (hy : ev env y = some (.int .i64 (n : Int))) (h : m ≤ 9223372036854775808) (hn : 1 < n) : Det P N sc o env H (.int .i64 (-((m / n : Nat) : Int))) := Qs ho hx hy fun w => by
  have h1 : (-(m : Int)).tdiv (n : Int) = -((m / n : Nat) : Int) := by rw [Int.neg_tdiv, Int.ofNat_tdiv]
  have h2 : m / n ≤ 9223372036854775807 := by
    have := Nat.div_le_div_left (show 2 ≤ n from hn) (by omega : 0 < 2) (a := m)
    omega
  generalize m / n = q at *
  have hw : inI (-(q : Int)) := ⟨by omega, by omega⟩
  simp [binOp, Op.intDiv, h1, wrap_i hw]; omega
theorem nn_rem (ho : o.op = .binOp .rem t x y t') (hx : ev env x = some (.int .i64 (-(m : Int)))) (hy : ev env y = some (.int .i64 (n : Int))) (hn : 0 < n) : Det P N sc o env H (.int .i64 (-((m % n : Nat) : Int))) := Qs ho hx hy fun w => by
  have h1 : (-(m : Int)).tmod (n : Int) = -((m % n : Nat) : Int) := by rw [Int.neg_tmod, Int.ofNat_tmod]
  simp [binOp, Op.intDiv, h1]; omega
theorem n_neg (ho : o.op = .unOp .neg t x) (hx : ev env x = some (.int .i64 (-(m : Int)))) (h : m ≤ 9223372036854775807) : Det P N sc o env H (.int .i64 (m : Int)) := fun a w hs => by
  have hw : inI (m : Int) := ⟨by omega, by omega⟩
  simp [execOp, ho, hs.ev hx, Op.unary, Op.intArith, wrap_i hw]
end
end Go.Sky
namespace Go.Sky
theorem from_zero (n : Nat) : n / 256 ^ ((dg 256 n).length - 0) = 0 := Nat.div_eq_of_lt ((dg_length_le (by omega) _ n).1 (by omega))
theorem from_step {n i : Nat} (h : i < (dg 256 n).length) : n / 256 ^ ((dg 256 n).length - i) * 256 + n / 256 ^ ((dg 256 n).length - 1 - i) % 256 = n / 256 ^ ((dg 256 n).length - (i + 1)) := by
  rw [show (dg 256 n).length - 1 - i = (dg 256 n).length - (i + 1) by omega]
  have h2 : n / 256 ^ ((dg 256 n).length - i) = n / 256 ^ ((dg 256 n).length - (i + 1)) / 256 := by
    rw [Nat.div_div_eq_div_mul, ← Nat.pow_succ, show ((dg 256 n).length - (i + 1)).succ = (dg 256 n).length - i by omega]
  rw [h2, Nat.mul_comm]; exact Nat.div_add_mod _ _
end Go.Sky
namespace Go.Sky
theorem to_step {p xs : List Nat} {k r : Nat} (hk : 0 < k) (hp : k ≤ p.length) (hx : k ≤ xs.length) (hv : val 1000000000 (p.drop k) * 256 + r = val 1000000000 (xs.drop k)) :
    val 1000000000 ((p.set (k - 1) ((r * 1000000000 + xs.getD (k - 1) 0) / 256)).drop (k - 1)) * 256 + (r * 1000000000 + xs.getD (k - 1) 0) % 256 = val 1000000000 (xs.drop (k - 1)) := by
  rw [drop_set_val hk hp, drop_get 0 xs (k - 1) (by omega), show k - 1 + 1 = k by omega]
  simp only [val]
  have e := Nat.div_add_mod (r * 1000000000 + xs.getD (k - 1) 0) 256
  generalize (r * 1000000000 + xs.getD (k - 1) 0) / 256 = q at *
  generalize (r * 1000000000 + xs.getD (k - 1) 0) % 256 = s at *
  generalize val 1000000000 (p.drop k) = A at *
  generalize val 1000000000 (xs.drop k) = B at *
  rw [← hv, Nat.add_mul, Nat.mul_add, Nat.mul_assoc 1000000000 A 256]
  generalize 1000000000 * (A * 256) = Z
  clear hv
  omega
theorem to_digit {r a : Nat} (hr : r < 256) (ha : a < 1000000000) : (r * 1000000000 + a) / 256 < 1000000000 := by
  have h : r * 1000000000 + a < 256 * 1000000000 := by
    have h1 : r * 1000000000 ≤ 255 * 1000000000 := Nat.mul_le_mul_right _ (by omega)
    omega
  exact Nat.div_lt_of_lt_mul h
theorem to_push {bs : List Nat} {m n : Nat} (hv : val 256 bs + 256 ^ bs.length * m = n) : val 256 (bs ++ [m % 256]) + 256 ^ (bs ++ [m % 256]).length * (m / 256) = n := by
  rw [val_append, List.length_append]
  simp only [val, List.length_cons, List.length_nil, Nat.pow_succ, Nat.zero_add, Nat.mul_zero, Nat.add_zero, Nat.pow_zero, Nat.mul_one]
  have e := Nat.div_add_mod m 256
  generalize m / 256 = q at *
  generalize m % 256 = s at *
  rw [← hv, ← e]
  generalize 256 ^ bs.length = P at *
  grind
theorem to_ge {bs : List Nat} {m n : Nat} (hv : val 256 bs + 256 ^ bs.length * m = n) (hm : 0 < m) : 256 ^ bs.length ≤ n := by
  have := Nat.le_mul_of_pos_right (256 ^ bs.length) hm
  omega
theorem to_len {bs : List Nat} {n : Nat} (h : 256 ^ bs.length ≤ n) : bs.length ≤ bl n := by
  have h1 := pow_le_dg (b := 256) (x := n) (k := bs.length) (by omega) ((dg_length_lt (by omega) _ _).2 h)
  have h2 := (dg_length_lt (by omega : 2 ≤ 256) bs.length n).2 h
  have h3 := len256 n
  omega
theorem drop_rev {bs : List Nat} {k : Nat} (hk : 0 < k) (h : k ≤ bs.length) : (bs.drop k).reverse ++ [bs.getD (k - 1) 0] = (bs.drop (k - 1)).reverse := by
  rw [drop_get 0 bs (k - 1) (by omega), show k - 1 + 1 = k by omega]; simp
theorem bstr_bs {bs : List Nat} {n : Nat} (h : bs = dg 256 n) : (⟨((bs.drop 0).reverse.map UInt8.ofNat).toArray⟩ : ByteArray) = bstr n := by rw [h, List.drop_zero]; rfl
end Go.Sky
namespace Go.Sky
end Go.Sky
namespace Go.Sky
def qfull (a b : Int) : Prop := 65536 < bl a.natAbs ∨ 65536 < bl b.natAbs
instance (a b : Int) : Decidable (qfull a b) := by unfold qfull; infer_instance
def qn (a b : Int) : Int := if qfull a b then 0 else a
def qd (a b : Int) : Int := if qfull a b then 0 else b
def qe (a b : Int) : Int := if qfull a b then 7 else 0
theorem lgcd_ge {x y : Int} (h : ¬ y < 0) : lgcd x y = (Int.gcd x y : Int) := if_neg h
end Go.Sky
namespace Go.Sky
open Go.RowKit (Below)
set_option linter.unusedVariables false
variable {P : Program} {N : Nat} {sc : Nat → Prop} {env env' : Env} {H H' : Hp} {Q Q' : Exit → Act → World → Prop} {M : Nat → Prop}
abbrev encW (w : Bool × ByteArray) : Value := .agg #[.bool w.1, .string w.2]
abbrev encI (z : Int × SL) : Value := .agg #[.bool (decide (z.1 < 0)), svv z.2]
abbrev encS {α : Type} (z : SL × α) : Value := svv z.1
abbrev qI (z : Int × SL) : Pc := d9p (svv z.2) z.1.natAbs
abbrev pp (v : Value) (zs : List (Int × SL)) : Pc := deep 2 encI qI v zs
abbrev ints (zs : List (Int × SL)) : List Int := zs.map Prod.fst
abbrev I0 : Int × SL := (0, none, 0, 0)
theorem length_ints (zs : List (Int × SL)) : (ints zs).length = zs.length := by simp
theorem cf_ints (zs : List (Int × SL)) (i : Nat) : (zs.getD i I0).1 = cf (ints zs) i := by
  simp only [cf, List.getD, ints, List.getElem?_map]
  cases zs[i]? <;> rfl
theorem pre_deep {β : Type} {k : Nat} {enc : β → Value} {q : β → Pc} {v : Value} {zs : List β} {al : Bool} {r : List Pc} {z : β} (i : Nat) (hi : lk H i = some (deep k enc q v zs)) (hi0 : Nat.beq i 0 = false) (hz : z ∈ zs) (h : PreOk H al r) : PreOk H al (q z :: r) :=
  ⟨⟨i, _, fun e => by subst e; simp at hi0, hi, fun w h => h.2 z hz, fun b hb => .inr ⟨z, hz, hb⟩, fun _ => rfl⟩, h⟩
theorem give_deep {β : Type} {k : Nat} {enc : β → Value} {q : β → Pc} {v : Value} {zs : List β} {r : List Pc} {z : β} (i : Nat) (hi : lk H i = some (deep k enc q v zs)) (hi0 : Nat.beq i 0 = false) (hz : z ∈ zs) (hq : (q z).own = false) (h : Give H true r) : Give H true (q z :: r) :=
  ⟨⟨hq, .inl ⟨i, _, fun e => by subst e; simp at hi0, hi, fun w h => h.2 z hz, fun b hb => .inr ⟨z, hz, hb⟩, fun h => by cases h⟩⟩, h⟩
theorem s_predeep {β : Type} {k : Nat} {enc : β → Value} {q : β → Pc} {v : Value} {zs : List β} (i j n : Nat) (hi : lk H i = some (deep k enc q v zs)) (hi0 : Nat.beq i 0 = false) (hn : n ≤ zs.length) : ∀ a w, Sat N sc env H a w → Sat N sc env ((j, deep k enc q (preV v n) (zs.take n)) :: H) a w :=
  s_sub i j hi hi0 rfl (fun w h => ⟨⟨rowAt_pre n hn h.1.1, fun b hb => h.1.2 b (by rw [ownBlock_preV] at hb; exact hb)⟩, fun z hz => h.2 z (List.mem_of_mem_take hz)⟩) (fun b hb => by
    rcases hb with hb | ⟨z, hz, hb⟩
    · left; rw [ownBlock_preV] at hb; exact hb
    · right; exact ⟨z, List.mem_of_mem_take hz, hb⟩) rfl
theorem a_ex {ops : Array Oper} {ts : List Nat} {n : Nat} {listed : Array Bool} {α : Type} {p : α → Prop} (hp : ∀ a w, Sat N sc env H a w → ∃ x, p x) (h : ∀ x, p x → A P N sc M ops ts Q n listed env H) : A P N sc M ops ts Q n listed env H := fun a w hs => by
  obtain ⟨x, hx⟩ := hp a w hs
  exact h x hx a w hs
theorem s_deep_nil (i : Nat) : ∀ a w, Sat N sc env H a w → Sat N sc env ((i, pp (.slice none 0 0) []) :: H) a w := fun a w hs =>
  hs.add i _ ⟨nil_holds 2 encI w, fun z hz => by cases hz⟩ (fun j' jt _ _ hor b hb hb' => by
    rcases hb with hb | ⟨z, hz, _⟩
    · cases hb
    · cases hz) (fun b hb => by
    rcases hb with hb | ⟨z, hz, _⟩
    · cases hb
    · cases hz)
theorem f_self_deep {β : Type} {k : Nat} {enc : β → Value} {q : β → Pc} {v : Value} {zs : List β} (i : Nat) (hi : lk H i = some (deep k enc q v zs)) : ∀ a w, Sat N sc env H a w → preV v zs.length = v := fun a w hs => by
  obtain ⟨ad, c, h, _⟩ := (hs.hold i _ hi).1.1
  rw [h]; rfl
theorem take_ints (zs : List (Int × SL)) (k : Nat) : ints (zs.take k) = (ints zs).take k := by simp [ints, List.map_take]
theorem pre_dI {v : Value} {zs : List (Int × SL)} {al : Bool} {r : List Pc} {z : Int × SL} (i : Nat) (hi : lk H i = some (pp v zs)) (hi0 : Nat.beq i 0 = false) (hz : z ∈ zs) (h : PreOk H al r) : PreOk H al (d9p (svv z.2) z.1.natAbs :: r) := pre_deep (q := qI) (z := z) i hi hi0 hz h
theorem give_dI {v : Value} {zs : List (Int × SL)} {r : List Pc} {z : Int × SL} {p : Pc} (i : Nat) (hi : lk H i = some (pp v zs)) (hi0 : Nat.beq i 0 = false) (hz : z ∈ zs) (he : d9p (svv z.2) z.1.natAbs = p) (h : Give H true r) : Give H true (p :: r) := by
  subst he; exact give_deep (q := qI) (z := z) i hi hi0 hz rfl h
theorem t_appM {α : Type} {o : Oper} {x y : Operand} {t e : TypeId} {i i2 j k by_ d : Nat} {v u : Value} {enc : α → Value} {xs ys : List α} {p : Pc} {ti : TypeInfo} {z : Value} {w0 : World} {M0 : Nat → Prop}
    (ho : o.op = .call { callee := .builtin .append, args := #[x, y], argTypes := #[t, t] }) (hd : o.dst = some d) (hN : Nat.blt d N = true)
    (hx : ev env x = some v) (hy : ev env y = some u) (hH : lk H i = some (osl k e enc v xs)) (hi0 : i ≠ 0) (hj : lk H j = some p) (hr : Rd p k enc u ys) (hys : ys ≠ [])
    (ht : P.underlying t = some (.slice e)) (hi : P.info? e = some ti) (hz : ti.zero = some z) (he : Enc P e k enc) (hks : ti.size = k) (hby : ti.bytes = by_) (hzs : z.cells.size = k)
    (hb : (xs.length + ys.length) * by_ ≤ 140737488355328) (hby1 : 0 < by_)
    (h0 : lk H 0 = some (keep w0 M0)) (hw : ∀ b, w0.heap.size ≤ b → sc b) (hM : ∀ b, (osl k e enc v xs).fp b → M b) :
    T P N sc M o env H (G := Value) (fun _ => True) (fun v' => (d, v') :: env) (fun v' => (i, osl k e enc v' (xs ++ ys)) :: H) := fun a w hs K Q hK => by
  have hrow : w.ownsRow 0 e k v xs.length (cellsOf enc xs) := hs.hold i _ hH
  obtain ⟨ad, c, rfl, h1, h2, h3⟩ := hr w (hs.hold j p hj)
  rcases h3 with rfl | ⟨g, off, rfl, h3⟩
  · exact absurd rfl hys
  have hyc : ∀ q u, (cellsOf enc ys)[q]? = some u → w.cell? ((⟨g, off, none⟩ : Addr).add q) = some u := fun q u hq => by
    have hlt : q < ys.length * k := by rw [← length_cellsOf he.cells ys]; exact (List.getElem?_eq_some_iff.1 hq).1
    have hpos := he.pos
    have hd1 : q / k < ys.length := Nat.div_lt_of_lt_mul (by rw [Nat.mul_comm]; exact hlt)
    have hget : ys[q / k]? = some ys[q / k] := List.getElem?_eq_getElem hd1
    have hq2 : q % k < (enc ys[q / k]).cells.toList.length := by rw [Array.length_toList, he.cells]; exact Nat.mod_lt _ hpos
    have hu := List.getElem?_eq_getElem hq2
    have h4 := get_cellsOf he.cells ys _ _ hget _ _ hu
    have h5 := h3 _ _ hget _ _ hu
    have hqq : q / k * k + q % k = q := by rw [Nat.mul_comm]; exact Nat.div_add_mod q k
    rw [hqq] at h4
    rw [Nat.add_assoc, hqq] at h5
    rw [hq] at h4
    cases h4
    rw [addr_add]
    exact h5
  have hone : ∀ u ∈ cellsOf enc ys, u.oneCell' = true := fun u hu => by
    obtain ⟨y, _, hy⟩ := List.mem_flatMap.1 hu
    exact he.one y u hy
  have hle : xs.length + ys.length ≤ 140737488355328 := Nat.le_trans (Nat.le_mul_of_pos_right _ hby1) hb
  obtain ⟨v', w', hrun, ho', hg', hb'⟩ := run_append_at (P := P) t o.type e ti z k by_ ht hi hz hks hby hzs he.pos v xs.length (cellsOf enc xs) hrow ⟨g, off, none⟩ ys.length c (cellsOf enc ys)
    (length_cellsOf he.cells ys) hyc hone (by simp only [maxLen]; omega) hb
  have hr2 : (execOp a.eval o).run P w = .ok (.value v') w' := by
    simp only [execOp, ho, resolve, invoke, builtin, Sem.run_bind, Sem.run_pure, Result.andThen_ok, List.map_toArray, List.map_cons, List.map_nil, hs.ev hx, hs.ev hy, hrun]
  unfold Oper.wp
  rw [hr2]
  show K (a.put o.dst _) _
  rw [hd]
  have hchg : Chg (fun b => v.ownBlock = some b) w w' := ⟨hg'.os, hg'.tape, hg'.output, hg'.size, fun b hb hn => hg'.block b hb (fun e => hn e.symm)⟩
  refine hK v' _ _ trivial ((hs.upd hH rfl hi0 (q := osl k e enc v' (xs ++ ys)) hchg ?_ (fun b hb => hb' b hb) h0 hw).put d _ hN) ⟨hg'.os, hg'.tape, hg'.output, hg'.size, fun b hb hn => hg'.block b hb (fun e => hn (hM b e.symm))⟩
  show w'.ownsRow 0 e k v' (xs ++ ys).length (cellsOf enc (xs ++ ys))
  rw [cellsOf_append, List.length_append]
  exact ho'
theorem t_appaM {α : Type} {o : Oper} {x y : Operand} {t e : TypeId} {i j k by_ d : Nat} {v u : Value} {enc : α → Value} {xs ys : List α} {p : Pc} {ti : TypeInfo} {z : Value} {w0 : World} {M0 : Nat → Prop}
    (ho : o.op = .call { callee := .builtin .append, args := #[x, y], argTypes := #[t, t] }) (hd : o.dst = some d) (hN : Nat.blt d N = true)
    (hx : ev env x = some v) (hy : ev env y = some u) (hH : lk H i = some (osl k e enc v xs)) (hi0 : i ≠ 0) (hj : lk H j = some p) (hr : Rd p k enc u ys)
    (ht : P.underlying t = some (.slice e)) (hi : P.info? e = some ti) (hz : ti.zero = some z) (he : Enc P e k enc) (hks : ti.size = k) (hby : ti.bytes = by_) (hzs : z.cells.size = k)
    (hb : (xs.length + ys.length) * by_ ≤ 140737488355328) (hby1 : 0 < by_)
    (h0 : lk H 0 = some (keep w0 M0)) (hw : ∀ b, w0.heap.size ≤ b → sc b) (hM : ∀ b, (osl k e enc v xs).fp b → M b) :
    T P N sc M o env H (G := Value) (fun _ => True) (fun v' => (d, v') :: env) (fun v' => (i, osl k e enc v' (xs ++ ys)) :: H) := by
  by_cases hys : ys = []
  · subst hys
    intro a w hs K Q hK
    have hrow : w.ownsRow 0 e k v xs.length (cellsOf enc xs) := hs.hold i _ hH
    obtain ⟨ad, c, rfl, h1, h2, h3⟩ := hr w (hs.hold j p hj)
    have hown : ∃ a0 n c0, v = .slice a0 n c0 ∧ n = xs.length ∧ n ≤ c0 := by
      rcases hrow.2 with ⟨rfl, hn⟩ | ⟨g, cap, cur, rfl, _, _, hle, _⟩
      · exact ⟨none, 0, 0, rfl, hn.symm, Nat.le_refl _⟩
      · exact ⟨_, _, cap, rfl, rfl, hle⟩
    obtain ⟨a0, n, c0, rfl, rfl, hle⟩ := hown
    have hrun : (Builtin.append_ #[t, t] o.type #[.slice a0 xs.length c0, .slice ad ([] : List α).length c]).run P w = .ok (.slice a0 xs.length c0) w := by
      have hfc : (Builtin.firstCells ti.size 0 (.slice ad 0 c)).run P w = .ok #[] w := by
        cases ad with
        | none => rfl
        | some q => simp [Builtin.firstCells, loadCells, loadCellsFrom]
      cases a0 with
      | none => simp [Builtin.append_, run_underlying ht, sizeOf, typeInfo, hi, Builtin.lenOf, hfc, hle]
      | some q => simp [Builtin.append_, run_underlying ht, sizeOf, typeInfo, hi, Builtin.lenOf, hfc, hle, storeCells]
    have hr2 : (execOp a.eval o).run P w = .ok (.value (.slice a0 xs.length c0)) w := by
      simp only [execOp, ho, resolve, invoke, builtin, Sem.run_bind, Sem.run_pure, Result.andThen_ok, List.map_toArray, List.map_cons, List.map_nil, hs.ev hx, hs.ev hy, hrun]
    unfold Oper.wp
    rw [hr2]
    show K (a.put o.dst _) _
    rw [hd]
    refine hK _ _ _ trivial ((Sat.upd hs hH rfl hi0 (q := osl k e enc (.slice a0 xs.length c0) (xs ++ [])) (Chg.refl _ w) ?_ (fun b hb => .inl hb) h0 hw).put d _ hN) (Chg.refl _ w)
    rw [List.append_nil]; exact hrow
  · exact t_appM (i2 := 0) ho hd hN hx hy hH hi0 hj hr hys ht hi hz he hks hby hzs hb hby1 h0 hw hM
theorem t_offr {o : Oper} {G : Type} {φ : G → Prop} {genv : G → Env} {gH : G → Hp} {H0 : Hp} {ks : List Nat} {p : Pc} (i : Nat) (hi : lk H i = some p) (ho : p.own = true) (hn : ks.all (fun k => !Nat.beq k i) = true) (ha : Agr H0 H ks)
    (h : (∀ b, p.fp b → Off H0 ks b) → T P N sc (Off H0 ks) o env H φ genv gH) : T P N sc (Off H0 ks) o env H φ genv gH := fun a w hs =>
  h (fun b hb k hk q hq hf => by
    rw [← ha.mem k hk] at hq
    have hne : i ≠ k := fun e => by
      subst e
      have := List.all_eq_true.1 hn i hk
      simp at this
    exact hs.sep i k p q hne hi hq ho b hb hf) a w hs
def eaf (v : Value) (i k q : Nat) : Addr := (ead v i k).add q
theorem d_fae {α : Type} {o : Oper} {x : Operand} {t : TypeId} {f : Nat} {fs : Array Field} {fd : Field} {k k1 i ii q : Nat} {v : Value} {p : Pc} {enc : α → Value} {xs : List α} (ho : o.op = .fieldAddr t x f)
    (hx : ev env x = some (.pointer (some (ead v i k)))) (hH : lk H ii = some p) (hr : Rd p k enc v xs) (hlt : i < xs.length) (ht : P.underlying t = some (.struct fs)) (hf : fs[f]? = some fd) (hk : ∀ w, (sizeOf fd.type).run P w = .ok (k1 + 1) w) (hq : fd.offset = q) :
    Det P N sc o env H (.pointer (some (eaf v i k q))) := fun a w hs => by
  obtain ⟨ad, c, rfl, h1, h2, h3⟩ := hr w (hs.hold ii p hH)
  rcases h3 with rfl | ⟨g, off, rfl, h3⟩
  · simp at hlt
  · subst hq
    simp only [ead, addr_add] at hx
    simp [execOp, ho, hs.ev hx, Instr.fieldAt, run_underlying ht, hf, Instr.sureAddr, fieldPlace, hk, addr_add, eaf, ead]
theorem d_ldf {α : Type} {o : Oper} {x : Operand} {t : TypeId} {k i ii q : Nat} {v u : Value} {p : Pc} {enc : α → Value} {xs : List α} (d0 : α) (ho : o.op = .load t x)
    (hx : ev env x = some (.pointer (some (eaf v i k q)))) (hH : lk H ii = some p) (hr : Rd p k enc v xs) (hlt : i < xs.length) (ha : ∀ w, (isAgg t).run P w = .ok false w) (hu : (enc (xs.getD i d0)).cells.toList[q]? = some u) : Det P N sc o env H u := fun a w hs => by
  obtain ⟨ad, c, rfl, h1, h2, h3⟩ := hr w (hs.hold ii p hH)
  rcases h3 with rfl | ⟨g, off, rfl, h3⟩
  · simp at hlt
  · have hi : xs[i]? = some (xs.getD i d0) := by simp [List.getD, List.getElem?_eq_getElem hlt]
    have h := h3 i _ hi q u hu
    simp only [eaf, ead, addr_add] at hx
    simp [execOp, ho, hs.ev hx, Instr.loadAt, Instr.sureAddr, loadVar, ha, load, Sem.run, h]
end Go.Sky
namespace Go.Sky
set_option linter.unusedVariables false
abbrev rq (z : Int × Int) : Value := .agg #[.bool (decide (z.1 < 0)), .string (bstr z.1.natAbs), .bool (decide (z.2 < 0)), .string (bstr z.2.natAbs)]
abbrev encQ (z : (Bool × ByteArray) × (Bool × ByteArray)) : Value := .agg #[.bool z.1.1, .string z.1.2, .bool z.2.1, .string z.2.2]
theorem Zz {P : Program} {N : Nat} {sc : Nat → Prop} {o : Oper} {env : Env} {H : Hp} {r r' : Value} (h : Det P N sc o env H r) (e : r = r') : Det P N sc o env H r' := e ▸ h
end Go.Sky
namespace Go.Sky
open Go.RowKit (Below)
set_option linter.unusedVariables false
variable {P : Program} {N : Nat} {sc : Nat → Prop} {env env' : Env} {H H' : Hp} {Q Q' : Exit → Act → World → Prop} {M : Nat → Prop}
theorem d_mkc {o : Oper} {f : FuncId} {xs ys : List Operand} {vs us : List Value} (ho : o.op = .makeFunc (.func f) xs.toArray ys.toArray) (hv : EvL env xs vs) (hu : EvL env ys us) : Det P N sc o env H (.func (.func f) vs.toArray us.toArray) := fun a w hs => by
  have hm := hv.map hs
  have hn := hu.map hs
  simp [execOp, ho, Instr.makeFunc, hm, hn]
theorem run_execcallc {a : Act} {w : World} (hs : Sat N sc env H a w) {o : Oper} {f : FuncId} {c : Operand} {xs : List Operand} {ats : Array TypeId} {fs vs us : List Value} (ho : o.op = .call { callee := .value c, args := xs.toArray, argTypes := ats })
    (hc : ev env c = some (.func (.func f) fs.toArray us.toArray)) (hargs : EvL env xs vs) : (execOp a.eval o).run P w = (callFunc f (fs ++ vs ++ us).toArray).run P w := by
  have hm := hargs.map hs
  simp [execOp, ho, resolve, invoke, hs.ev hc, Deferred.ofValue, hm]
theorem t_callc {o : Oper} {f : FuncId} {c : Operand} {xs : List Operand} {ats : Array TypeId} {d n : Nat} {fs vs us : List Value} {pre : List Pc} {al : Bool} {G : Type} {φ : G → Prop} {val : G → Value} {its : G → List Pc} {w0 : World} {M0 : Nat → Prop}
    (hc : Cal P f (fs ++ vs ++ us).toArray pre al φ val its)
    (ho : o.op = .call { callee := .value c, args := xs.toArray, argTypes := ats }) (hcv : ev env c = some (.func (.func f) fs.toArray us.toArray)) (hd : o.dst = some d) (hN : Nat.blt d N = true)
    (hargs : EvL env xs vs) (hcall : ∀ args w, (callFunc f args).run P w = .ok (.enter f args) w) (hpre : PreOk H al pre)
    (h0 : lk H 0 = some (keep w0 M0)) (hw : ∀ b, w0.heap.size ≤ b → sc b) :
    T P N sc M o env H φ (fun g => (d, val g) :: env) (fun g => adds n (its g) H) := fun a w hs K Q hK => by
  have hr : (execOp a.eval o).run P w = .ok (.enter f (fs ++ vs ++ us).toArray) w := by rw [run_execcallc hs ho hcv hargs, hcall]
  let o2 : Oper := { o with op := .call { callee := .value (.func f), args := ((fs ++ vs ++ us).map Operand.const).toArray, argTypes := ats } }
  have hev : ∀ l : List Value, EvL env (l.map Operand.const) l := fun l => by
    induction l with
    | nil => trivial
    | cons v r ih => exact ⟨rfl, ih⟩
  have hr2 : (execOp a.eval o2).run P w = .ok (.enter f (fs ++ vs ++ us).toArray) w := by rw [run_execcall hs (o := o2) rfl (hev _), hcall]
  have h2 : o2.wp P a w K Q := Zg (n := n) (M := M) hc (o := o2) rfl hd hN (hev _) hcall hpre h0 hw a w hs K Q hK
  unfold Oper.wp at h2 ⊢
  rw [hr2] at h2
  rw [hr]
  exact h2
theorem pre_lendb {b : Nat} {t : TypeId} {cs : Array Value} {r : List Pc} (i : Nat) (hi : lk H i = some (box b t cs)) (hi0 : Nat.beq i 0 = false) (h : PreOk H false r) : PreOk H false (rbox b t cs :: r) :=
  ⟨⟨i, _, fun e => by subst e; simp at hi0, hi, fun w h => h, fun b hb => hb, fun h => by cases h⟩, h⟩
theorem Sat.rboxc {a : Act} {w : World} (hs : Sat N sc env H a w) {i b : Nat} {t : TypeId} {cs : Array Value} (hH : lk H i = some (rbox b t cs)) (j : Nat) : w.cell? ⟨b, j, none⟩ = cs[j]? := by
  have h : w.heap[b]? = some (.cells cs t (0, 0)) := hs.hold i _ hH
  simp [World.cell?, h]
theorem d_lra {o : Oper} {x : Operand} {t tb : TypeId} {i b j k : Nat} {cs : Array Value} {vs : List Value} (ho : o.op = .load t x)
    (hx : ev env x = some (.pointer (some ⟨b, j, none⟩))) (hH : lk H i = some (rbox b tb cs)) (ht : ∀ w, (isAgg t).run P w = .ok true w) (hk : ∀ w, (sizeOf t).run P w = .ok k w)
    (hl : vs.length = k) (hv : ∀ n u, vs[n]? = some u → cs[j + n]? = some u) : Det P N sc o env H (.agg vs.toArray) := fun a w hs => by
  have hr := run_loadCells_list (P := P) w ⟨b, j, none⟩ vs (fun n u hu => by rw [addr_add, hs.rboxc hH]; exact hv n u hu)
  rw [hl] at hr
  simp [execOp, ho, hs.ev hx, Instr.loadAt, Instr.sureAddr, loadVar, ht, hk, hr]
theorem d_lr4 {o : Oper} {x : Operand} {t tb : TypeId} {i b j : Nat} {cs : Array Value} {v0 v1 v2 v3 : Value} (ho : o.op = .load t x)
    (hx : ev env x = some (.pointer (some ⟨b, j, none⟩))) (hH : lk H i = some (rbox b tb cs)) (ht : ∀ w, (isAgg t).run P w = .ok true w) (hk : ∀ w, (sizeOf t).run P w = .ok 4 w)
    (h0 : cs[j]? = some v0) (h1 : cs[j + 1]? = some v1) (h2 : cs[j + 2]? = some v2) (h3 : cs[j + 3]? = some v3) : Det P N sc o env H (.agg #[v0, v1, v2, v3]) :=
  d_lra hx (vs := [v0, v1, v2, v3]) (ho := ho) hH ht hk rfl (fun n u hu => by
    match n, hu with
    | 0, hu => simp at hu; subst hu; exact h0
    | 1, hu => simp at hu; subst hu; exact h1
    | 2, hu => simp at hu; subst hu; exact h2
    | 3, hu => simp at hu; subst hu; exact h3
    | n + 4, hu => simp at hu)
theorem d_negi {o : Oper} {t : TypeId} {x : Operand} {m : Int} (ho : o.op = .unOp .neg t x) (hx : ev env x = some (.int .i64 m)) (h : inI (-m)) : Det P N sc o env H (.int .i64 (-m)) := fun a w hs => by
  simp [execOp, ho, hs.ev hx, Op.unary, Op.intArith, wrap_i h]
theorem fill24 (u0 u1 u2 u3 a0 a1 a2 a3 b0 b1 b2 b3 : Value) : Instr.fill (fun i => some (i * 4, 4)) ((List.range (2 * 4)).map ((Value.agg #[u0, u1, u2, u3]).cells[· % (Value.agg #[u0, u1, u2, u3]).cells.size]!)).toArray [(0, .agg #[a0, a1, a2, a3]), (1, .agg #[b0, b1, b2, b3])] = some #[a0, a1, a2, a3, b0, b1, b2, b3] := by
  simp [Instr.fill, Value.cells, List.range, List.range.loop]
  try rfl
theorem fill34 (u0 u1 u2 u3 a0 a1 a2 a3 b0 b1 b2 b3 c0 c1 c2 c3 : Value) : Instr.fill (fun i => some (i * 4, 4)) ((List.range (3 * 4)).map ((Value.agg #[u0, u1, u2, u3]).cells[· % (Value.agg #[u0, u1, u2, u3]).cells.size]!)).toArray [(0, .agg #[a0, a1, a2, a3]), (1, .agg #[b0, b1, b2, b3]), (2, .agg #[c0, c1, c2, c3])] = some #[a0, a1, a2, a3, b0, b1, b2, b3, c0, c1, c2, c3] := by
  simp [Instr.fill, Value.cells, List.range, List.range.loop]
  try rfl
theorem fill18 (u0 u1 u2 u3 u4 u5 u6 u7 a0 a1 a2 a3 a4 a5 a6 a7 : Value) : Instr.fill (fun i => some (i * 8, 8)) ((List.range (1 * 8)).map ((Value.agg #[u0, u1, u2, u3, u4, u5, u6, u7]).cells[· % (Value.agg #[u0, u1, u2, u3, u4, u5, u6, u7]).cells.size]!)).toArray [(0, .agg #[a0, a1, a2, a3, a4, a5, a6, a7])] = some #[a0, a1, a2, a3, a4, a5, a6, a7] := by
  simp [Instr.fill, Value.cells, List.range, List.range.loop]
  try rfl
theorem t_st1 {o : Oper} {x y : Operand} {t tb : TypeId} {i b : Nat} {u v : Value} {w0 : World} {M0 : Nat → Prop} (ho : o.op = .store t x y) (hd : o.dst = none)
    (hx : ev env x = some (.pointer (some ⟨b, 0, none⟩))) (hy : ev env y = some v) (hH : lk H i = some (box b tb #[u])) (hi0 : i ≠ 0) (hk : ∀ w, (sizeOf t).run P w = .ok 1 w) (h1 : One N sc env H v)
    (h0 : lk H 0 = some (keep w0 M0)) (hw : ∀ b, w0.heap.size ≤ b → sc b) (hM : M b) :
    T P N sc M o env H (G := Unit) (fun _ => True) (fun _ => env) (fun _ => (i, box b tb #[v]) :: H) := fun a w hs =>
  Zu (vs := [v]) ho hd hx hy hH hi0 (cells_of_one (h1 a w hs)) hk rfl rfl ⟨h1, trivial⟩ h0 hw hM a w hs
end Go.Sky
namespace Go.Sky
open Go.RowKit (Below)
set_option linter.unusedVariables false
variable {P : Program} {N : Nat} {sc : Nat → Prop} {env env' : Env} {H H' : Hp} {Q Q' : Exit → Act → World → Prop} {M : Nat → Prop}
abbrev iq (z : (Int × Int) × (Int × Int)) : Value := .agg #[.bool (decide (z.1.1 < 0)), .string (bstr z.1.1.natAbs), .bool (decide (z.1.2 < 0)), .string (bstr z.1.2.natAbs), .bool (decide (z.2.1 < 0)), .string (bstr z.2.1.natAbs), .bool (decide (z.2.2 < 0)), .string (bstr z.2.2.natAbs)]
def CalP (P : Program) (f : FuncId) (args : Array Value) (pre : List Pc) (p : Pc) {G : Type} (φ : G → Prop) (val : G → Value) (q : G → Pc) : Prop :=
  ∀ w, (∀ r ∈ pre, r.holds w ∧ ∀ k, p.fp k → ¬ r.fp k) → p.holds w → Calls P f args w fun e w' => ∃ g, e = .returned (val g) ∧ φ g ∧ Chg p.fp w w' ∧ (q g).holds w' ∧ ∀ k, (q g).fp k → p.fp k ∨ w.heap.size ≤ k
theorem t_callp {o : Oper} {f : FuncId} {c : Operand} {xs : List Operand} {ats : Array TypeId} {d i : Nat} {p : Pc} {fs vs us : List Value} {pre : List Pc} {G : Type} {φ : G → Prop} {val : G → Value} {q : G → Pc} {w0 : World} {M0 : Nat → Prop}
    (hc : CalP P f (fs ++ vs ++ us).toArray pre p φ val q)
    (ho : o.op = .call { callee := .value c, args := xs.toArray, argTypes := ats }) (hcv : ev env c = some (.func (.func f) fs.toArray us.toArray)) (hd : o.dst = some d) (hN : Nat.blt d N = true)
    (hargs : EvL env xs vs) (hcall : ∀ args w, (callFunc f args).run P w = .ok (.enter f args) w) (hH : lk H i = some p) (hown : p.own = true) (hi0 : i ≠ 0) (hpre : PreOk (drp i H) false pre)
    (h0 : lk H 0 = some (keep w0 M0)) (hw : ∀ b, w0.heap.size ≤ b → sc b) (hM : ∀ b, p.fp b → M b) :
    T P N sc M o env H φ (fun g => (d, val g) :: env) (fun g => (i, q g) :: H) := fun a w hs K Q hK => by
  have hr : (execOp a.eval o).run P w = .ok (.enter f (fs ++ vs ++ us).toArray) w := by rw [run_execcallc hs ho hcv hargs, hcall]
  unfold Oper.wp
  rw [hr]
  refine (hc w (fun r hp => by
    obtain ⟨j, it, _, hj, himp, hfp, _⟩ := hpre.mem r hp
    obtain ⟨hne, hj⟩ := lk_drp _ _ _ _ hj
    exact ⟨himp w (hs.hold j it hj), fun k hk hb => hs.sep i j _ it (Ne.symm hne) hH hj hown k hk (hfp k hb)⟩) (hs.hold i _ hH)).mono ?_
  rintro e w' ⟨g, rfl, hg, hchg, hq, hfp⟩
  show K (a.put o.dst (val g)) w'
  rw [hd]
  exact hK g _ _ hg (Sat.put (hs.upd hH hown hi0 hchg hq hfp h0 hw) d _ hN) ⟨hchg.os, hchg.tape, hchg.output, hchg.size, fun k hk hn => hchg.block k hk (fun e => hn (hM k e))⟩
def FPostP (P : Program) (fn : Func) (w0 : World) (p : Pc) {G : Type} (φ : G → Prop) (val : G → Value) (q : G → Pc) : Exit → Act → World → Prop :=
  bodyPost P fn fun e w' => ∃ g, e = .returned (val g) ∧ φ g ∧ Chg p.fp w0 w' ∧ (q g).holds w' ∧ ∀ k, (q g).fp k → p.fp k ∨ w0.heap.size ≤ k
theorem calp_in {f : FuncId} {fn : Func} {c : Code} {vs : List Value} {pre : List Pc} {p : Pc} {G : Type} {φ : G → Prop} {val : G → Value} {q : G → Pc} {N : Nat}
    (hf : P.funcs[f]? = some fn) (hb : fn.body = some c) (hN : fn.ntmps = N) (hle : Nat.ble vs.length N = true) (hro : AllRo pre)
    (h : ∀ w0 (sc : Nat → Prop), (∀ k, w0.heap.size ≤ k → sc k) → (∀ k, sc k → w0.heap.size ≤ k ∨ p.fp k ∨ ∃ q ∈ pre, q.fp k) →
      E P N sc c (FPostP P fn w0 p φ val q) (Zp 0 vs) ((0, keep w0 p.fp) :: (1, p) :: Zo 2 pre)) :
    CalP P f vs.toArray pre p φ val q := fun w hp hbx => by
  refine calls_of_wp hf hb (h w (fun k => w.heap.size ≤ k ∨ p.fp k ∨ ∃ q ∈ pre, q.fp k) (fun k hk => .inl hk) (fun k hk => hk) _ w ?_)
  have hle : vs.length ≤ N := by simpa using hle
  have hpre : ∀ i r, lk ((0, keep w p.fp) :: (1, p) :: Zo 2 pre) i = some r → (i = 0 ∧ r = keep w p.fp) ∨ (i = 1 ∧ r = p) ∨ (i ≠ 0 ∧ i ≠ 1 ∧ r ∈ pre ∧ r.own = false) := fun i r hi => by
      by_cases h0 : 0 = i
      · subst h0; rw [lk_same] at hi; cases hi; exact .inl ⟨rfl, rfl⟩
      · rw [lk_other _ _ h0] at hi
        by_cases h1 : 1 = i
        · subst h1; rw [lk_same] at hi; cases hi; exact .inr (.inl ⟨rfl, rfl⟩)
        · rw [lk_other _ _ h1] at hi
          obtain ⟨_, hm⟩ := lk_enumPre pre 2 i r hi
          exact .inr (.inr ⟨fun e => h0 e.symm, fun e => h1 e.symm, hm, hro.mem r hm⟩)
  refine ⟨by simp [hN]; omega, rfl, fun t v ht => ?_, fun i r hi => ?_, fun i j r r' hne hi hj ho k hk hk' => ?_, fun i r hi0 hi k hk => ?_⟩
  · have h1 : vs.toArray[t]? = some v := by simpa using (lk_enumEnv vs 0 t v ht).2
    have hlt := (Array.getElem?_eq_some_iff.1 h1).1
    rw [Array.getD_eq_getD_getElem?, Array.getElem?_append_left hlt, h1]; rfl
  · rcases hpre i r hi with ⟨_, rfl⟩ | ⟨_, rfl⟩ | ⟨_, _, hm, _⟩
    · exact Chg.refl _ w
    · exact hbx
    · exact (hp r hm).1
  · rcases hpre i r hi with ⟨_, rfl⟩ | ⟨h1, rfl⟩ | ⟨_, _, hm, hown⟩
    · cases ho
    · rcases hpre j r' hj with ⟨_, rfl⟩ | ⟨h2, rfl⟩ | ⟨_, _, hm, _⟩
      · exact hk'.2 hk
      · exact hne (h1.trans h2.symm)
      · exact (hp r' hm).2 k hk hk'
    · rw [hown] at ho; cases ho
  · rcases hpre i r hi with ⟨h0, _⟩ | ⟨_, rfl⟩ | ⟨_, _, hm, _⟩
    · exact absurd h0 hi0
    · exact .inr (.inl hk)
    · exact .inr (.inr ⟨r, hm, hk⟩)
theorem x_endp {fn : Func} {p : Pc} {pre : List Pc} {G : Type} {φ : G → Prop} {val : G → Value} {q : G → Pc} {w0 : World} {e : Exit} (he : e = .ret ∨ e = .normal) (hsc : ∀ k, sc k → w0.heap.size ≤ k ∨ p.fp k ∨ ∃ q ∈ pre, q.fp k)
    (g : G) (v : Value) (hres : ∀ a w, Sat N sc env H a w → (results fn a.tmps).run P w = .ok v w) (hv : val g = v) (hg : φ g) (i : Nat) (hi : lk H i = some (q g)) (h0 : lk H 0 = some (keep w0 p.fp)) (hi0 : Nat.beq i 0 = false) (hown : (q g).own = true) (hpre : PreOk (drp i H) false pre) :
    X N sc e (FPostP P fn w0 p φ val q) env H := fun a w hs => by
  have hi0 : i ≠ 0 := fun e => by subst e; simp at hi0
  have key : a.defers = [] ∧ ∃ v, (results fn a.tmps).run P w = .ok v w ∧ (∃ g, Ending.returned v = .returned (val g) ∧ φ g ∧ Chg p.fp w0 w ∧ (q g).holds w ∧ ∀ k, (q g).fp k → p.fp k ∨ w0.heap.size ≤ k) := by
    refine ⟨hs.defers, v, hres a w hs, g, by rw [hv], hg, hs.hold 0 _ h0, hs.hold i _ hi, fun k hk => ?_⟩
    rcases hsc k (hs.scope i _ hi0 hi k hk) with h | h | ⟨r, hr, hrk⟩
    · exact .inr h
    · exact .inl h
    · obtain ⟨j, it, _, hj, _, hfp, _⟩ := hpre.mem r hr
      obtain ⟨hne, hj⟩ := lk_drp _ _ _ _ hj
      exact (hs.sep i j _ it (Ne.symm hne) hi hj hown k hk (hfp k hrk)).elim
  rcases he with rfl | rfl <;> exact key
def gb {α : Type} (b : Nat) (t : TypeId) (k : Nat) (e : TypeId) (enc : α → Value) (v : Value) (xs : List α) : Pc :=
  { own := true, fp := fun c => c = b ∨ v.ownBlock = some c, holds := fun w => (box b t #[v]).holds w ∧ (osl k e enc v xs).holds w ∧ v.ownBlock ≠ some b
    lt := fun w c h hc => by
      rcases hc with rfl | hc
      · exact (box c t #[v]).lt w c h.1 rfl
      · exact (osl k e enc v xs).lt w c h.2.1 hc
    stable := fun w w' h hc => ⟨(box b t #[v]).stable w w' h.1 ⟨hc.os, hc.tape, hc.output, hc.size, fun k hk hn => hc.block k hk (fun hf => hn (fun hq => hf (.inl hq)))⟩,
      (osl k e enc v xs).stable w w' h.2.1 ⟨hc.os, hc.tape, hc.output, hc.size, fun k hk hn => hc.block k hk (fun hf => hn (fun hq => hf (.inr hq)))⟩, h.2.2⟩ }
theorem s_gsplit {α : Type} {b : Nat} {t : TypeId} {k : Nat} {e : TypeId} {enc : α → Value} {v : Value} {xs : List α} (i j : Nat) (hi : lk H i = some (gb b t k e enc v xs)) (hi0 : Nat.beq i 0 = false) (hij : Nat.beq i j = false) :
    ∀ a w, Sat N sc env H a w → Sat N sc env ((i, box b t #[v]) :: (j, osl k e enc v xs) :: drp i H) a w := fun a w hs => by
  have hne : i ≠ j := fun e => by subst e; simp at hij
  have h0 : i ≠ 0 := fun e => by subst e; simp at hi0
  obtain ⟨hb, hr, hn⟩ := hs.hold i _ hi
  have cs : ∀ m r, lk ((i, box b t #[v]) :: (j, osl k e enc v xs) :: drp i H) m = some r → (m = i ∧ r = box b t #[v]) ∨ (m = j ∧ r = osl k e enc v xs) ∨ (m ≠ i ∧ lk H m = some r) := fun m r hm => by
    by_cases h1 : i = m
    · subst h1; rw [lk_same] at hm; cases hm; exact .inl ⟨rfl, rfl⟩
    · rw [lk_other _ _ h1] at hm
      by_cases h2 : j = m
      · subst h2; rw [lk_same] at hm; cases hm; exact .inr (.inl ⟨rfl, rfl⟩)
      · rw [lk_other _ _ h2] at hm
        exact .inr (.inr (lk_drp _ _ _ _ hm))
  refine ⟨hs.size, hs.defers, hs.env, fun m r hm => ?_, fun m m' r r' hnm hm hm' ho c hc hc' => ?_, fun m r hm0 hm c hc => ?_⟩
  · rcases cs m r hm with ⟨_, rfl⟩ | ⟨_, rfl⟩ | ⟨_, h⟩
    · exact hb
    · exact hr
    · exact hs.hold m r h
  · rcases cs m r hm with ⟨e1, rfl⟩ | ⟨e1, rfl⟩ | ⟨n1, h1⟩
    · rcases cs m' r' hm' with ⟨e2, rfl⟩ | ⟨e2, rfl⟩ | ⟨n2, h2⟩
      · exact hnm (e1.trans e2.symm)
      · have : c = b := hc
        subst this; exact hn hc'
      · exact hs.sep i m' _ r' (Ne.symm n2) hi h2 rfl c (.inl hc) hc'
    · rcases cs m' r' hm' with ⟨e2, rfl⟩ | ⟨e2, rfl⟩ | ⟨n2, h2⟩
      · have : c = b := hc'
        subst this; exact hn hc
      · exact hnm (e1.trans e2.symm)
      · exact hs.sep i m' _ r' (Ne.symm n2) hi h2 rfl c (.inr hc) hc'
    · rcases cs m' r' hm' with ⟨e2, rfl⟩ | ⟨e2, rfl⟩ | ⟨n2, h2⟩
      · exact hs.sep m i r _ n1 h1 hi ho c hc (.inl hc')
      · exact hs.sep m i r _ n1 h1 hi ho c hc (.inr hc')
      · exact hs.sep m m' r r' hnm h1 h2 ho c hc hc'
  · rcases cs m r hm with ⟨_, rfl⟩ | ⟨_, rfl⟩ | ⟨_, h⟩
    · exact hs.scope i _ h0 hi c (.inl hc)
    · exact hs.scope i _ h0 hi c (.inr hc)
    · exact hs.scope m r hm0 h c hc
theorem s_gjoin {α : Type} {b : Nat} {t : TypeId} {k : Nat} {e : TypeId} {enc : α → Value} {v : Value} {xs : List α} (i j : Nat) (hi : lk H i = some (box b t #[v])) (hj : lk H j = some (osl k e enc v xs)) (hi0 : Nat.beq i 0 = false) (hij : Nat.beq i j = false) (hj0 : Nat.beq j 0 = false) :
    ∀ a w, Sat N sc env H a w → Sat N sc env ((i, gb b t k e enc v xs) :: drp j (drp i H)) a w := fun a w hs => by
  have hne : i ≠ j := fun e => by subst e; simp at hij
  have h0 : i ≠ 0 := fun e => by subst e; simp at hi0
  have h0j : j ≠ 0 := fun e => by subst e; simp at hj0
  have cs : ∀ m r, lk ((i, gb b t k e enc v xs) :: drp j (drp i H)) m = some r → (m = i ∧ r = gb b t k e enc v xs) ∨ (m ≠ i ∧ m ≠ j ∧ lk H m = some r) := fun m r hm => by
    by_cases h1 : i = m
    · subst h1; rw [lk_same] at hm; cases hm; exact .inl ⟨rfl, rfl⟩
    · rw [lk_other _ _ h1] at hm
      obtain ⟨h2, hm⟩ := lk_drp _ _ _ _ hm
      obtain ⟨h3, hm⟩ := lk_drp _ _ _ _ hm
      exact .inr ⟨h3, h2, hm⟩
  refine ⟨hs.size, hs.defers, hs.env, fun m r hm => ?_, fun m m' r r' hnm hm hm' ho c hc hc' => ?_, fun m r hm0 hm c hc => ?_⟩
  · rcases cs m r hm with ⟨_, rfl⟩ | ⟨_, _, h⟩
    · exact ⟨hs.hold i _ hi, hs.hold j _ hj, fun e => hs.sep i j _ _ hne hi hj rfl b rfl e⟩
    · exact hs.hold m r h
  · rcases cs m r hm with ⟨e1, rfl⟩ | ⟨n1, n1', h1⟩
    · rcases cs m' r' hm' with ⟨e2, rfl⟩ | ⟨n2, n2', h2⟩
      · exact hnm (e1.trans e2.symm)
      · rcases hc with hc | hc
        · exact hs.sep i m' _ r' (Ne.symm n2) hi h2 rfl c hc hc'
        · exact hs.sep j m' _ r' (Ne.symm n2') hj h2 rfl c hc hc'
    · rcases cs m' r' hm' with ⟨e2, rfl⟩ | ⟨n2, n2', h2⟩
      · rcases hc' with hc' | hc'
        · exact hs.sep m i r _ n1 h1 hi ho c hc hc'
        · exact hs.sep m j r _ n1' h1 hj ho c hc hc'
      · exact hs.sep m m' r r' hnm h1 h2 ho c hc hc'
  · rcases cs m r hm with ⟨_, rfl⟩ | ⟨_, _, h⟩
    · rcases hc with hc | hc
      · exact hs.scope i _ h0 hi c hc
      · exact hs.scope j _ h0j hj c hc
    · exact hs.scope m r hm0 h c hc
theorem d_lb8 {o : Oper} {x : Operand} {t tb : TypeId} {i b j : Nat} {cs : Array Value} {v0 v1 v2 v3 v4 v5 v6 v7 : Value} (ho : o.op = .load t x)
    (hx : ev env x = some (.pointer (some ⟨b, j, none⟩))) (hH : lk H i = some (box b tb cs)) (ht : ∀ w, (isAgg t).run P w = .ok true w) (hk : ∀ w, (sizeOf t).run P w = .ok 8 w)
    (h0 : cs[j]? = some v0) (h1 : cs[j + 1]? = some v1) (h2 : cs[j + 2]? = some v2) (h3 : cs[j + 3]? = some v3) (h4 : cs[j + 4]? = some v4) (h5 : cs[j + 5]? = some v5) (h6 : cs[j + 6]? = some v6) (h7 : cs[j + 7]? = some v7) : Det P N sc o env H (.agg #[v0, v1, v2, v3, v4, v5, v6, v7]) :=
  d_lba ho hx hH ht hk (vs := [v0, v1, v2, v3, v4, v5, v6, v7]) rfl (fun n u hu => by
    match n, hu with
    | 0, hu => simp at hu; subst hu; exact h0
    | 1, hu => simp at hu; subst hu; exact h1
    | 2, hu => simp at hu; subst hu; exact h2
    | 3, hu => simp at hu; subst hu; exact h3
    | 4, hu => simp at hu; subst hu; exact h4
    | 5, hu => simp at hu; subst hu; exact h5
    | 6, hu => simp at hu; subst hu; exact h6
    | 7, hu => simp at hu; subst hu; exact h7
    | n + 8, hu => simp at hu)
end Go.Sky
namespace Go.Sky
open Go.Proofs
set_option linter.unusedVariables false
theorem pU : Enc Tryz.prog 137 1 encU := Enc.flat Tryz.sizeOf137 Tryz.isAgg137 (fun _ => rfl)
theorem pB : Enc Tryz.prog 5 1 encB := Enc.flat Tryz.sizeOf5 Tryz.isAgg5 (fun _ => rfl)
theorem pN : Enc Tryz.prog 3 1 encN := Enc.flat Tryz.sizeOf3 Tryz.isAgg3 (fun _ => rfl)
theorem pZ : Enc Tryz.prog 3 1 encZ := Enc.flat Tryz.sizeOf3 Tryz.isAgg3 (fun _ => rfl)
theorem add64_run (args : Array Value) (w : World) : (callFunc 156 args).run Tryz.prog w = ((add64Entry args).run Tryz.prog w).andThen fun v w' => .ok (.value v) w' :=
  run_callFunc_extern Tryz.func156 (by kernel_rfl) (by kernel_rfl) (by kernel_rfl) (by kernel_rfl) args w
theorem sub64_run (args : Array Value) (w : World) : (callFunc 157 args).run Tryz.prog w = ((sub64Entry args).run Tryz.prog w).andThen fun v w' => .ok (.value v) w' :=
  run_callFunc_extern Tryz.func157 (by kernel_rfl) (by kernel_rfl) (by kernel_rfl) (by kernel_rfl) args w
end Go.Sky
theorem Go.Proofs.Tryz.ti137 : Go.Proofs.Tryz.prog.info? 137 = some Go.Proofs.Tryz.t137 := by kernel_rfl
namespace Go.Sky
open Go.Proofs
end Go.Sky
theorem Go.Proofs.Tryz.ti5 : Go.Proofs.Tryz.prog.info? 5 = some Go.Proofs.Tryz.t5 := by kernel_rfl
namespace Go.Sky
open Go.Proofs
end Go.Sky
theorem Go.Proofs.Tryz.ti3 : Go.Proofs.Tryz.prog.info? 3 = some Go.Proofs.Tryz.t3 := by kernel_rfl
namespace Go.Sky
open Go.Proofs
theorem pW : Enc Tryz.prog 28 2 encW := Enc.agg (by decide) Tryz.sizeOf28 Tryz.isAgg28 (fun x => ⟨[.bool x.1, .string x.2], rfl, rfl, by simp [Value.oneCell']⟩)
theorem pV : Enc Tryz.prog 28 2 wv := Enc.agg (by decide) Tryz.sizeOf28 Tryz.isAgg28 (fun x => ⟨[.bool (decide (x < 0)), .string (bstr x.natAbs)], rfl, rfl, by simp [Value.oneCell']⟩)
theorem pI : Enc Tryz.prog 39 2 encI := Enc.agg (by decide) Tryz.sizeOf39 Tryz.isAgg39 (fun x => ⟨[.bool (decide (x.1 < 0)), svv x.2], rfl, rfl, by simp [Value.oneCell']⟩)
theorem pS {α : Type} : Enc Tryz.prog 23 1 (encS (α := α)) := Enc.flat Tryz.sizeOf23 Tryz.isAgg23 (fun _ => rfl)
theorem pY : Enc Tryz.prog 79 8 iq := Enc.agg (by decide) Tryz.sizeOf79 Tryz.isAgg79 (fun x => ⟨[.bool (decide (x.1.1 < 0)), .string (bstr x.1.1.natAbs), .bool (decide (x.1.2 < 0)), .string (bstr x.1.2.natAbs), .bool (decide (x.2.1 < 0)), .string (bstr x.2.1.natAbs), .bool (decide (x.2.2 < 0)), .string (bstr x.2.2.natAbs)], rfl, rfl, by simp [Value.oneCell']⟩)
theorem pQ : Enc Tryz.prog 49 4 rq := Enc.agg (by decide) Tryz.sizeOf49 Tryz.isAgg49 (fun x => ⟨[.bool (decide (x.1 < 0)), .string (bstr x.1.natAbs), .bool (decide (x.2 < 0)), .string (bstr x.2.natAbs)], rfl, rfl, by simp [Value.oneCell']⟩)
theorem pR : Enc Tryz.prog 49 4 encQ := Enc.agg (by decide) Tryz.sizeOf49 Tryz.isAgg49 (fun x => ⟨[.bool x.1.1, .string x.1.2, .bool x.2.1, .string x.2.2], rfl, rfl, by simp [Value.oneCell']⟩)
theorem sh28 : Tryz.prog.stoodInHeld 28 = false := by kernel_rfl
theorem sh49 : Tryz.prog.stoodInHeld 49 = false := by kernel_rfl
theorem eg28 : Tryz.prog.eqGuardType Tryz.prog.depth 28 = false := by kernel_rfl
theorem in28 (d : Nat) (w : World) (a : Bool) (s : ByteArray) (b : Bool) (t : ByteArray) : (Op.equalIn (d + 2) 28 (.agg #[.bool a, .string s]) (.agg #[.bool b, .string t])).run Tryz.prog w = .ok (eqW a s b t) w := by
  have hu : Tryz.prog.underlying 28 = some (.struct (Tryz.prog.fieldsOf 28)) := by unfold Program.fieldsOf; rw [Tryz.underlying28]
  rw [run_equalIn_agg w (d + 1) 28 _ _ hu sh28]
  unfold Program.fieldsOf
  rw [Tryz.underlying28]
  simp [Op.eqFields, part, Tryz.isAgg4, Tryz.isAgg9, run_equalIn_bool' _ _ _ _ _ Tryz.underlying4, run_equalIn_string _ _ _ _ _ Tryz.underlying9]
  unfold eqW
  cases hab : (a == b)
  · simp_all
  · by_cases h : s.toList = t.toList <;> simp_all
theorem neq28 (w : World) (a : Bool) (s : ByteArray) (b : Bool) (t : ByteArray) : (binOp .neq 28 (.agg #[.bool a, .string s]) (.agg #[.bool b, .string t])).run Tryz.prog w = .ok (.bool (!eqW a s b t)) w := by
  rw [run_neq_struct, in28]; rfl
theorem in49 (d : Nat) (w : World) (a : Bool) (s : ByteArray) (a2 : Bool) (s2 : ByteArray) (b : Bool) (t : ByteArray) (b2 : Bool) (t2 : ByteArray) : (Op.equalIn (d + 3) 49 (.agg #[.bool a, .string s, .bool a2, .string s2]) (.agg #[.bool b, .string t, .bool b2, .string t2])).run Tryz.prog w = .ok (eqW a s b t && eqW a2 s2 b2 t2) w := by
  have hu : Tryz.prog.underlying 49 = some (.struct (Tryz.prog.fieldsOf 49)) := by unfold Program.fieldsOf; rw [Tryz.underlying49]
  rw [run_equalIn_agg w (d + 2) 49 _ _ hu sh49]
  unfold Program.fieldsOf
  rw [Tryz.underlying49]
  simp [Op.eqFields, part, Tryz.isAgg28, Tryz.sizeOf28, in28]
  cases hab : eqW a s b t <;> cases hab2 : eqW a2 s2 b2 t2 <;> simp_all
theorem sh79 : Tryz.prog.stoodInHeld 79 = false := by kernel_rfl
theorem eg79 : Tryz.prog.eqGuardType Tryz.prog.depth 79 = false := by kernel_rfl
theorem in79 (d : Nat) (w : World) (a : Bool) (s : ByteArray) (a2 : Bool) (s2 : ByteArray) (a3 : Bool) (s3 : ByteArray) (a4 : Bool) (s4 : ByteArray) (b : Bool) (t : ByteArray) (b2 : Bool) (t2 : ByteArray) (b3 : Bool) (t3 : ByteArray) (b4 : Bool) (t4 : ByteArray) : (Op.equalIn (d + 4) 79 (.agg #[.bool a, .string s, .bool a2, .string s2, .bool a3, .string s3, .bool a4, .string s4]) (.agg #[.bool b, .string t, .bool b2, .string t2, .bool b3, .string t3, .bool b4, .string t4])).run Tryz.prog w = .ok (eqW a s b t && eqW a2 s2 b2 t2 && (eqW a3 s3 b3 t3 && eqW a4 s4 b4 t4)) w := by
  have hu : Tryz.prog.underlying 79 = some (.struct (Tryz.prog.fieldsOf 79)) := by unfold Program.fieldsOf; rw [Tryz.underlying79]
  rw [run_equalIn_agg w (d + 3) 79 _ _ hu sh79]
  unfold Program.fieldsOf
  rw [Tryz.underlying79]
  simp [Op.eqFields, part, Tryz.isAgg49, Tryz.sizeOf49, in49]
  cases hab : eqW a s b t && eqW a2 s2 b2 t2 <;> cases hab2 : eqW a3 s3 b3 t3 && eqW a4 s4 b4 t4 <;> simp_all
theorem neq79 (w : World) (a : Bool) (s : ByteArray) (a2 : Bool) (s2 : ByteArray) (a3 : Bool) (s3 : ByteArray) (a4 : Bool) (s4 : ByteArray) (b : Bool) (t : ByteArray) (b2 : Bool) (t2 : ByteArray) (b3 : Bool) (t3 : ByteArray) (b4 : Bool) (t4 : ByteArray) : (binOp .neq 79 (.agg #[.bool a, .string s, .bool a2, .string s2, .bool a3, .string s3, .bool a4, .string s4]) (.agg #[.bool b, .string t, .bool b2, .string t2, .bool b3, .string t3, .bool b4, .string t4])).run Tryz.prog w = .ok (.bool (!(eqW a s b t && eqW a2 s2 b2 t2 && (eqW a3 s3 b3 t3 && eqW a4 s4 b4 t4)))) w := by
  rw [run_neq_struct, in79]; rfl
end Go.Sky
theorem Go.Proofs.Tryz.ti23 : Go.Proofs.Tryz.prog.info? 23 = some Go.Proofs.Tryz.t23 := by kernel_rfl
namespace Go.Sky
open Go.Proofs
end Go.Sky
theorem Go.Proofs.Tryz.ti28 : Go.Proofs.Tryz.prog.info? 28 = some Go.Proofs.Tryz.t28 := by kernel_rfl
namespace Go.Sky
open Go.Proofs
end Go.Sky
namespace Go.Sky
open Go.Proofs
end Go.Sky
theorem Go.Proofs.Tryz.ti39 : Go.Proofs.Tryz.prog.info? 39 = some Go.Proofs.Tryz.t39 := by kernel_rfl
namespace Go.Sky
open Go.Proofs
end Go.Sky
theorem Go.Proofs.Tryz.ti49 : Go.Proofs.Tryz.prog.info? 49 = some Go.Proofs.Tryz.t49 := by kernel_rfl
namespace Go.Sky
open Go.Proofs
end Go.Sky
namespace Go.Sky
open Go.Proofs
end Go.Sky
theorem Go.Proofs.Tryz.ti79 : Go.Proofs.Tryz.prog.info? 79 = some Go.Proofs.Tryz.t79 := by kernel_rfl
namespace Go.Sky
open Go.Proofs
end Go.Sky
theorem Go.Proofs.Tryz.ti4 : Go.Proofs.Tryz.prog.info? 4 = some Go.Proofs.Tryz.t4 := by kernel_rfl
namespace Go.Sky
open Go.Proofs
end Go.Sky
theorem Go.Proofs.Tryz.ti9 : Go.Proofs.Tryz.prog.info? 9 = some Go.Proofs.Tryz.t9 := by kernel_rfl
namespace Go.Sky
open Go.Proofs
theorem b28_   : Tryz.prog.built 28 [] = some #[.bool false, .string ⟨#[]⟩] := by
  refine built_struct _ Tryz.ti28 Tryz.underlying28 rfl (pl := [(0, 1), (1, 1)]) (by simp [Tryz.ti4, Tryz.ti9]; try decide) ?_
  simp [Instr.fill, show (Value.agg #[.bool false, .string ⟨#[]⟩]).cells = #[.bool false, .string ⟨#[]⟩] from rfl]
theorem b28_01 {v0 v1 : Value} (h0 : v0.oneCell' = true) (h1 : v1.oneCell' = true) : Tryz.prog.built 28 [(0, v0), (1, v1)] = some #[v0, v1] := by
  refine built_struct _ Tryz.ti28 Tryz.underlying28 rfl (pl := [(0, 1), (1, 1)]) (by simp [Tryz.ti4, Tryz.ti9]; try decide) ?_
  simp [Instr.fill, cells_of_one h0, cells_of_one h1, show (Value.agg #[.bool false, .string ⟨#[]⟩]).cells = #[.bool false, .string ⟨#[]⟩] from rfl]
end Go.Sky
theorem Go.Proofs.Tryz.ti37 : Go.Proofs.Tryz.prog.info? 37 = some Go.Proofs.Tryz.t37 := by kernel_rfl
namespace Go.Sky
open Go.Proofs
theorem b39_   : Tryz.prog.built 39 [] = some #[.bool false, .slice none 0 0] := by
  refine built_struct _ Tryz.ti39 Tryz.underlying39 rfl (pl := [(0, 1), (1, 1)]) (by simp [Tryz.ti37, Tryz.ti4]; try decide) ?_
  simp [Instr.fill, show (Value.agg #[.bool false, .slice none 0 0]).cells = #[.bool false, .slice none 0 0] from rfl]
theorem b39_01 {v0 v1 : Value} (h0 : v0.oneCell' = true) (h1 : v1.oneCell' = true) : Tryz.prog.built 39 [(0, v0), (1, v1)] = some #[v0, v1] := by
  refine built_struct _ Tryz.ti39 Tryz.underlying39 rfl (pl := [(0, 1), (1, 1)]) (by simp [Tryz.ti37, Tryz.ti4]; try decide) ?_
  simp [Instr.fill, cells_of_one h0, cells_of_one h1, show (Value.agg #[.bool false, .slice none 0 0]).cells = #[.bool false, .slice none 0 0] from rfl]
theorem b49_   : Tryz.prog.built 49 [] = some #[.bool false, .string ⟨#[]⟩, .bool false, .string ⟨#[]⟩] := by
  refine built_struct _ Tryz.ti49 Tryz.underlying49 rfl (pl := [(0, 2), (2, 2)]) (by simp [Tryz.ti28]; try decide) ?_
  simp [Instr.fill, show (Value.agg #[.bool false, .string ⟨#[]⟩, .bool false, .string ⟨#[]⟩]).cells = #[.bool false, .string ⟨#[]⟩, .bool false, .string ⟨#[]⟩] from rfl]
theorem b49_01 {c0_0 c0_1 c1_0 c1_1 : Value}  : Tryz.prog.built 49 [(0, .agg #[c0_0, c0_1]), (1, .agg #[c1_0, c1_1])] = some #[c0_0, c0_1, c1_0, c1_1] := by
  refine built_struct _ Tryz.ti49 Tryz.underlying49 rfl (pl := [(0, 2), (2, 2)]) (by simp [Tryz.ti28]; try decide) ?_
  simp [Instr.fill, show (Value.agg #[c0_0, c0_1]).cells = #[c0_0, c0_1] from rfl, show (Value.agg #[c1_0, c1_1]).cells = #[c1_0, c1_1] from rfl, show (Value.agg #[.bool false, .string ⟨#[]⟩, .bool false, .string ⟨#[]⟩]).cells = #[.bool false, .string ⟨#[]⟩, .bool false, .string ⟨#[]⟩] from rfl]
end Go.Sky
theorem Go.Proofs.Tryz.ti63 : Go.Proofs.Tryz.prog.info? 63 = some Go.Proofs.Tryz.t63 := by kernel_rfl
namespace Go.Sky
open Go.Proofs
theorem b63_01 {c0_0 c0_1 c1_0 c1_1 : Value}  : Tryz.prog.built 63 [(0, .agg #[c0_0, c0_1]), (1, .agg #[c1_0, c1_1])] = some #[c0_0, c0_1, c1_0, c1_1] := by
  refine built_struct _ Tryz.ti63 Tryz.underlying63 rfl (pl := [(0, 2), (2, 2)]) (by simp [Tryz.ti39]; try decide) ?_
  simp [Instr.fill, show (Value.agg #[c0_0, c0_1]).cells = #[c0_0, c0_1] from rfl, show (Value.agg #[c1_0, c1_1]).cells = #[c1_0, c1_1] from rfl, show (Value.agg #[.bool false, .slice none 0 0, .bool false, .slice none 0 0]).cells = #[.bool false, .slice none 0 0, .bool false, .slice none 0 0] from rfl]
theorem b79_01 {c0_0 c0_1 c0_2 c0_3 c1_0 c1_1 c1_2 c1_3 : Value}  : Tryz.prog.built 79 [(0, .agg #[c0_0, c0_1, c0_2, c0_3]), (1, .agg #[c1_0, c1_1, c1_2, c1_3])] = some #[c0_0, c0_1, c0_2, c0_3, c1_0, c1_1, c1_2, c1_3] := by
  refine built_struct _ Tryz.ti79 Tryz.underlying79 rfl (pl := [(0, 4), (4, 4)]) (by simp [Tryz.ti49]; try decide) ?_
  simp [Instr.fill, show (Value.agg #[c0_0, c0_1, c0_2, c0_3]).cells = #[c0_0, c0_1, c0_2, c0_3] from rfl, show (Value.agg #[c1_0, c1_1, c1_2, c1_3]).cells = #[c1_0, c1_1, c1_2, c1_3] from rfl, show (Value.agg #[.bool false, .string ⟨#[]⟩, .bool false, .string ⟨#[]⟩, .bool false, .string ⟨#[]⟩, .bool false, .string ⟨#[]⟩]).cells = #[.bool false, .string ⟨#[]⟩, .bool false, .string ⟨#[]⟩, .bool false, .string ⟨#[]⟩, .bool false, .string ⟨#[]⟩] from rfl]
end Go.Sky
theorem Go.Proofs.Tryz.ti129 : Go.Proofs.Tryz.prog.info? 129 = some Go.Proofs.Tryz.t129 := by kernel_rfl
namespace Go.Sky
open Go.Proofs
end Go.Sky
theorem Go.Proofs.Tryz.ti127 : Go.Proofs.Tryz.prog.info? 127 = some Go.Proofs.Tryz.t127 := by kernel_rfl
namespace Go.Sky
open Go.Proofs
theorem b129_01 {v0 v1 : Value} (h0 : v0.oneCell' = true) (h1 : v1.oneCell' = true) : Tryz.prog.built 129 [(0, v0), (1, v1)] = some #[v0, v1] := by
  refine built_struct _ Tryz.ti129 Tryz.underlying129 rfl (pl := [(0, 1), (1, 1)]) (by simp [Tryz.ti127, Tryz.ti4]; try decide) ?_
  simp [Instr.fill, cells_of_one h0, cells_of_one h1, show (Value.agg #[.bool false, .slice none 0 0]).cells = #[.bool false, .slice none 0 0] from rfl]
theorem J {α : Sort _} {a : α} : a = a := rfl
theorem K1 {t0 : Sort _} {a0 : t0} : a0 = a0 ∧ True := ⟨rfl, trivial⟩
theorem K2 {t0 : Sort _} {a0 : t0} {t1 : Sort _} {a1 : t1} : a0 = a0 ∧ a1 = a1 ∧ True := ⟨rfl, rfl, trivial⟩
theorem K3 {t0 : Sort _} {a0 : t0} {t1 : Sort _} {a1 : t1} {t2 : Sort _} {a2 : t2} : a0 = a0 ∧ a1 = a1 ∧ a2 = a2 ∧ True := ⟨rfl, rfl, rfl, trivial⟩
theorem K4 {t0 : Sort _} {a0 : t0} {t1 : Sort _} {a1 : t1} {t2 : Sort _} {a2 : t2} {t3 : Sort _} {a3 : t3} : a0 = a0 ∧ a1 = a1 ∧ a2 = a2 ∧ a3 = a3 ∧ True := ⟨rfl, rfl, rfl, rfl, trivial⟩
theorem K5 {t0 : Sort _} {a0 : t0} {t1 : Sort _} {a1 : t1} {t2 : Sort _} {a2 : t2} {t3 : Sort _} {a3 : t3} {t4 : Sort _} {a4 : t4} : a0 = a0 ∧ a1 = a1 ∧ a2 = a2 ∧ a3 = a3 ∧ a4 = a4 ∧ True := ⟨rfl, rfl, rfl, rfl, rfl, trivial⟩
theorem K6 {t0 : Sort _} {a0 : t0} {t1 : Sort _} {a1 : t1} {t2 : Sort _} {a2 : t2} {t3 : Sort _} {a3 : t3} {t4 : Sort _} {a4 : t4} {t5 : Sort _} {a5 : t5} : a0 = a0 ∧ a1 = a1 ∧ a2 = a2 ∧ a3 = a3 ∧ a4 = a4 ∧ a5 = a5 ∧ True := ⟨rfl, rfl, rfl, rfl, rfl, rfl, trivial⟩
theorem K7 {t0 : Sort _} {a0 : t0} {t1 : Sort _} {a1 : t1} {t2 : Sort _} {a2 : t2} {t3 : Sort _} {a3 : t3} {t4 : Sort _} {a4 : t4} {t5 : Sort _} {a5 : t5} {t6 : Sort _} {a6 : t6} : a0 = a0 ∧ a1 = a1 ∧ a2 = a2 ∧ a3 = a3 ∧ a4 = a4 ∧ a5 = a5 ∧ a6 = a6 ∧ True := ⟨rfl, rfl, rfl, rfl, rfl, rfl, rfl, trivial⟩
theorem K8 {t0 : Sort _} {a0 : t0} {t1 : Sort _} {a1 : t1} {t2 : Sort _} {a2 : t2} {t3 : Sort _} {a3 : t3} {t4 : Sort _} {a4 : t4} {t5 : Sort _} {a5 : t5} {t6 : Sort _} {a6 : t6} {t7 : Sort _} {a7 : t7} : a0 = a0 ∧ a1 = a1 ∧ a2 = a2 ∧ a3 = a3 ∧ a4 = a4 ∧ a5 = a5 ∧ a6 = a6 ∧ a7 = a7 ∧ True := ⟨rfl, rfl, rfl, rfl, rfl, rfl, rfl, rfl, trivial⟩
theorem K9 {t0 : Sort _} {a0 : t0} {t1 : Sort _} {a1 : t1} {t2 : Sort _} {a2 : t2} {t3 : Sort _} {a3 : t3} {t4 : Sort _} {a4 : t4} {t5 : Sort _} {a5 : t5} {t6 : Sort _} {a6 : t6} {t7 : Sort _} {a7 : t7} {t8 : Sort _} {a8 : t8} : a0 = a0 ∧ a1 = a1 ∧ a2 = a2 ∧ a3 = a3 ∧ a4 = a4 ∧ a5 = a5 ∧ a6 = a6 ∧ a7 = a7 ∧ a8 = a8 ∧ True := ⟨rfl, rfl, rfl, rfl, rfl, rfl, rfl, rfl, rfl, trivial⟩
theorem K11 {t0 : Sort _} {a0 : t0} {t1 : Sort _} {a1 : t1} {t2 : Sort _} {a2 : t2} {t3 : Sort _} {a3 : t3} {t4 : Sort _} {a4 : t4} {t5 : Sort _} {a5 : t5} {t6 : Sort _} {a6 : t6} {t7 : Sort _} {a7 : t7} {t8 : Sort _} {a8 : t8} {t9 : Sort _} {a9 : t9} {t10 : Sort _} {a10 : t10} : a0 = a0 ∧ a1 = a1 ∧ a2 = a2 ∧ a3 = a3 ∧ a4 = a4 ∧ a5 = a5 ∧ a6 = a6 ∧ a7 = a7 ∧ a8 = a8 ∧ a9 = a9 ∧ a10 = a10 ∧ True := ⟨rfl, rfl, rfl, rfl, rfl, rfl, rfl, rfl, rfl, rfl, rfl, trivial⟩
theorem K27 {t0 : Sort _} {a0 : t0} {t1 : Sort _} {a1 : t1} {t2 : Sort _} {a2 : t2} {t3 : Sort _} {a3 : t3} {t4 : Sort _} {a4 : t4} {t5 : Sort _} {a5 : t5} {t6 : Sort _} {a6 : t6} {t7 : Sort _} {a7 : t7} {t8 : Sort _} {a8 : t8} {t9 : Sort _} {a9 : t9} {t10 : Sort _} {a10 : t10} {t11 : Sort _} {a11 : t11} {t12 : Sort _} {a12 : t12} {t13 : Sort _} {a13 : t13} {t14 : Sort _} {a14 : t14} {t15 : Sort _} {a15 : t15} {t16 : Sort _} {a16 : t16} {t17 : Sort _} {a17 : t17} {t18 : Sort _} {a18 : t18} {t19 : Sort _} {a19 : t19} {t20 : Sort _} {a20 : t20} {t21 : Sort _} {a21 : t21} {t22 : Sort _} {a22 : t22} {t23 : Sort _} {a23 : t23} {t24 : Sort _} {a24 : t24} {t25 : Sort _} {a25 : t25} {t26 : Sort _} {a26 : t26} : a0 = a0 ∧ a1 = a1 ∧ a2 = a2 ∧ a3 = a3 ∧ a4 = a4 ∧ a5 = a5 ∧ a6 = a6 ∧ a7 = a7 ∧ a8 = a8 ∧ a9 = a9 ∧ a10 = a10 ∧ a11 = a11 ∧ a12 = a12 ∧ a13 = a13 ∧ a14 = a14 ∧ a15 = a15 ∧ a16 = a16 ∧ a17 = a17 ∧ a18 = a18 ∧ a19 = a19 ∧ a20 = a20 ∧ a21 = a21 ∧ a22 = a22 ∧ a23 = a23 ∧ a24 = a24 ∧ a25 = a25 ∧ a26 = a26 ∧ True := ⟨rfl, rfl, rfl, rfl, rfl, rfl, rfl, rfl, rfl, rfl, rfl, rfl, rfl, rfl, rfl, rfl, rfl, rfl, rfl, rfl, rfl, rfl, rfl, rfl, rfl, rfl, rfl, trivial⟩
theorem K35 {t0 : Sort _} {a0 : t0} {t1 : Sort _} {a1 : t1} {t2 : Sort _} {a2 : t2} {t3 : Sort _} {a3 : t3} {t4 : Sort _} {a4 : t4} {t5 : Sort _} {a5 : t5} {t6 : Sort _} {a6 : t6} {t7 : Sort _} {a7 : t7} {t8 : Sort _} {a8 : t8} {t9 : Sort _} {a9 : t9} {t10 : Sort _} {a10 : t10} {t11 : Sort _} {a11 : t11} {t12 : Sort _} {a12 : t12} {t13 : Sort _} {a13 : t13} {t14 : Sort _} {a14 : t14} {t15 : Sort _} {a15 : t15} {t16 : Sort _} {a16 : t16} {t17 : Sort _} {a17 : t17} {t18 : Sort _} {a18 : t18} {t19 : Sort _} {a19 : t19} {t20 : Sort _} {a20 : t20} {t21 : Sort _} {a21 : t21} {t22 : Sort _} {a22 : t22} {t23 : Sort _} {a23 : t23} {t24 : Sort _} {a24 : t24} {t25 : Sort _} {a25 : t25} {t26 : Sort _} {a26 : t26} {t27 : Sort _} {a27 : t27} {t28 : Sort _} {a28 : t28} {t29 : Sort _} {a29 : t29} {t30 : Sort _} {a30 : t30} {t31 : Sort _} {a31 : t31} {t32 : Sort _} {a32 : t32} {t33 : Sort _} {a33 : t33} {t34 : Sort _} {a34 : t34} : a0 = a0 ∧ a1 = a1 ∧ a2 = a2 ∧ a3 = a3 ∧ a4 = a4 ∧ a5 = a5 ∧ a6 = a6 ∧ a7 = a7 ∧ a8 = a8 ∧ a9 = a9 ∧ a10 = a10 ∧ a11 = a11 ∧ a12 = a12 ∧ a13 = a13 ∧ a14 = a14 ∧ a15 = a15 ∧ a16 = a16 ∧ a17 = a17 ∧ a18 = a18 ∧ a19 = a19 ∧ a20 = a20 ∧ a21 = a21 ∧ a22 = a22 ∧ a23 = a23 ∧ a24 = a24 ∧ a25 = a25 ∧ a26 = a26 ∧ a27 = a27 ∧ a28 = a28 ∧ a29 = a29 ∧ a30 = a30 ∧ a31 = a31 ∧ a32 = a32 ∧ a33 = a33 ∧ a34 = a34 ∧ True := ⟨rfl, rfl, rfl, rfl, rfl, rfl, rfl, rfl, rfl, rfl, rfl, rfl, rfl, rfl, rfl, rfl, rfl, rfl, rfl, rfl, rfl, rfl, rfl, rfl, rfl, rfl, rfl, rfl, rfl, rfl, rfl, rfl, rfl, rfl, rfl, trivial⟩
def cF10 := @Go.Proofs.Tryz.call10
def cF100 := @Go.Proofs.Tryz.call100
def cF101 := @Go.Proofs.Tryz.call101
def cF102 := @Go.Proofs.Tryz.call102
def cF103 := @Go.Proofs.Tryz.call103
def cF104 := @Go.Proofs.Tryz.call104
def cF105 := @Go.Proofs.Tryz.call105
def cF106 := @Go.Proofs.Tryz.call106
def cF107 := @Go.Proofs.Tryz.call107
def cF108 := @Go.Proofs.Tryz.call108
def cF109 := @Go.Proofs.Tryz.call109
def cF11 := @Go.Proofs.Tryz.call11
def cF110 := @Go.Proofs.Tryz.call110
def cF111 := @Go.Proofs.Tryz.call111
def cF112 := @Go.Proofs.Tryz.call112
def cF113 := @Go.Proofs.Tryz.call113
def cF114 := @Go.Proofs.Tryz.call114
def cF115 := @Go.Proofs.Tryz.call115
def cF116 := @Go.Proofs.Tryz.call116
def cF117 := @Go.Proofs.Tryz.call117
def cF118 := @Go.Proofs.Tryz.call118
def cF119 := @Go.Proofs.Tryz.call119
def cF12 := @Go.Proofs.Tryz.call12
def cF120 := @Go.Proofs.Tryz.call120
def cF121 := @Go.Proofs.Tryz.call121
def cF122 := @Go.Proofs.Tryz.call122
def cF123 := @Go.Proofs.Tryz.call123
def cF124 := @Go.Proofs.Tryz.call124
def cF125 := @Go.Proofs.Tryz.call125
def cF126 := @Go.Proofs.Tryz.call126
def cF127 := @Go.Proofs.Tryz.call127
def cF128 := @Go.Proofs.Tryz.call128
def cF129 := @Go.Proofs.Tryz.call129
def cF13 := @Go.Proofs.Tryz.call13
def cF130 := @Go.Proofs.Tryz.call130
def cF131 := @Go.Proofs.Tryz.call131
def cF132 := @Go.Proofs.Tryz.call132
def cF133 := @Go.Proofs.Tryz.call133
def cF134 := @Go.Proofs.Tryz.call134
def cF135 := @Go.Proofs.Tryz.call135
def cF136 := @Go.Proofs.Tryz.call136
def cF137 := @Go.Proofs.Tryz.call137
def cF138 := @Go.Proofs.Tryz.call138
def cF139 := @Go.Proofs.Tryz.call139
def cF14 := @Go.Proofs.Tryz.call14
def cF140 := @Go.Proofs.Tryz.call140
def cF141 := @Go.Proofs.Tryz.call141
def cF142 := @Go.Proofs.Tryz.call142
def cF143 := @Go.Proofs.Tryz.call143
def cF144 := @Go.Proofs.Tryz.call144
def cF145 := @Go.Proofs.Tryz.call145
def cF146 := @Go.Proofs.Tryz.call146
def cF147 := @Go.Proofs.Tryz.call147
def cF148 := @Go.Proofs.Tryz.call148
def cF149 := @Go.Proofs.Tryz.call149
def cF15 := @Go.Proofs.Tryz.call15
def cF150 := @Go.Proofs.Tryz.call150
def cF151 := @Go.Proofs.Tryz.call151
def cF152 := @Go.Proofs.Tryz.call152
def cF153 := @Go.Proofs.Tryz.call153
def cF154 := @Go.Proofs.Tryz.call154
def cF155 := @Go.Proofs.Tryz.call155
def cF158 := @Go.Proofs.Tryz.call158
def cF159 := @Go.Proofs.Tryz.call159
def cF160 := @Go.Proofs.Tryz.call160
def cF161 := @Go.Proofs.Tryz.call161
def cF162 := @Go.Proofs.Tryz.call162
def cF163 := @Go.Proofs.Tryz.call163
def cF164 := @Go.Proofs.Tryz.call164
def cF165 := @Go.Proofs.Tryz.call165
def cF166 := @Go.Proofs.Tryz.call166
def cF17 := @Go.Proofs.Tryz.call17
def cF18 := @Go.Proofs.Tryz.call18
def cF19 := @Go.Proofs.Tryz.call19
def cF20 := @Go.Proofs.Tryz.call20
def cF21 := @Go.Proofs.Tryz.call21
def cF22 := @Go.Proofs.Tryz.call22
def cF23 := @Go.Proofs.Tryz.call23
def cF24 := @Go.Proofs.Tryz.call24
def cF25 := @Go.Proofs.Tryz.call25
def cF26 := @Go.Proofs.Tryz.call26
def cF27 := @Go.Proofs.Tryz.call27
def cF28 := @Go.Proofs.Tryz.call28
def cF29 := @Go.Proofs.Tryz.call29
def cF30 := @Go.Proofs.Tryz.call30
def cF31 := @Go.Proofs.Tryz.call31
def cF32 := @Go.Proofs.Tryz.call32
def cF33 := @Go.Proofs.Tryz.call33
def cF34 := @Go.Proofs.Tryz.call34
def cF35 := @Go.Proofs.Tryz.call35
def cF38 := @Go.Proofs.Tryz.call38
def cF39 := @Go.Proofs.Tryz.call39
def cF41 := @Go.Proofs.Tryz.call41
def cF42 := @Go.Proofs.Tryz.call42
def cF43 := @Go.Proofs.Tryz.call43
def cF44 := @Go.Proofs.Tryz.call44
def cF45 := @Go.Proofs.Tryz.call45
def cF46 := @Go.Proofs.Tryz.call46
def cF47 := @Go.Proofs.Tryz.call47
def cF48 := @Go.Proofs.Tryz.call48
def cF49 := @Go.Proofs.Tryz.call49
def cF50 := @Go.Proofs.Tryz.call50
def cF51 := @Go.Proofs.Tryz.call51
def cF52 := @Go.Proofs.Tryz.call52
def cF53 := @Go.Proofs.Tryz.call53
def cF54 := @Go.Proofs.Tryz.call54
def cF55 := @Go.Proofs.Tryz.call55
def cF56 := @Go.Proofs.Tryz.call56
def cF57 := @Go.Proofs.Tryz.call57
def cF58 := @Go.Proofs.Tryz.call58
def cF59 := @Go.Proofs.Tryz.call59
def cF60 := @Go.Proofs.Tryz.call60
def cF61 := @Go.Proofs.Tryz.call61
def cF62 := @Go.Proofs.Tryz.call62
def cF63 := @Go.Proofs.Tryz.call63
def cF64 := @Go.Proofs.Tryz.call64
def cF65 := @Go.Proofs.Tryz.call65
def cF66 := @Go.Proofs.Tryz.call66
def cF67 := @Go.Proofs.Tryz.call67
def cF68 := @Go.Proofs.Tryz.call68
def cF69 := @Go.Proofs.Tryz.call69
def cF70 := @Go.Proofs.Tryz.call70
def cF71 := @Go.Proofs.Tryz.call71
def cF72 := @Go.Proofs.Tryz.call72
def cF73 := @Go.Proofs.Tryz.call73
def cF74 := @Go.Proofs.Tryz.call74
def cF75 := @Go.Proofs.Tryz.call75
def cF76 := @Go.Proofs.Tryz.call76
def cF77 := @Go.Proofs.Tryz.call77
def cF78 := @Go.Proofs.Tryz.call78
def cF79 := @Go.Proofs.Tryz.call79
def cF80 := @Go.Proofs.Tryz.call80
def cF81 := @Go.Proofs.Tryz.call81
def cF82 := @Go.Proofs.Tryz.call82
def cF83 := @Go.Proofs.Tryz.call83
def cF84 := @Go.Proofs.Tryz.call84
def cF85 := @Go.Proofs.Tryz.call85
def cF86 := @Go.Proofs.Tryz.call86
def cF87 := @Go.Proofs.Tryz.call87
def cF88 := @Go.Proofs.Tryz.call88
def cF89 := @Go.Proofs.Tryz.call89
def cF90 := @Go.Proofs.Tryz.call90
def cF91 := @Go.Proofs.Tryz.call91
def cF92 := @Go.Proofs.Tryz.call92
def cF93 := @Go.Proofs.Tryz.call93
def cF94 := @Go.Proofs.Tryz.call94
def cF95 := @Go.Proofs.Tryz.call95
def cF96 := @Go.Proofs.Tryz.call96
def cF97 := @Go.Proofs.Tryz.call97
def cF98 := @Go.Proofs.Tryz.call98
def cF99 := @Go.Proofs.Tryz.call99
def iA113 := @Go.Proofs.Tryz.isAgg113
def iA127 := @Go.Proofs.Tryz.isAgg127
def iA129 := @Go.Proofs.Tryz.isAgg129
def iA28 := @Go.Proofs.Tryz.isAgg28
def iA29 := @Go.Proofs.Tryz.isAgg29
def iA3 := @Go.Proofs.Tryz.isAgg3
def iA37 := @Go.Proofs.Tryz.isAgg37
def iA39 := @Go.Proofs.Tryz.isAgg39
def iA4 := @Go.Proofs.Tryz.isAgg4
def iA44 := @Go.Proofs.Tryz.isAgg44
def iA49 := @Go.Proofs.Tryz.isAgg49
def iA63 := @Go.Proofs.Tryz.isAgg63
def iA69 := @Go.Proofs.Tryz.isAgg69
def iA77 := @Go.Proofs.Tryz.isAgg77
def iA79 := @Go.Proofs.Tryz.isAgg79
def iA9 := @Go.Proofs.Tryz.isAgg9
def zT113 := @Go.Proofs.Tryz.sizeOf113
def zT127 := @Go.Proofs.Tryz.sizeOf127
def zT129 := @Go.Proofs.Tryz.sizeOf129
def zT137 := @Go.Proofs.Tryz.sizeOf137
def zT144 := @Go.Proofs.Tryz.sizeOf144
def zT23 := @Go.Proofs.Tryz.sizeOf23
def zT28 := @Go.Proofs.Tryz.sizeOf28
def zT29 := @Go.Proofs.Tryz.sizeOf29
def zT3 := @Go.Proofs.Tryz.sizeOf3
def zT33 := @Go.Proofs.Tryz.sizeOf33
def zT37 := @Go.Proofs.Tryz.sizeOf37
def zT39 := @Go.Proofs.Tryz.sizeOf39
def zT4 := @Go.Proofs.Tryz.sizeOf4
def zT44 := @Go.Proofs.Tryz.sizeOf44
def zT49 := @Go.Proofs.Tryz.sizeOf49
def zT5 := @Go.Proofs.Tryz.sizeOf5
def zT63 := @Go.Proofs.Tryz.sizeOf63
def zT69 := @Go.Proofs.Tryz.sizeOf69
def zT77 := @Go.Proofs.Tryz.sizeOf77
def zT79 := @Go.Proofs.Tryz.sizeOf79
def zT9 := @Go.Proofs.Tryz.sizeOf9
def uT107 := @Go.Proofs.Tryz.underlying107
def uT127 := @Go.Proofs.Tryz.underlying127
def uT129 := @Go.Proofs.Tryz.underlying129
def uT137 := @Go.Proofs.Tryz.underlying137
def uT144 := @Go.Proofs.Tryz.underlying144
def uT146 := @Go.Proofs.Tryz.underlying146
def uT178 := @Go.Proofs.Tryz.underlying178
def uT22 := @Go.Proofs.Tryz.underlying22
def uT23 := @Go.Proofs.Tryz.underlying23
def uT26 := @Go.Proofs.Tryz.underlying26
def uT28 := @Go.Proofs.Tryz.underlying28
def uT3 := @Go.Proofs.Tryz.underlying3
def uT33 := @Go.Proofs.Tryz.underlying33
def uT37 := @Go.Proofs.Tryz.underlying37
def uT39 := @Go.Proofs.Tryz.underlying39
def uT4 := @Go.Proofs.Tryz.underlying4
def uT44 := @Go.Proofs.Tryz.underlying44
def uT49 := @Go.Proofs.Tryz.underlying49
def uT5 := @Go.Proofs.Tryz.underlying5
def uT51 := @Go.Proofs.Tryz.underlying51
def uT63 := @Go.Proofs.Tryz.underlying63
def uT69 := @Go.Proofs.Tryz.underlying69
def uT72 := @Go.Proofs.Tryz.underlying72
def uT79 := @Go.Proofs.Tryz.underlying79
def uT87 := @Go.Proofs.Tryz.underlying87
def uT9 := @Go.Proofs.Tryz.underlying9
end Go.Sky

