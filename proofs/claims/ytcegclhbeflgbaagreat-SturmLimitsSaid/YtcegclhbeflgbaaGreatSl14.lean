/- rules, arithmetic and contracts: part 15
   Proved without conditions of its own: each theorem bears its own. -/
import Derived.Test.YtcegclhbeflgbaaGreatSl13
import Derived.Test.YtcegclhbeflgbaaGreatSl12
import Derived.Test.YtcegclhbeflgbaaGreatSl02
import Derived.Test.YtcegclhbeflgbaaGreatSl01
import Derived.Test.YtcegclhbeflgbaaGreatSl03
set_option linter.all false
namespace Go.Sky
set_option linter.unusedVariables false
def numOK (la lb K : Nat) : Prop := ∀ l, l ≤ lb → (l + 1) * (K * (la + lb - 2 * l + 2) + 1) ≤ 65536
end Go.Sky
namespace Go.Sky
set_option linter.unusedVariables false
def kkR (R : Nat) : Nat → Nat
  | 0 => 0
  | d + 1 => 2 * (R + 1) * kkR R d + 1
end Go.Sky
namespace Go.Sky
set_option linter.unusedVariables false
theorem rev_lin (r d : Int) (x : Rat) : rev [-r, d] x = (d : Rat) * x - r := by
  show ((-r : Int) : Rat) + x * ((d : Rat) + x * 0) = _; push_cast; grind
theorem Ed.root {p : List Int} {r d : Int} (hd : d ≠ 0) (h : Ed [-r, d] p) : rev p ((r : Rat) / d) = 0 := by
  obtain ⟨k, s, hk, h⟩ := h
  have hd' : (d : Rat) ≠ 0 := by exact_mod_cast hd
  have hk' : (k : Rat) ≠ 0 := by exact_mod_cast hk
  have h1 := h ((r : Rat) / d)
  rw [rev_lin] at h1
  have : (d : Rat) * (r / d) = r := by grind
  rw [this] at h1; grind
end Go.Sky
namespace Go.Sky
set_option linter.unusedVariables false
def Away (s t : Rat) (f : Rat → Rat) : Prop := ∃ δ : Rat, 0 < δ ∧ ∀ x, s ≤ x → x ≤ t → δ ≤ f x ∨ f x ≤ -δ
theorem Away.mul {s t : Rat} {f g h : Rat → Rat} (hf : Away s t f) (hg : Away s t g) (e : ∀ x, h x = f x * g x) : Away s t h := by
  obtain ⟨a, a1, a2⟩ := hf
  obtain ⟨b, b1, b2⟩ := hg
  refine ⟨a * b, Rat.mul_pos a1 b1, fun x h1 h2 => ?_⟩
  rw [e x]
  rcases a2 x h1 h2 with h3 | h3 <;> rcases b2 x h1 h2 with h4 | h4
  · left; have := Rat.mul_nonneg (a := f x - a) (b := g x) (by grind) (by grind); have := Rat.mul_nonneg (a := a) (b := g x - b) (by grind) (by grind); grind
  · right; have := Rat.mul_nonneg (a := f x - a) (b := - g x) (by grind) (by grind); have := Rat.mul_nonneg (a := a) (b := - g x - b) (by grind) (by grind); grind
  · right; have := Rat.mul_nonneg (a := - f x - a) (b := g x) (by grind) (by grind); have := Rat.mul_nonneg (a := a) (b := g x - b) (by grind) (by grind); grind
  · left; have := Rat.mul_nonneg (a := - f x - a) (b := - g x) (by grind) (by grind); have := Rat.mul_nonneg (a := a) (b := - g x - b) (by grind) (by grind); grind
theorem Away.lin {s t : Rat} {r d : Int} (hd : 0 < d) (h : (r : Rat) < d * s ∨ (d : Rat) * t < r) : Away s t (rev [-r, d]) := by
  have hd' : (0 : Rat) < (d : Rat) := by exact_mod_cast hd
  rcases h with h | h
  · refine ⟨d * s - r, by grind, fun x h1 h2 => .inl ?_⟩
    rw [rev_lin]; have := Rat.mul_nonneg (a := (d : Rat)) (b := x - s) (by grind) (by grind); grind
  · refine ⟨r - d * t, by grind, fun x h1 h2 => .inr ?_⟩
    rw [rev_lin]; have := Rat.mul_nonneg (a := (d : Rat)) (b := t - x) (by grind) (by grind); grind
theorem Away.one (s t : Rat) : Away s t (rev [1]) := ⟨1, by decide, fun x _ _ => by left; rw [rev_one]; exact Rat.le_refl⟩
theorem chn_const {xs : List Int} {F : Nat} (hx : Tr xs) (h0 : xs ≠ []) (hC : chOK F xs) {s t : Rat} (hst : s ≤ t) (h : Away s t (rev xs)) : vat ((chn F xs).map rev) s = vat ((chn F xs).map rev) t := by
  have hok := hC.1.2.2.1
  obtain ⟨f1, f2, f3, f4, f5, f6⟩ := sqf_fac (F := F) hx h0 hok
  obtain ⟨g, hg⟩ := rev_sqf hx h0 hok
  obtain ⟨ε, e1, e2⟩ := h
  obtain ⟨δ, d1, d2⟩ := big_fac e1 e2 hg (rev_b s t g)
  exact schain_const f2 (tr_pprim (tr_pder f2)) hC.2.2 hst d1 d2
def cntP (P : Int → Prop) [DecidablePred P] (m : Int) : Nat → Int
  | 0 => 0
  | n + 1 => cntP P m n + (if P (m + n + 1) then 1 else 0)
end Go.Sky
namespace Go.Sky
set_option linter.unusedVariables false
def eB (K C : Nat) : Nat → Nat
  | 0 => 0
  | n + 1 => C + K * eB K C n
def eL (K C : Nat) : Nat → Nat
  | 0 => 0
  | n + 1 => K * eL K C n + eB K C n
def eM (K C : Nat) : Nat → Nat
  | 0 => 0
  | n + 1 => eL K C n + K * eM K C n
end Go.Sky
namespace Go.Sky
set_option linter.unusedVariables false
def sepOK (K A n e : Nat) : Bool :=
  let X := (2 * (2 * n - 3) * A) ^ (2 * n - 4)
  let W := eB K X (n - 1)
  Nat.ble (2 * (2 * W + 1) * (2 * eL K A n)) (2 ^ e) && Nat.ble (2 * (2 * W + 1) * eM K A n) (2 ^ e)
theorem two_pow_pos (e : Nat) : (0 : Rat) < ((2 ^ e : Nat) : Rat) := by
  have : 0 < 2 ^ e := Nat.pow_pos (by decide)
  exact_mod_cast this
end Go.Sky
namespace Go.Sky
set_option linter.unusedVariables false
def qv (z : R2) : Rat := (z.1 : Rat) / (z.2 : Rat)
theorem coprime_rep {x y X Y g : Nat} (hg : g = Nat.gcd x y) (hy : 0 < y) (hY : 0 < Y) (h : x * Y = X * y) : y / g ∣ Y ∧ x / g ≤ X := by
  have hg0 : 0 < g := by rw [hg]; exact Nat.gcd_pos_of_pos_right _ hy
  have hc : Nat.Coprime (x / g) (y / g) := by rw [hg]; exact Nat.coprime_div_gcd_div_gcd (by rw [← hg]; exact hg0)
  have hx' : x / g * g = x := Nat.div_mul_cancel (by rw [hg]; exact Nat.gcd_dvd_left _ _)
  have hy' : y / g * g = y := Nat.div_mul_cancel (by rw [hg]; exact Nat.gcd_dvd_right _ _)
  have h2 : x / g * Y = X * (y / g) := by
    refine Nat.eq_of_mul_eq_mul_right hg0 ?_
    have e1 : x / g * Y * g = x / g * g * Y := by grind
    have e2 : X * (y / g) * g = X * (y / g * g) := by grind
    rw [e1, e2, hx', hy', h]
  have hd : y / g ∣ Y := hc.symm.dvd_of_dvd_mul_left (by rw [h2]; exact Nat.dvd_mul_left _ _)
  refine ⟨hd, ?_⟩
  obtain ⟨k, hk⟩ := hd
  have hk0 : 0 < k := Nat.pos_of_ne_zero fun e => by rw [e, Nat.mul_zero] at hk; omega
  have hyg : 0 < y / g := Nat.pos_of_ne_zero fun e => by rw [e, Nat.zero_mul] at hy'; omega
  rw [hk] at h2
  have h3 : x / g * k = X := by
    refine Nat.eq_of_mul_eq_mul_right hyg ?_
    have : x / g * k * (y / g) = x / g * (y / g * k) := by grind
    rw [this, h2]
  rw [← h3]
  exact Nat.le_mul_of_pos_right _ hk0
theorem low_rep {x y X Y : Int} (hy : 0 < y) (hY : 0 < Y) (h : x * Y = X * y) {B : Nat} (hX : bl X.natAbs ≤ B) (hYb : bl Y.natAbs ≤ B) (hB : B ≤ 65536) :
    ¬ rfull x y ∧ rden x y ∣ Y ∧ 0 < rden x y ∧ bl (rnum x y).natAbs ≤ B ∧ bl (rden x y).natAbs ≤ B ∧ rnum x y * y = x * rden x y := by
  have hg : lgcd x y = (Nat.gcd x.natAbs y.natAbs : Int) := by rw [lgcd_ge (by omega)]; rfl
  have hn : x.natAbs * Y.natAbs = X.natAbs * y.natAbs := by rw [← Int.natAbs_mul, ← Int.natAbs_mul, h]
  obtain ⟨d1, d2⟩ := coprime_rep (g := Nat.gcd x.natAbs y.natAbs) rfl (by omega : 0 < y.natAbs) (by omega : 0 < Y.natAbs) hn
  have e1 : (y / lgcd x y).natAbs = y.natAbs / Nat.gcd x.natAbs y.natAbs := by
    rw [Int.natAbs_ediv_of_dvd (lgcd_dv2 x y), lgcd_abs]
  have e2 : (x / lgcd x y).natAbs = x.natAbs / Nat.gcd x.natAbs y.natAbs := by
    rw [Int.natAbs_ediv_of_dvd (lgcd_dv1 x y), lgcd_abs]
  have b1 : bl (y / lgcd x y).natAbs ≤ B := Nat.le_trans (bl_mono (by rw [e1]; exact Nat.le_of_dvd (by omega) d1)) hYb
  have b2 : bl (x / lgcd x y).natAbs ≤ B := Nat.le_trans (bl_mono (by rw [e2]; exact d2)) hX
  have hf : ¬ rfull x y := fun h => by unfold rfull at h; omega
  obtain ⟨n1, n2, -⟩ := nr_num hf
  refine ⟨hf, ?_, nr_pos hf hy, by rw [n1]; exact b2, by rw [n2]; exact b1, ?_⟩
  · rw [n2]
    refine Int.natAbs_dvd_natAbs.1 ?_
    rw [e1]; exact d1
  · rw [n1, n2]; exact lgcd_rel x y
structure En (K Q : Nat) (d : Nat) (z : R2) : Prop where
  pos : 0 < z.2
  dv : z.2 ∣ ((Q * 2 ^ d : Nat) : Int)
  lo : -(K : Rat) ≤ qv z
  hi : qv z ≤ (K : Rat)
theorem En.up {K Q d : Nat} {z : R2} (h : En K Q d z) : En K Q (d + 1) z := by
  obtain ⟨h1, h2, h3, h4⟩ := h
  refine ⟨h1, ?_, h3, h4⟩
  have : ((Q * 2 ^ (d + 1) : Nat) : Int) = ((Q * 2 ^ d : Nat) : Int) * 2 := by rw [Nat.pow_succ]; push_cast; grind
  rw [this]; exact Int.dvd_trans h2 (Int.dvd_mul_right _ _)
theorem canc {N p s Y X D : Int} (hp : p ≠ 0) (h1 : N * p = s * D) (h2 : s * Y = X * p) : N * Y = X * D := by
  refine Int.eq_of_mul_eq_mul_right hp ?_
  have e1 : N * Y * p = (N * p) * Y := by grind
  have e2 : X * D * p = (X * p) * D := by grind
  rw [e1, e2, h1, ← h2]; grind
theorem rat_pos {z : Int} (h : 0 < z) : (0 : Rat) < (z : Rat) := by exact_mod_cast h
theorem bl_le_of {n m : Nat} (h : n < 2 ^ m) : bl n ≤ m := (bl_le m n).2 h
theorem mid_en {K Q d B : Nat} {a b : R2} (ha : En K Q d a) (hb : En K Q d b) (hQ : 0 < Q) (hB1 : Q * 2 ^ (d + 1) < 2 ^ B) (hB2 : 2 * K * (Q * 2 ^ d) < 2 ^ B) (hB : B ≤ 65536) :
    midOK a b ∧ En K Q (d + 1) (smid a b) ∧ qv (smid a b) = (qv a + qv b) / 2 ∧ bl (smid a b).1.natAbs ≤ B ∧ bl (smid a b).2.natAbs ≤ B := by
  obtain ⟨pa, ⟨ka, da⟩, la, ua⟩ := ha
  obtain ⟨pb, ⟨kb, db⟩, lb, ub⟩ := hb
  generalize hY : ((Q * 2 ^ d : Nat) : Int) = Y at *
  have hQd : 0 < Q * 2 ^ d := Nat.mul_pos hQ (Nat.pow_pos (by decide))
  have hY0 : 0 < Y := by rw [← hY]; exact_mod_cast hQd
  have rpa := rat_pos pa
  have rpb := rat_pos pb
  have rY := rat_pos hY0
  have hpp : 0 < a.2 * b.2 := Int.mul_pos pa pb
  have hsum : (a.1 * b.2 + b.1 * a.2) * Y = (a.1 * ka + b.1 * kb) * (a.2 * b.2) := by
    have e1 : (a.1 * ka + b.1 * kb) * (a.2 * b.2) = a.1 * b.2 * (a.2 * ka) + b.1 * a.2 * (b.2 * kb) := by grind
    rw [e1, ← da, ← db]; grind
  have hqa : (a.1 : Rat) * ka = qv a * Y := by
    unfold qv; have : (Y : Rat) = (a.2 : Rat) * ka := by rw [da]; push_cast; rfl
    rw [this]; grind
  have hqb : (b.1 : Rat) * kb = qv b * Y := by
    unfold qv; have : (Y : Rat) = (b.2 : Rat) * kb := by rw [db]; push_cast; rfl
    rw [this]; grind
  have hX : ((a.1 * ka + b.1 * kb : Int) : Rat) = (qv a + qv b) * Y := by push_cast; rw [hqa, hqb]; grind
  have hXb : (a.1 * ka + b.1 * kb).natAbs ≤ 2 * K * (Q * 2 ^ d) := by
    have hKn : ((2 * K * (Q * 2 ^ d) : Nat) : Rat) = 2 * (K : Rat) * (Y : Rat) := by rw [← hY]; push_cast; grind
    have t1 := Rat.mul_nonneg (a := 2 * (K : Rat) - (qv a + qv b)) (b := (Y : Rat)) (by grind) (by grind)
    have t2 := Rat.mul_nonneg (a := 2 * (K : Rat) + (qv a + qv b)) (b := (Y : Rat)) (by grind) (by grind)
    have u1 : ((a.1 * ka + b.1 * kb : Int) : Rat) ≤ (((2 * K * (Q * 2 ^ d) : Nat) : Int) : Rat) := by rw [hX]; push_cast at hKn ⊢; grind
    have u2 : ((-((2 * K * (Q * 2 ^ d) : Nat) : Int) : Int) : Rat) ≤ ((a.1 * ka + b.1 * kb : Int) : Rat) := by rw [hX]; push_cast at hKn ⊢; grind
    have v1 : a.1 * ka + b.1 * kb ≤ ((2 * K * (Q * 2 ^ d) : Nat) : Int) := by exact_mod_cast u1
    have v2 : -((2 * K * (Q * 2 ^ d) : Nat) : Int) ≤ a.1 * ka + b.1 * kb := by exact_mod_cast u2
    omega
  have hYb : Y.natAbs = Q * 2 ^ d := by rw [← hY]; rfl
  have hB3 : Q * 2 ^ (d + 1) = 2 * (Q * 2 ^ d) := by rw [Nat.pow_succ]; grind
  have hbY : bl Y.natAbs ≤ B := bl_le_of (by rw [hYb]; omega)
  have hbX : bl (a.1 * ka + b.1 * kb).natAbs ≤ B := bl_le_of (by omega)
  obtain ⟨f1, f2, f3, f4, f5, f6⟩ := low_rep hpp hY0 hsum hbX hbY hB
  have hv1 := canc (Int.ne_of_gt hpp) f6 hsum
  have hbY2 : bl (2 * Y).natAbs ≤ B := bl_le_of (by rw [Int.natAbs_mul, hYb]; show 2 * (Q * 2 ^ d) < _; omega)
  have hs2 : rnum (a.1 * b.2 + b.1 * a.2) (a.2 * b.2) * 1 * (2 * Y) = (a.1 * ka + b.1 * kb) * (rden (a.1 * b.2 + b.1 * a.2) (a.2 * b.2) * 2) := by
    rw [Int.mul_one]
    have e1 : rnum (a.1 * b.2 + b.1 * a.2) (a.2 * b.2) * (2 * Y) = 2 * (rnum (a.1 * b.2 + b.1 * a.2) (a.2 * b.2) * Y) := by grind
    rw [e1, hv1]; grind
  have hp2 : 0 < rden (a.1 * b.2 + b.1 * a.2) (a.2 * b.2) * 2 := by omega
  obtain ⟨g1, g2, g3, g4, g5, g6⟩ := low_rep hp2 (by omega : 0 < 2 * Y) hs2 hbX hbY2 hB
  have hv2 := canc (Int.ne_of_gt hp2) g6 hs2
  have hm1 : (smid a b).1 = rnum (rnum (a.1 * b.2 + b.1 * a.2) (a.2 * b.2) * 1) (rden (a.1 * b.2 + b.1 * a.2) (a.2 * b.2) * 2) := rfl
  have hm2 : (smid a b).2 = rden (rnum (a.1 * b.2 + b.1 * a.2) (a.2 * b.2) * 1) (rden (a.1 * b.2 + b.1 * a.2) (a.2 * b.2) * 2) := rfl
  rw [← hm1, ← hm2] at hv2
  rw [← hm2] at g2 g3 g5
  rw [← hm1] at g4
  have hq : qv (smid a b) = (qv a + qv b) / 2 := by
    have h1 : (((smid a b).1 : Int) : Rat) * (2 * (Y : Rat)) = ((a.1 * ka + b.1 * kb : Int) : Rat) * (((smid a b).2 : Int) : Rat) := by
      have : (((smid a b).1 * (2 * Y) : Int) : Rat) = (((a.1 * ka + b.1 * kb) * (smid a b).2 : Int) : Rat) := by rw [hv2]
      push_cast at this ⊢; grind
    rw [hX] at h1
    have rd := rat_pos g3
    unfold qv at *
    generalize (((smid a b).1 : Int) : Rat) = n at *
    generalize (((smid a b).2 : Int) : Rat) = m at *
    generalize (a.1 : Rat) / (a.2 : Rat) = p at *
    generalize (b.1 : Rat) / (b.2 : Rat) = q at *
    generalize (Y : Rat) = y at *
    grind
  refine ⟨⟨f1, g1⟩, ⟨g3, ?_, by rw [hq]; grind, by rw [hq]; grind⟩, hq, g4, g5⟩
  have e : ((Q * 2 ^ (d + 1) : Nat) : Int) = 2 * Y := by rw [hB3, ← hY]; push_cast; rfl
  rw [e]; exact g2
end Go.Sky
namespace Go.Sky
set_option linter.unusedVariables false
def vch (F : Nat) (xs : List Int) (x : Rat) : Int := vat ((chn F xs).map rev) x
theorem cvc_v {F : Nat} {xs : List Int} {z : R2} (h : 0 < z.2) : cvc F xs z = vch F xs (qv z) := cnt_vat h
def Sqn (P : R2 → R2 → Prop) (hi : Rat) : Rat → List (R2 × R2) → Prop
  | lo, [] => lo ≤ hi
  | lo, c :: r => lo ≤ qv c.1 ∧ qv c.1 < qv c.2 ∧ P c.1 c.2 ∧ Sqn P hi (qv c.2) r
end Go.Sky
namespace Go.Sky
set_option linter.unusedVariables false
end Go.Sky
namespace Go.Sky
open Go.RowKit (Below)
set_option linter.unusedVariables false
variable {P : Program} {N : Nat} {sc : Nat → Prop} {env env' : Env} {H H' : Hp} {Q Q' : Exit → Act → World → Prop} {M : Nat → Prop}
def CalM (P : Program) (f : FuncId) (args : Array Value) (pre : List Pc) {G : Type} (φ : G → Prop) (val : G → Value) (it its : G → Pc) : Prop :=
  ∀ w, (∀ p ∈ pre, p.holds w) → Calls P f args w fun e w' => ∃ g, e = .returned (val g) ∧ φ g ∧ Below w.heap.size w w' ∧ (it g).holds w' ∧ (∀ b, (it g).fp b → w.heap.size ≤ b) ∧
    (its g).holds w' ∧ (its g).own = false ∧ (∀ b, (its g).fp b → w.heap.size ≤ b ∨ ∃ q ∈ pre, q.fp b) ∧ ∀ b, (it g).fp b → (its g).fp b → False
def FPostM (P : Program) (fn : Func) (w0 : World) (pre : List Pc) {G : Type} (φ : G → Prop) (val : G → Value) (it its : G → Pc) : Exit → Act → World → Prop :=
  bodyPost P fn fun e w' => ∃ g, e = .returned (val g) ∧ φ g ∧ Below w0.heap.size w0 w' ∧ (it g).holds w' ∧ (∀ b, (it g).fp b → w0.heap.size ≤ b) ∧
    (its g).holds w' ∧ (its g).own = false ∧ (∀ b, (its g).fp b → w0.heap.size ≤ b ∨ ∃ q ∈ pre, q.fp b) ∧ ∀ b, (it g).fp b → (its g).fp b → False
abbrev qD (z : SL × Nat) : Pc := d9p (svv z.1) z.2
abbrev JE := (R2 × R2) × (SL × SL × SL × SL)
abbrev encJ (y : JE) : Value := .agg #[.bool (decide (y.1.1.1 < 0)), svv y.2.1, .bool (decide (y.1.1.2 < 0)), svv y.2.2.1, .bool (decide (y.1.2.1 < 0)), svv y.2.2.2.1, .bool (decide (y.1.2.2 < 0)), svv y.2.2.2.2]
abbrev qJ (y : JE) : Pc := many qD [(y.2.1, y.1.1.1.natAbs), (y.2.2.1, y.1.1.2.natAbs), (y.2.2.2.1, y.1.2.1.natAbs), (y.2.2.2.2, y.1.2.2.natAbs)]
abbrev J0 : JE := (((0, 0), (0, 0)), ((none, 0, 0), (none, 0, 0), (none, 0, 0), (none, 0, 0)))
end Go.Sky
namespace Go.Sky
set_option linter.unusedVariables false
end Go.Sky
namespace Go.Sky
set_option linter.unusedVariables false
theorem Sqn.mem {P : R2 → R2 → Prop} {hi : Rat} : ∀ {lo : Rat} {l : List (R2 × R2)}, Sqn P hi lo l → ∀ c ∈ l, P c.1 c.2
  | _, [], _, c, hc => by cases hc
  | lo, d :: r, h, c, hc => by
    rcases List.mem_cons.1 hc with rfl | hc
    · exact h.2.2.1
    · exact Sqn.mem h.2.2.2 c hc
theorem en_bl {K Q d B : Nat} {z : R2} (h : En K Q d z) (hQ : 0 < Q) (h1 : Q * 2 ^ d < 2 ^ B) (h2 : K * (Q * 2 ^ d) < 2 ^ B) : bl z.1.natAbs ≤ B ∧ bl z.2.natAbs ≤ B := by
  obtain ⟨hp, hd, hl, hu⟩ := h
  have hpos : 0 < Q * 2 ^ d := Nat.mul_pos hQ (Nat.pow_pos (by decide))
  have hz2 : z.2.natAbs ≤ Q * 2 ^ d := by
    have := Int.natAbs_dvd_natAbs.2 hd
    rw [Int.natAbs_natCast] at this
    exact Nat.le_of_dvd hpos this
  have hz1 : z.1.natAbs ≤ K * z.2.natAbs := by
    have r := rat_pos hp
    have e : (z.1 : Rat) = qv z * z.2 := by unfold qv; grind
    have t1 := Rat.mul_nonneg (a := (K : Rat) - qv z) (b := (z.2 : Rat)) (by grind) (by grind)
    have t2 := Rat.mul_nonneg (a := (K : Rat) + qv z) (b := (z.2 : Rat)) (by grind) (by grind)
    have hn : ((K * z.2.natAbs : Nat) : Int) = (K : Int) * z.2 := by push_cast; rw [Int.natAbs_of_nonneg (by omega)]
    have u1 : ((z.1 : Int) : Rat) ≤ (((K : Int) * z.2 : Int) : Rat) := by push_cast; grind
    have u2 : ((-((K : Int) * z.2) : Int) : Rat) ≤ ((z.1 : Int) : Rat) := by push_cast; grind
    have v1 : z.1 ≤ (K : Int) * z.2 := by exact_mod_cast u1
    have v2 : -((K : Int) * z.2) ≤ z.1 := by exact_mod_cast u2
    omega
  have hz3 : K * z.2.natAbs ≤ K * (Q * 2 ^ d) := Nat.mul_le_mul_left _ hz2
  exact ⟨bl_le_of (by omega), bl_le_of (by omega)⟩
end Go.Sky
namespace Go.Sky
open Go.Proofs
set_option maxRecDepth 20000
set_option maxHeartbeats 4000000
set_option linter.unusedVariables false
set_option linter.unusedSimpArgs false
theorem st_split_deep (bh bo bl bs : Nat) (vl : Value) (ls : List (SL × List Int)) (hv : Int) (hvz : ∀ z ∈ ls, Vp z.2) (hll : ls.length ≤ 1000) (vo : Value) (os : List (R2 × R2)) (a b : R2) (fr to : Int) (d : Nat) (ha : okQ a) (hb : okQ b) (hfr : -100000 ≤ fr ∧ fr ≤ 100000) (hto : -100000 ≤ to ∧ to ≤ 100000) (hne : ¬ fr = to) (hnl : ¬ (fr - to = 1 ∧ hv ≤ (d : Int))) (hd : 1000 ≤ d) (hdb : d ≤ 2000) : CalP Tryz.prog 85 #[iq (a, b), .int .i64 fr, .int .i64 to, .int .i64 (d : Int), .pointer (some ⟨bh, 0, none⟩), .pointer (some ⟨bo, 0, none⟩), .pointer (some ⟨bl, 0, none⟩), .pointer (some ⟨bs, 0, none⟩)] [rbox bh 3 #[.int .i64 hv], rbox bl 44 #[vl], deep 1 encS qZ vl ls, rbox bs 113 #[.func (.func 85) #[] #[.pointer (some ⟨bh, 0, none⟩), .pointer (some ⟨bo, 0, none⟩), .pointer (some ⟨bl, 0, none⟩), .pointer (some ⟨bs, 0, none⟩)]]] (gb bo 69 8 79 iq vo os) (G := Value) (fun _ => True) (fun _ => .int .i64 7) (fun g => gb bo 69 8 79 iq g os) := by
 refine calp_in Tryz.func85 J Tryz.ntmps85 J K4 ?_
 intro w0 sc hw hsc
 simp only [Zq, Zo]
 obtain ⟨ha1, ha2, ha3⟩ := ha
 obtain ⟨hb1, hb2, hb3⟩ := hb
 have hcm := chg_range (sgx ls (fat (smid a b).1 (smid a b).2))
 rw [length_sgx] at hcm
 have hcv : cvx ls (smid a b) = chg (sgx ls (fat (smid a b).1 (smid a b).2)) := rfl
 refine Yk (Qo 1 60 J J J) <|Yk (Qa 999 2 28 wv) <|Yk (Xa 999 J J pV) <|Zb <|Ze <|tt (Yy (i := 6) J J J J J J hw) J fun bx _ => Zm J J <|Zd <|Za <|Zb <|Zv <|Zb <|Ze <|mv J J <|mv J J <|dt (Xh J J J) J <|Zm J J <|Zd <|Za <|Zn J (fun h231 => ?_) (fun h231 => ?_)
 ·exfalso; exact absurd h231 (by omega)
 ·refine Qm [(1, _), (2, _), (3, _), (5, _), (6, _), (7, _), (8, _)] [(0, _), (2, _), (3, _), (4, _), (5, _), (1, _), (60, _), (999, _), (6, _)] (fun (_j : Unit) => [(21, .bool (decide (fr - to = 1 ∧ hv ≤ (d : Int))))]) (fun (_j : Unit) => []) (fun (_j : Unit) => True) K7 K9 ?_ ?_
  ·refine Ze <|mv J J <|mv J J <|dt (Yz J J J ⟨by omega, by omega⟩) J <|dt (Xh J J J) J <|mv J J <|Xu (d := 26) J (fun s233 => ?_) (fun s233 => ?_)
   ·exact Yr (Zw J J) J J J J <|Yr (d_lr (i := 2) J J J iA3 J) J J J J <|Yr (Qd J J J) J J J J <|dt (Yp J J J) J <|Zm J J <|Zd <|Yx () trivial ⟨by first | exact congrArg (fun z => some (Value.bool z)) (decide_eq_decide.2 (by omega)) | exact congrArg (fun z => some (Value.bool z)) (decide_eq_false (by omega)).symm, rfl, rfl, rfl, rfl, rfl, rfl, rfl, trivial⟩ K9
   ·exact Xm J J J J J <|Xm J J J J J <|Xm J J J J J <|dt (Yd J J J) J <|Zm J J <|Zd <|Yx () trivial ⟨by first | exact congrArg (fun z => some (Value.bool z)) (decide_eq_decide.2 (by omega)) | exact congrArg (fun z => some (Value.bool z)) (decide_eq_false (by omega)).symm, rfl, rfl, rfl, rfl, rfl, rfl, rfl, trivial⟩ K9
  ·rintro _j -
   simp only [List.cons_append, List.nil_append]
   refine Zn J (fun h233 => ?_) (fun h233 => ?_)
   ·exfalso; omega
   ·refine Zb <|Ze <|mv J J <|dt (Qd J J J) J <|Zm J J <|Zd <|Za <|Zn J (fun h236 => ?_) (fun h236 => ?_)
    ·exact Zb <|Ze <|Zm J J <|Zd <|Za <|Zr <|x_br <|Yw <|Qe (Qp 1 60 J J J J J) <|x_endp (.inl J) hsc vo _ (fun a w hs => Yt hs Tryz.results85 J) J trivial 1 J J J J (Zg 2 J J J (Zg 3 J J J (Zg 4 J J J (Zg 5 J J J Zf))))
    ·exfalso; omega
theorem st_split_fl (bh bo bl bs : Nat) (vl : Value) (ls : List (SL × List Int)) (hv : Int) (hvz : ∀ z ∈ ls, Vp z.2) (hll : ls.length ≤ 1000) (vo : Value) (os : List (R2 × R2)) (a b : R2) (fr to : Int) (d : Nat) (ha : okQ a) (hb : okQ b) (hfr : -100000 ≤ fr ∧ fr ≤ 100000) (hto : -100000 ≤ to ∧ to ≤ 100000) (hne : ¬ fr = to) (hnl : ¬ (fr - to = 1 ∧ hv ≤ (d : Int))) (hdl : d < 1000) (hmid : midOK a b) (hev : evok ls (smid a b)) (ih : ∀ (vo : Value), CalP Tryz.prog 85 #[iq (a, (smid a b)), .int .i64 fr, .int .i64 (cvx ls (smid a b)), .int .i64 ((d : Int) + 1), .pointer (some ⟨bh, 0, none⟩), .pointer (some ⟨bo, 0, none⟩), .pointer (some ⟨bl, 0, none⟩), .pointer (some ⟨bs, 0, none⟩)] [rbox bh 3 #[.int .i64 hv], rbox bl 44 #[vl], deep 1 encS qZ vl ls, rbox bs 113 #[.func (.func 85) #[] #[.pointer (some ⟨bh, 0, none⟩), .pointer (some ⟨bo, 0, none⟩), .pointer (some ⟨bl, 0, none⟩), .pointer (some ⟨bs, 0, none⟩)]]] (gb bo 69 8 79 iq vo os) (G := Value) (fun _ => True) (fun _ => .int .i64 7) (fun g => gb bo 69 8 79 iq g os)) : CalP Tryz.prog 85 #[iq (a, b), .int .i64 fr, .int .i64 to, .int .i64 (d : Int), .pointer (some ⟨bh, 0, none⟩), .pointer (some ⟨bo, 0, none⟩), .pointer (some ⟨bl, 0, none⟩), .pointer (some ⟨bs, 0, none⟩)] [rbox bh 3 #[.int .i64 hv], rbox bl 44 #[vl], deep 1 encS qZ vl ls, rbox bs 113 #[.func (.func 85) #[] #[.pointer (some ⟨bh, 0, none⟩), .pointer (some ⟨bo, 0, none⟩), .pointer (some ⟨bl, 0, none⟩), .pointer (some ⟨bs, 0, none⟩)]]] (gb bo 69 8 79 iq vo os) (G := Value) (fun _ => True) (fun _ => .int .i64 7) (fun g => gb bo 69 8 79 iq g os) := by
 refine calp_in Tryz.func85 J Tryz.ntmps85 J K4 ?_
 intro w0 sc hw hsc
 simp only [Zq, Zo]
 obtain ⟨ha1, ha2, ha3⟩ := ha
 obtain ⟨hb1, hb2, hb3⟩ := hb
 have hcm := chg_range (sgx ls (fat (smid a b).1 (smid a b).2))
 rw [length_sgx] at hcm
 have hcv : cvx ls (smid a b) = chg (sgx ls (fat (smid a b).1 (smid a b).2)) := rfl
 refine Yk (Qo 1 60 J J J) <|Yk (Qa 999 2 28 wv) <|Yk (Xa 999 J J pV) <|Zb <|Ze <|tt (Yy (i := 6) J J J J J J hw) J fun bx _ => Zm J J <|Zd <|Za <|Zb <|Zv <|Zb <|Ze <|mv J J <|mv J J <|dt (Xh J J J) J <|Zm J J <|Zd <|Za <|Zn J (fun h231 => ?_) (fun h231 => ?_)
 ·exfalso; exact absurd h231 (by omega)
 ·refine Qm [(1, _), (2, _), (3, _), (5, _), (6, _), (7, _), (8, _)] [(0, _), (2, _), (3, _), (4, _), (5, _), (1, _), (60, _), (999, _), (6, _)] (fun (_j : Unit) => [(21, .bool (decide (fr - to = 1 ∧ hv ≤ (d : Int))))]) (fun (_j : Unit) => []) (fun (_j : Unit) => True) K7 K9 ?_ ?_
  ·refine Ze <|mv J J <|mv J J <|dt (Yz J J J ⟨by omega, by omega⟩) J <|dt (Xh J J J) J <|mv J J <|Xu (d := 26) J (fun s233 => ?_) (fun s233 => ?_)
   ·exact Yr (Zw J J) J J J J <|Yr (d_lr (i := 2) J J J iA3 J) J J J J <|Yr (Qd J J J) J J J J <|dt (Yp J J J) J <|Zm J J <|Zd <|Yx () trivial ⟨by first | exact congrArg (fun z => some (Value.bool z)) (decide_eq_decide.2 (by omega)) | exact congrArg (fun z => some (Value.bool z)) (decide_eq_false (by omega)).symm, rfl, rfl, rfl, rfl, rfl, rfl, rfl, trivial⟩ K9
   ·exact Xm J J J J J <|Xm J J J J J <|Xm J J J J J <|dt (Yd J J J) J <|Zm J J <|Zd <|Yx () trivial ⟨by first | exact congrArg (fun z => some (Value.bool z)) (decide_eq_decide.2 (by omega)) | exact congrArg (fun z => some (Value.bool z)) (decide_eq_false (by omega)).symm, rfl, rfl, rfl, rfl, rfl, rfl, rfl, trivial⟩ K9
  ·rintro _j -
   simp only [List.cons_append, List.nil_append]
   refine Zn J (fun h233 => ?_) (fun h233 => ?_)
   ·exfalso; omega
   ·obtain ⟨hm1, hm2⟩ := midOK_bl hmid
    have hm3 := midOK_pos hmid ha3 hb3
    have hme := midOK_err hmid
    have hcr : -100000 ≤ cvx ls (smid a b) ∧ cvx ls (smid a b) ≤ 100000 := by rw [hcv]; omega
    refine Zb <|Ze <|mv J J <|dt (Qd J J J) J <|Zm J J <|Zd <|Za <|Zn J (fun h236 => ?_) (fun h236 => ?_)
    ·exfalso; omega
    ·refine Zk <|Xq <|Za <|Zb <|Ze <|dt (Yu J J uT79 J zT49 J J) J <|dt (Xb (i := 6) J J J iA49 zT49 J J J J) J <|dt (Yu J J uT79 J zT49 J J) J <|dt (Xb (i := 6) J J J iA49 zT49 J J J J) J <|tt (Zh (n := 6) (st_middle _ _ _ _ ha1 ha2 hb1 hb2 ha3 hb3 hmid.1) J J J K2 cF86 Zf J hw) J fun _ _ => mv J J <|dt (Zt J J J) J <|dt (Zt J J J) J <|tt (Zp (i := 7) J J J Tryz.zeroValue49 J J hw) J fun bx_2 _ => tt (Zl (i := 7) J J J J J (by decide) J zT49 J J ⟨(Zc J), (Zc J), (Zc J), (Zc J), trivial⟩ J hw trivial) J fun _ _ => Zm J J <|Zd <|Za <|Zb <|Zb <|Ze <|mv J J <|dt (Zu (r' := .bool false) (Ym J J J) (congrArg Value.bool (by rw [hme]; rfl))) J <|Zd <|Za <|Yc J <|Zk <|Za <|Zb <|Ze <|dt (d_lr (i := 3) J J J iA44 J) J <|dt (Xb (i := 7) J J J iA49 zT49 J J J J) J <|tt (Zh (n := 7) (st_at _ _ _ _ hm1 hm2 hm3 hvz hev) J J J K2 cF77 (Zg 4 J J J Zf) J hw) J fun _ _ => mv J J <|dt (Zt J J J) J <|dt (Zt J J J) J <|Zm J J <|Zm J J <|Zd <|Za <|Zb <|Zb <|Ze <|mv J J <|dt (Zu (r' := .bool false) (Ym J J J) (congrArg Value.bool (by decide))) J <|Zd <|Za <|Yc J <|Zk <|Za <|Zb <|Zb <|Ze <|dt (d_lr (i := 5) J J J iA113 J) J <|dt (Yu J J uT79 J zT49 J J) J ?_
     exact dt (Xb (i := 6) J J J iA49 zT49 J J J J) J <|dt (Xb (i := 7) J J J iA49 zT49 J J J J) J <|dt (Xg (ivs := [(0, _), (1, _)]) J K4 (fun a w hs => b79_01)) J <|mv J J <|mv J J <|mv J J <|dt (Yl J J J ⟨by omega, by omega⟩) J <|Xi (Qp 1 60 J J J J J) <|tt (t_callp (i := 1) (fs := []) (vs := [_, _, _, _]) (us := [_, _, _, _]) (ih _) J J J J K4 cF85 J J (by decide) (Zg 2 J J J (Zg 3 J J J (Zg 4 J J J (Zg 5 J J J Zf)))) J hw (fun _ _ => trivial)) J fun vg _ => Xi (Qo 1 60 J J J) <|Zm J J <|Zd <|Za <|Zb <|Ze <|mv J J <|dt (Zu (r' := .bool true) (Ym J J J) (congrArg Value.bool (by decide))) J <|Zd <|Za <|Ql J <|Zb <|Ze <|mv J J <|Zm J J <|Zd <|Za <|Zr <|Yw <|Qe (Qp 1 60 J J J J J) <|x_endp (.inl J) hsc vg _ (fun a w hs => Yt hs Tryz.results85 J) J trivial 1 J J J J (Zg 2 J J J (Zg 3 J J J (Zg 4 J J J (Zg 5 J J J Zf))))
theorem st_split_fr (bh bo bl bs : Nat) (vl : Value) (ls : List (SL × List Int)) (hv : Int) (hvz : ∀ z ∈ ls, Vp z.2) (hll : ls.length ≤ 1000) (vo : Value) (os : List (R2 × R2)) (a b : R2) (fr to : Int) (d : Nat) (ha : okQ a) (hb : okQ b) (hfr : -100000 ≤ fr ∧ fr ≤ 100000) (hto : -100000 ≤ to ∧ to ≤ 100000) (hne : ¬ fr = to) (hnl : ¬ (fr - to = 1 ∧ hv ≤ (d : Int))) (hdl : d < 1000) (hmid : midOK a b) (hev : evok ls (smid a b)) (hos : os.length ≤ 1000) (heq : fr = cvx ls (smid a b)) (ih : ∀ (vo : Value), CalP Tryz.prog 85 #[iq ((smid a b), b), .int .i64 (cvx ls (smid a b)), .int .i64 to, .int .i64 ((d : Int) + 1), .pointer (some ⟨bh, 0, none⟩), .pointer (some ⟨bo, 0, none⟩), .pointer (some ⟨bl, 0, none⟩), .pointer (some ⟨bs, 0, none⟩)] [rbox bh 3 #[.int .i64 hv], rbox bl 44 #[vl], deep 1 encS qZ vl ls, rbox bs 113 #[.func (.func 85) #[] #[.pointer (some ⟨bh, 0, none⟩), .pointer (some ⟨bo, 0, none⟩), .pointer (some ⟨bl, 0, none⟩), .pointer (some ⟨bs, 0, none⟩)]]] (gb bo 69 8 79 iq vo os) (G := Value) (fun _ => True) (fun _ => .int .i64 7) (fun g => gb bo 69 8 79 iq g os)) : CalP Tryz.prog 85 #[iq (a, b), .int .i64 fr, .int .i64 to, .int .i64 (d : Int), .pointer (some ⟨bh, 0, none⟩), .pointer (some ⟨bo, 0, none⟩), .pointer (some ⟨bl, 0, none⟩), .pointer (some ⟨bs, 0, none⟩)] [rbox bh 3 #[.int .i64 hv], rbox bl 44 #[vl], deep 1 encS qZ vl ls, rbox bs 113 #[.func (.func 85) #[] #[.pointer (some ⟨bh, 0, none⟩), .pointer (some ⟨bo, 0, none⟩), .pointer (some ⟨bl, 0, none⟩), .pointer (some ⟨bs, 0, none⟩)]]] (gb bo 69 8 79 iq vo os) (G := Value) (fun _ => True) (fun _ => .int .i64 7) (fun g => gb bo 69 8 79 iq g os) := by
 refine calp_in Tryz.func85 J Tryz.ntmps85 J K4 ?_
 intro w0 sc hw hsc
 simp only [Zq, Zo]
 obtain ⟨ha1, ha2, ha3⟩ := ha
 obtain ⟨hb1, hb2, hb3⟩ := hb
 have hcm := chg_range (sgx ls (fat (smid a b).1 (smid a b).2))
 rw [length_sgx] at hcm
 have hcv : cvx ls (smid a b) = chg (sgx ls (fat (smid a b).1 (smid a b).2)) := rfl
 have hI0 : isp (cvx ls) hv 1 a (smid a b) fr (cvx ls (smid a b)) (d + 1) = [] := by unfold isp; rw [if_pos heq]
 have hI1 : os ++ isp (cvx ls) hv 1 a (smid a b) fr (cvx ls (smid a b)) (d + 1) = os := by rw [hI0, List.append_nil]
 refine Yk (Qo 1 60 J J J) <|Yk (Qa 999 2 28 wv) <|Yk (Xa 999 J J pV) <|Zb <|Ze <|tt (Yy (i := 6) J J J J J J hw) J fun bx _ => Zm J J <|Zd <|Za <|Zb <|Zv <|Zb <|Ze <|mv J J <|mv J J <|dt (Xh J J J) J <|Zm J J <|Zd <|Za <|Zn J (fun h231 => ?_) (fun h231 => ?_)
 ·exfalso; exact absurd h231 (by omega)
 ·refine Qm [(1, _), (2, _), (3, _), (5, _), (6, _), (7, _), (8, _)] [(0, _), (2, _), (3, _), (4, _), (5, _), (1, _), (60, _), (999, _), (6, _)] (fun (_j : Unit) => [(21, .bool (decide (fr - to = 1 ∧ hv ≤ (d : Int))))]) (fun (_j : Unit) => []) (fun (_j : Unit) => True) K7 K9 ?_ ?_
  ·refine Ze <|mv J J <|mv J J <|dt (Yz J J J ⟨by omega, by omega⟩) J <|dt (Xh J J J) J <|mv J J <|Xu (d := 26) J (fun s233 => ?_) (fun s233 => ?_)
   ·exact Yr (Zw J J) J J J J <|Yr (d_lr (i := 2) J J J iA3 J) J J J J <|Yr (Qd J J J) J J J J <|dt (Yp J J J) J <|Zm J J <|Zd <|Yx () trivial ⟨by first | exact congrArg (fun z => some (Value.bool z)) (decide_eq_decide.2 (by omega)) | exact congrArg (fun z => some (Value.bool z)) (decide_eq_false (by omega)).symm, rfl, rfl, rfl, rfl, rfl, rfl, rfl, trivial⟩ K9
   ·exact Xm J J J J J <|Xm J J J J J <|Xm J J J J J <|dt (Yd J J J) J <|Zm J J <|Zd <|Yx () trivial ⟨by first | exact congrArg (fun z => some (Value.bool z)) (decide_eq_decide.2 (by omega)) | exact congrArg (fun z => some (Value.bool z)) (decide_eq_false (by omega)).symm, rfl, rfl, rfl, rfl, rfl, rfl, rfl, trivial⟩ K9
  ·rintro _j -
   simp only [List.cons_append, List.nil_append]
   refine Zn J (fun h233 => ?_) (fun h233 => ?_)
   ·exfalso; omega
   ·obtain ⟨hm1, hm2⟩ := midOK_bl hmid
    have hm3 := midOK_pos hmid ha3 hb3
    have hme := midOK_err hmid
    have hcr : -100000 ≤ cvx ls (smid a b) ∧ cvx ls (smid a b) ≤ 100000 := by rw [hcv]; omega
    refine Zb <|Ze <|mv J J <|dt (Qd J J J) J <|Zm J J <|Zd <|Za <|Zn J (fun h236 => ?_) (fun h236 => ?_)
    ·exfalso; omega
    ·refine Zk <|Xq <|Za <|Zb <|Ze <|dt (Yu J J uT79 J zT49 J J) J <|dt (Xb (i := 6) J J J iA49 zT49 J J J J) J <|dt (Yu J J uT79 J zT49 J J) J <|dt (Xb (i := 6) J J J iA49 zT49 J J J J) J <|tt (Zh (n := 6) (st_middle _ _ _ _ ha1 ha2 hb1 hb2 ha3 hb3 hmid.1) J J J K2 cF86 Zf J hw) J fun _ _ => mv J J <|dt (Zt J J J) J <|dt (Zt J J J) J <|tt (Zp (i := 7) J J J Tryz.zeroValue49 J J hw) J fun bx_2 _ => tt (Zl (i := 7) J J J J J (by decide) J zT49 J J ⟨(Zc J), (Zc J), (Zc J), (Zc J), trivial⟩ J hw trivial) J fun _ _ => Zm J J <|Zd <|Za <|Zb <|Zb <|Ze <|mv J J <|dt (Zu (r' := .bool false) (Ym J J J) (congrArg Value.bool (by rw [hme]; rfl))) J <|Zd <|Za <|Yc J <|Zk <|Za <|Zb <|Ze <|dt (d_lr (i := 3) J J J iA44 J) J <|dt (Xb (i := 7) J J J iA49 zT49 J J J J) J <|tt (Zh (n := 7) (st_at _ _ _ _ hm1 hm2 hm3 hvz hev) J J J K2 cF77 (Zg 4 J J J Zf) J hw) J fun _ _ => mv J J <|dt (Zt J J J) J <|dt (Zt J J J) J <|Zm J J <|Zm J J <|Zd <|Za <|Zb <|Zb <|Ze <|mv J J <|dt (Zu (r' := .bool false) (Ym J J J) (congrArg Value.bool (by decide))) J <|Zd <|Za <|Yc J <|Zk <|Za <|Zb <|Zb <|Ze <|dt (d_lr (i := 5) J J J iA113 J) J <|dt (Yu J J uT79 J zT49 J J) J ?_
     refine dt (Xb (i := 6) J J J iA49 zT49 J J J J) J <|dt (Xb (i := 7) J J J iA49 zT49 J J J J) J <|dt (Xg (ivs := [(0, _), (1, _)]) J K4 (fun a w hs => b79_01)) J <|mv J J <|mv J J <|mv J J <|dt (Yl J J J ⟨by omega, by omega⟩) J <|Xi (Qp 1 60 J J J J J) <|tt (t_callp (i := 1) (fs := []) (vs := [_, _, _, _]) (us := [_, _, _, _]) (st_split _ _ _ _ _ _ hv hvz hll 1 _ os a (smid a b) fr (cvx ls (smid a b)) (d + 1) ⟨ha1, ha2, ha3⟩ ⟨hm1, hm2, hm3⟩ hfr hcr (.inl heq) (by rw [hI0]; simp; omega)) J J J J K4 cF85 J J (by decide) (Zg 2 J J J (Zg 3 J J J (Zg 4 J J J (Zg 5 J J J Zf)))) J hw (fun _ _ => trivial)) J fun vg _ => Xi (Qo 1 60 J J J) <|Xi (s_oeq 60 hI1 J J) <|Zm J J <|Zd <|Za <|Zb <|Ze <|mv J J <|dt (Zu (r' := .bool false) (Ym J J J) (congrArg Value.bool (by decide))) J <|Zd <|Za <|Yc J <|Zk <|Za <|Zb <|Ze <|dt (d_lr (i := 5) J J J iA113 J) J <|dt (Xb (i := 7) J J J iA49 zT49 J J J J) J <|dt (Yu J J uT79 J zT49 J J) J <|dt (Xb (i := 6) J J J iA49 zT49 J J J J) J <|dt (Xg (ivs := [(0, _), (1, _)]) J K4 (fun a w hs => b79_01)) J <|mv J J <|mv J J <|mv J J <|dt (Yl J J J ⟨by omega, by omega⟩) J <|Xi (Qp 1 60 J J J J J) ?_
     exact tt (t_callp (i := 1) (fs := []) (vs := [_, _, _, _]) (us := [_, _, _, _]) (ih _) J J J J K4 cF85 J J (by decide) (Zg 2 J J J (Zg 3 J J J (Zg 4 J J J (Zg 5 J J J Zf)))) J hw (fun _ _ => trivial)) J fun vg_2 _ => Xi (Qo 1 60 J J J) <|Zm J J <|Zd <|Za <|Zr <|Qe (Qp 1 60 J J J J J) <|x_endp (.inl J) hsc vg_2 _ (fun a w hs => Yt hs Tryz.results85 J) J trivial 1 J J J J (Zg 2 J J J (Zg 3 J J J (Zg 4 J J J (Zg 5 J J J Zf))))
theorem st_isolate_full (v : Value) (xs : List Int) (hv : Vp xs) (a b : R2) (hq : Int) (ha : okQ a) (hb : okQ b) (hh : 0 ≤ hq ∧ hq ≤ 200) (hk : chk2r xs a.1 a.2 b.1 b.2 = 0) (F : Nat) (hF : F ≤ 900) (hC : chOK F xs) (hE1 : evc F xs a) (hE2 : evc F xs b) (hR1 : ¬ rfull a.1 a.2) (hR2 : ¬ rfull b.1 b.2) (hfail : ∀ (bh bo bl bs : Nat) (vl : Value) (ls : List (SL × List Int)) (hvz : ∀ z ∈ ls, Vp z.2) (hll : ls.length ≤ 1000) (hgc : ls.map Prod.snd = chn F xs) (vo : Value), CalP Tryz.prog 85 #[iq ((slow a), (slow b)), .int .i64 (cvx ls a), .int .i64 (cvx ls b), .int .i64 0, .pointer (some ⟨bh, 0, none⟩), .pointer (some ⟨bo, 0, none⟩), .pointer (some ⟨bl, 0, none⟩), .pointer (some ⟨bs, 0, none⟩)] [rbox bh 3 #[.int .i64 hq], rbox bl 44 #[vl], deep 1 encS qZ vl ls, rbox bs 113 #[.func (.func 85) #[] #[.pointer (some ⟨bh, 0, none⟩), .pointer (some ⟨bo, 0, none⟩), .pointer (some ⟨bl, 0, none⟩), .pointer (some ⟨bs, 0, none⟩)]]] (gb bo 69 8 79 iq vo []) (G := Value) (fun _ => True) (fun _ => .int .i64 7) (fun g => gb bo 69 8 79 iq g [])) : Cal Tryz.prog 35 #[v, .agg #[.bool (decide (a.1 < 0)), .string (bstr a.1.natAbs), .bool (decide (a.2 < 0)), .string (bstr a.2.natAbs)], .agg #[.bool (decide (b.1 < 0)), .string (bstr b.1.natAbs), .bool (decide (b.2 < 0)), .string (bstr b.2.natAbs)], .int .i64 hq] [slp 2 wv v xs] false (G := Unit) (fun _ => True) (fun _ => .tuple #[.slice none 0 0, .int .i64 7]) (fun _ => []) := by
 refine Ye Tryz.func35 J Tryz.ntmps35 J K1 ?_
 intro w0 sc hw hsc
 simp only [Zq, Zo]
 obtain ⟨h0, hf⟩ := chk2_fits hk
 obtain ⟨hr11, hr12, hr13⟩ := nr_num hR1
 obtain ⟨hr21, hr22, hr23⟩ := nr_num hR2
 have hsl1 := slow_ok ha hR1
 have hsl2 := slow_ok hb hR2
 obtain ⟨ha1, ha2, ha3⟩ := ha
 obtain ⟨hb1, hb2, hb3⟩ := hb
 have hll := length_schain F (sqf F xs) (pprim (pder (sqf F xs)))
 have hcr1 := chg_range ((chn F xs).map (fat a.1 a.2))
 have hcr2 := chg_range ((chn F xs).map (fat b.1 b.2))
 rw [List.length_map] at hcr1 hcr2
 have hll2 : (chn F xs).length ≤ F + 1 := hll
 refine Yk (Qa 999 2 28 wv) <|Yk (Xa 999 J J pV) <|Zb <|Ze <|tt (Yy (i := 2) J J J J J J hw) J fun bx _ => tt (Yy (i := 3) J J J J J J hw) J fun bx_2 _ => tt (Yy (i := 4) J J J J J J hw) J fun bx_3 _ => Zm J J <|Zm J J <|Zd <|Za <|Zb <|Zb <|Ze <|dt (Xk (i := 4) J J J iA3 J) J <|dt (Zu (r' := .bool false) (Xj J J J) (congrArg Value.bool (decide_eq_false (by omega)))) J <|mv J J <|Yr (Xk (i := 4) J J J iA3 J) J J J J <|Yr (Zu (r' := .bool false) (Xv J J J) (congrArg Value.bool (decide_eq_false (by omega)))) J J J J <|dt (Yd J J J) J <|Zd <|Za <|Yc J <|Zk <|Za <|Zb <|Zb <|Ze <|mv J J <|dt (Xb (i := 2) J J J iA49 zT49 J J J J) J <|dt (Xb (i := 3) J J J iA49 zT49 J J J J) J <|tt (Xf (i := 5) (ivs := [(0, _), (1, _)]) (enc := rq) [(a.1, a.2), (b.1, b.2)] J J J K4 uT87 Tryz.ti49 J J J (fill24 _ _ _ _ _ _ _ _ _ _ _ _) J J pQ.cells J J hw) J fun v _ => tt (Zh (n := 5) (st_check2 _ _ hv _ _ _ _ _ ha1 ha2 hb1 hb2 ha3 hb3) J J J K2 cF51 (Zg 1 J J J (Xl 5 J J pQ Zf)) J hw) J fun _ _ => Zm J J <|Zd <|Za <|Zb <|Ze <|mv J J <|dt (Zu (r' := .bool false) (Ym J J J) (congrArg Value.bool (by rw [hk]; rfl))) J <|Zd <|Za <|Yc J <|Zk <|Za <|Zb <|Ze <|mv J J ?_
 refine tt (Zh (n := 6) (st_chain _ _ hv h0 hf F hC) J J J K1 cF20 (Zg 1 J J J Zf) J hw) J (fun g hg => ?_)
 have hgc := hg
 have hvz := mem_snd hgc (vp_chn hv h0 hC)
 have hcq := cvx_eq hgc
 have hlz : g.2.length ≤ 1000 := by have := congrArg List.length hgc; rw [List.length_map] at this; omega
 have hcv1 : -100000 ≤ cvx g.2 a ∧ cvx g.2 a ≤ 100000 := by rw [hcq]; unfold cvc cnt; omega
 have hcv2 : -100000 ≤ cvx g.2 b ∧ cvx g.2 b ≤ 100000 := by rw [hcq]; unfold cvc cnt; omega
 refine mv J J <|dt (Zt J J J) J <|dt (Zt J J J) J <|tt (Zp (i := 7) J J J Tryz.zeroValue44 J J hw) J fun bx_4 _ => tt (t_st1 (i := 7) J J J J J (by decide) zT44 (Yf (i := 6) J Xc) J hw trivial) J fun _ _ => Zm J J <|Zd <|Za <|Zb <|Zb <|Ze <|mv J J <|dt (Zu (r' := .bool false) (Ym J J J) (congrArg Value.bool (by decide))) J <|Zd <|Za <|Yc J <|Zk <|Za <|Zb <|Ze <|tt (Zp (i := 8) J J J Tryz.zeroValue69 J J hw) J fun bx_5 _ => Zd <|Za <|Zb <|Ze <|tt (Zp (i := 9) J J J Tryz.zeroValue113 J J hw) J fun bx_6 _ => Zd <|Za <|Zb <|Ze <|dt (d_mkc (vs := []) (us := [_, _, _, _]) J trivial K4) J <|tt (Zl (i := 9) J J J J J (by decide) J zT113 J J ⟨(Zc J), trivial⟩ J hw trivial) J fun _ _ => Zd <|Za <|Zb <|Ze <|dt (Yu J J uT49 J zT28 J J) J <|dt (Yg (i := 2) J J J iA28 zT28 J J) J <|dt (Yu J J uT49 J zT28 J J) J <|dt (Yg (i := 2) J J J iA28 zT28 J J) J <|tt (Zh (n := 9) (wide_ratio _ _ ha1 ha2 (by omega)) J J J K2 cF87 Zf J hw) J fun _ _ => mv J J <|dt (Zt J J J) J <|dt (Zt J J J) J <|tt (Zp (i := 10) J J J Tryz.zeroValue49 J J hw) J fun bx_7 _ => tt (Zl (i := 10) J J J J J (by decide) J zT49 J J ⟨(Zc J), (Zc J), (Zc J), (Zc J), trivial⟩ J hw trivial) J fun _ _ => Zm J J <|Zd ?_
 refine Za <|Zb <|Zb <|Ze <|mv J J <|dt (Zu (r' := .bool false) (Ym J J J) (congrArg Value.bool (by rw [hr13]; rfl))) J <|Zd <|Za <|Yc J <|Zk <|Za <|Zb <|Ze <|dt (Yu J J uT49 J zT28 J J) J <|dt (Yg (i := 3) J J J iA28 zT28 J J) J <|dt (Yu J J uT49 J zT28 J J) J <|dt (Yg (i := 3) J J J iA28 zT28 J J) J <|tt (Zh (n := 10) (wide_ratio _ _ hb1 hb2 (by omega)) J J J K2 cF87 Zf J hw) J fun _ _ => mv J J <|dt (Zt J J J) J <|dt (Zt J J J) J <|tt (Zp (i := 11) J J J Tryz.zeroValue49 J J hw) J fun bx_8 _ => tt (Zl (i := 11) J J J J J (by decide) J zT49 J J ⟨(Zc J), (Zc J), (Zc J), (Zc J), trivial⟩ J hw trivial) J fun _ _ => Zm J J <|Zd <|Za <|Zb <|Zb <|Ze <|mv J J <|dt (Zu (r' := .bool false) (Ym J J J) (congrArg Value.bool (by rw [hr23]; rfl))) J <|Zd <|Za <|Yc J <|Zk <|Za <|Zb <|Ze <|dt (Xk (i := 7) J J J iA44 J) J <|dt (Xb (i := 2) J J J iA49 zT49 J J J J) J <|tt (Zh (n := 11) (st_at _ _ _ _ ha1 ha2 ha3 hvz (by rw [← evok_eq hgc] at hE1; exact hE1)) J J J K2 cF77 (Zg 6 J J J Zf) J hw) J fun _ _ => mv J J <|dt (Zt J J J) J <|dt (Zt J J J) J <|Zm J J <|Zm J J <|Zd <|Za <|Zb <|Zb <|Ze <|mv J J ?_
 refine dt (Zu (r' := .bool false) (Ym J J J) (congrArg Value.bool (by decide))) J <|Zd <|Za <|Yc J <|Zk <|Za <|Zb <|Ze <|dt (Xk (i := 7) J J J iA44 J) J <|dt (Xb (i := 3) J J J iA49 zT49 J J J J) J <|tt (Zh (n := 11) (st_at _ _ _ _ hb1 hb2 hb3 hvz (by rw [← evok_eq hgc] at hE2; exact hE2)) J J J K2 cF77 (Zg 6 J J J Zf) J hw) J fun _ _ => mv J J <|dt (Zt J J J) J <|dt (Zt J J J) J <|Zm J J <|Zm J J <|Zd <|Za <|Zb <|Zb <|Ze <|mv J J <|dt (Zu (r' := .bool false) (Ym J J J) (congrArg Value.bool (by decide))) J <|Zd <|Za <|Yc J <|Zk <|Za <|Zb <|Zb <|Ze <|dt (Xk (i := 9) J J J iA113 J) J <|dt (Xb (i := 10) J J J iA49 zT49 J J J J) J <|dt (Xb (i := 11) J J J iA49 zT49 J J J J) J <|dt (Xg (ivs := [(0, _), (1, _)]) J K4 (fun a w hs => b79_01)) J <|mv J J <|mv J J <|Xi (Qa 60 8 79 iq) <|Xi (Qp 8 60 J J J J J) <|tt (t_callp (i := 8) (fs := []) (vs := [_, _, _, _]) (us := [_, _, _, _]) (hfail _ _ _ _ _ _ hvz hlz hgc _) J J J J K4 cF85 J J (by decide) (pre_lendb 4 J J (pre_lendb 7 J J (Zg 6 J J J (pre_lendb 9 J J Zf)))) J hw (fun _ _ => trivial)) J fun vg _ => Xi (Qo 8 60 J J J) <|Zm J J <|Zd <|Za <|Zb <|Ze <|mv J J ?_
 exact dt (Zu (r' := .bool true) (Ym J J J) (congrArg Value.bool (by decide))) J <|Zd <|Za <|Ql J <|Zb <|Ze <|mv J J <|Zm J J <|Zm J J <|Zd <|Za <|Zr <|Yw <|Zx (.inl J) hsc () _ (fun a w hs => Xn hs Tryz.results35 J J) J trivial J Zj
end Go.Sky
namespace Go.Sky
theorem vp_lit {l : List Int} (h1 : ∀ x ∈ l, inI x) (h2 : tzl l = l) (h3 : l.length ≤ 25) : Vp l := ⟨sz_ints h1, h2 ▸ tr_tzl l, h3⟩
theorem inI_all {l : List Int} (h : (l.all fun x => decide (-1000000 ≤ x) && decide (x ≤ 1000000)) = true) : ∀ x ∈ l, inI x := fun x hx => by
  have h1 := List.all_eq_true.1 h x hx
  simp only [Bool.and_eq_true, decide_eq_true_eq] at h1
  exact ⟨by omega, by omega⟩
def litb (l : List Int) : Bool := (l.all fun x => decide (-1000000 ≤ x) && decide (x ≤ 1000000)) && (decide (tzl l = l) && decide (l.length ≤ 25))
theorem vp_b {l : List Int} (h : litb l = true) : Vp l := by
  unfold litb at h
  rw [Bool.and_eq_true, Bool.and_eq_true] at h
  exact vp_lit (inI_all h.1) (of_decide_eq_true h.2.1) (of_decide_eq_true h.2.2)
instance eokDec : ∀ f a b, Decidable (eok f a b)
  | 0, _, b => inferInstanceAs (Decidable (b = []))
  | f + 1, a, b => @instDecidableOr _ _ _ (@instDecidableAnd _ _ _ (eokDec f b (pprim (prest a b))))
end Go.Sky

