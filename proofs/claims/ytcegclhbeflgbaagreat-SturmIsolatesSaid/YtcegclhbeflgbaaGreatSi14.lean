/- rules, arithmetic and contracts: part 15
   Proved without conditions of its own: each theorem bears its own. -/
import Derived.Test.YtcegclhbeflgbaaGreatSi13
import Derived.Test.YtcegclhbeflgbaaGreatSi11
import Derived.Test.YtcegclhbeflgbaaGreatSi04
import Derived.Test.YtcegclhbeflgbaaGreatSi02
import Derived.Test.YtcegclhbeflgbaaGreatSi01
import Derived.Test.YtcegclhbeflgbaaGreatSi03
import Derived.Test.YtcegclhbeflgbaaGreatSi12
set_option linter.all false
namespace Go.Sky
set_option linter.unusedVariables false
def eB (K C : Nat) : Nat → Nat
  | 0 => 0
  | n + 1 => C + K * eB K C n
def eL (K C : Nat) : Nat → Nat
  | 0 => 0
  | n + 1 => K * eL K C n + eB K C n
def eM (K C : Nat) : Nat → Nat
  | 0 => 0
  | n + 1 => eL K C n + K * eM K C n
theorem rat_nat {a b : Nat} (h : a ≤ b) : (a : Rat) ≤ (b : Rat) := by exact_mod_cast h
theorem cf_rat {c : Int} {C : Nat} (h : c.natAbs ≤ C) : -(C : Rat) ≤ (c : Rat) ∧ (c : Rat) ≤ (C : Rat) := by
  have h1 : ((-(C : Int) : Int) : Rat) ≤ (c : Rat) := by exact_mod_cast (show -(C : Int) ≤ c by omega)
  have h2 : (c : Rat) ≤ (((C : Nat) : Int) : Rat) := by exact_mod_cast (show c ≤ (C : Int) by omega)
  push_cast at h1 h2
  constructor <;> grind
theorem cf_tail {c : Int} {p : List Int} {C : Nat} (h : ∀ i, (cf (c :: p) i).natAbs ≤ C) : c.natAbs ≤ C ∧ ∀ i, (cf p i).natAbs ≤ C := ⟨h 0, fun i => h (i + 1)⟩
theorem rev_eB {K C : Nat} : ∀ (n : Nat) (p : List Int), p.length ≤ n → (∀ i, (cf p i).natAbs ≤ C) → ∀ x : Rat, -(K : Rat) ≤ x → x ≤ (K : Rat) → -(eB K C n : Rat) ≤ rev p x ∧ rev p x ≤ (eB K C n : Rat)
  | n, [], _, _, x, _, _ => by
    have h : (0 : Rat) ≤ (eB K C n : Rat) := rat_nat (Nat.zero_le _)
    show -(eB K C n : Rat) ≤ 0 ∧ (0 : Rat) ≤ (eB K C n : Rat)
    constructor <;> grind
  | 0, c :: p, hl, _, _, _, _ => absurd hl (by simp)
  | n + 1, c :: p, hl, hc, x, h1, h2 => by
    obtain ⟨hc0, hc1⟩ := cf_tail hc
    obtain ⟨a1, a2⟩ := rev_eB n p (by simpa using hl) hc1 x h1 h2
    obtain ⟨b1, b2⟩ := cf_rat hc0
    have hK : (0 : Rat) ≤ (K : Rat) := rat_nat (Nat.zero_le _)
    obtain ⟨f1, f2⟩ := qg_le h1 h2 a1 a2 hK
    have e : ((eB K C (n + 1) : Nat) : Rat) = (C : Rat) + (K : Rat) * (eB K C n : Rat) := by show ((C + K * eB K C n : Nat) : Rat) = _; push_cast; rfl
    rw [e, show rev (c :: p) x = (c : Rat) + x * rev p x from rfl]
    constructor <;> grind
theorem rev_eL {K C : Nat} : ∀ (n : Nat) (p : List Int), p.length ≤ n → (∀ i, (cf p i).natAbs ≤ C) → Lip (-(K : Rat)) (K : Rat) (eL K C n : Rat) (rev p)
  | n, [], _, _, x, y, _, hxy, _ => by
    have h : (0 : Rat) ≤ (eL K C n : Rat) := rat_nat (Nat.zero_le _)
    have := Rat.mul_nonneg (a := (eL K C n : Rat)) (b := y - x) h (by grind)
    show (0 : Rat) - 0 ≤ _ ∧ (0 : Rat) - 0 ≤ _
    constructor <;> grind
  | 0, c :: p, hl, _, _, _, _, _, _ => absurd hl (by simp)
  | n + 1, c :: p, hl, hc, x, y, h1, hxy, h2 => by
    obtain ⟨hc0, hc1⟩ := cf_tail hc
    obtain ⟨a1, a2⟩ := rev_eL n p (by simpa using hl) hc1 x y h1 hxy h2
    obtain ⟨b1, b2⟩ := rev_eB n p (by simpa using hl) hc1 y (by grind) h2
    have hK : (0 : Rat) ≤ (K : Rat) := rat_nat (Nat.zero_le _)
    obtain ⟨f1, f2⟩ := qg_le (q := x) (g := rev p x - rev p y) (e := (eL K C n : Rat) * (y - x)) h1 (by grind) (by grind) (by grind) hK
    have g1 := Rat.mul_nonneg (a := (eB K C n : Rat) - rev p y) (b := y - x) (by grind) (by grind)
    have g2 := Rat.mul_nonneg (a := (eB K C n : Rat) + rev p y) (b := y - x) (by grind) (by grind)
    have e : ((eL K C (n + 1) : Nat) : Rat) = (K : Rat) * (eL K C n : Rat) + (eB K C n : Rat) := by show ((K * eL K C n + eB K C n : Nat) : Rat) = _; push_cast; rfl
    rw [e, show rev (c :: p) x = (c : Rat) + x * rev p x from rfl, show rev (c :: p) y = (c : Rat) + y * rev p y from rfl]
    constructor <;> grind
theorem rev_eM {K C : Nat} : ∀ (n : Nat) (p : List Int), p.length ≤ n → (∀ i, (cf p i).natAbs ≤ C) → Tay (-(K : Rat)) (K : Rat) (eM K C n : Rat) p
  | n, [], _, _, x, y, _, hxy, _ => by
    have h : (0 : Rat) ≤ (eM K C n : Rat) := rat_nat (Nat.zero_le _)
    have h1 := Rat.mul_nonneg (a := y - x) (b := y - x) (by grind) (by grind)
    have := Rat.mul_nonneg h h1
    show -((eM K C n : Rat) * (y - x) * (y - x)) ≤ (0 : Rat) - 0 - (y - x) * 0 ∧ (0 : Rat) - 0 - (y - x) * 0 ≤ (eM K C n : Rat) * (y - x) * (y - x)
    constructor <;> grind
  | 0, c :: p, hl, _, _, _, _, _, _ => absurd hl (by simp)
  | n + 1, c :: p, hl, hc, x, y, hs, hxy, ht => by
    obtain ⟨hc0, hc1⟩ := cf_tail hc
    obtain ⟨a1, a2⟩ := rev_eM n p (by simpa using hl) hc1 x y hs hxy ht
    obtain ⟨b1, b2⟩ := rev_eL n p (by simpa using hl) hc1 x y hs hxy ht
    have hK : (0 : Rat) ≤ (K : Rat) := rat_nat (Nat.zero_le _)
    have hd : 0 ≤ y - x := by grind
    obtain ⟨f1, f2⟩ := qg_le (q := x) (Q := (K : Rat)) (g := rev p y - rev p x - (y - x) * rev (ld p) x) (e := (eM K C n : Rat) * (y - x) * (y - x)) hs (by grind) a1 a2 hK
    have g1 := Rat.mul_nonneg (a := y - x) (b := (eL K C n : Rat) * (y - x) - (rev p y - rev p x)) hd (by grind)
    have g2 := Rat.mul_nonneg (a := y - x) (b := (eL K C n : Rat) * (y - x) + (rev p y - rev p x)) hd (by grind)
    have e : ((eM K C (n + 1) : Nat) : Rat) = (eL K C n : Rat) + (K : Rat) * (eM K C n : Rat) := by show ((eL K C n + K * eM K C n : Nat) : Rat) = _; push_cast; rfl
    rw [e, rd_cons, show rev (c :: p) y = (c : Rat) + y * rev p y from rfl, show rev (c :: p) x = (c : Rat) + x * rev p x from rfl]
    constructor <;> grind
theorem cop_siegel {a b : List Int} {A : Nat} (ha : Tr a) (hb : Tr b) (la : 2 ≤ a.length) (lb : b.length + 1 = a.length) (hA : 0 < A) (na : ∀ i, (cf a i).natAbs ≤ A) (nb : ∀ i, (cf b i).natAbs ≤ A) (hc : ∀ q, Tr q → Ed q a → Ed q b → q.length ≤ 1) :
    ∃ (U V : List Int) (c : Int), c ≠ 0 ∧ U.length + 2 = a.length ∧ V.length + 1 = a.length ∧ (∀ i, (cf U i).natAbs ≤ (2 * (2 * a.length - 3) * A) ^ (2 * a.length - 4)) ∧ (∀ i, (cf V i).natAbs ≤ (2 * (2 * a.length - 3) * A) ^ (2 * a.length - 4)) ∧
      ∀ x, (c : Rat) = rev U x * rev a x + rev V x * rev b x := by
  obtain ⟨U, V, lU, lV, hne, bU, bV, hz⟩ := siegel_poly (a := a) (b := b) (p := a.length - 2) (q := a.length - 1) (lo := 1) hA na nb (by omega) (by omega) (by omega)
  have hne2 : ¬ (tzl U = [] ∧ tzl V = []) := fun ⟨h1, h2⟩ => by
    rcases hne with ⟨i, hi⟩ | ⟨i, hi⟩
    · exact hi ((tzl_nil_iff U).1 h1 i)
    · exact hi ((tzl_nil_iff V).1 h2 i)
  clear hne
  rw [show a.length - 2 + (a.length - 1) = 2 * a.length - 3 by omega] at bU bV
  rw [show 2 * a.length - 3 - 1 = 2 * a.length - 4 by omega] at bU bV
  have ha0 : a ≠ [] := fun e => by rw [e] at la; simp at la
  have cR : ∀ i, cf (ladd (lmul U a) (lmul V b)) i = (ps U * ps a).c i + (ps V * ps b).c i := fun i => by
    rw [cf_ladd, cf_lmul, cf_lmul, PS.mul_c, PS.mul_c]; rfl
  have rR : ∀ t, rev (ladd (lmul U a) (lmul V b)) t = rev U t * rev a t + rev V t * rev b t := fun t => by rw [rev_ladd, rev_lmul, rev_lmul]
  generalize ladd (lmul U a) (lmul V b) = R at cR rR
  have hR : ∀ t, rev R t = (cf R 0 : Rat) := fun t => by
    rw [← rev_one (cf R 0) t]
    refine rev_ext t _ _ fun i => ?_
    match i with
    | 0 => rfl
    | i + 1 => rw [cR, hz (i + 1) (by omega), cf_ge (by simp)]
  refine ⟨U, V, cf R 0, fun h0 => ?_, by omega, by omega, bU, bV, fun x => by rw [← rR, hR]⟩
  have hz0 : ∀ t, rev U t * rev a t + rev V t * rev b t = 0 := fun t => by rw [← rR, hR, h0]; rfl
  obtain ⟨g, P, Q, g1, g2, g3, g4⟩ := bezout _ a b ha hb (Nat.le_refl _)
  have hl := hc g g1 g2 g3
  have hg := (g2.len g1 ha ha0).1
  have hV : tzl V = [] := by
    refine Classical.byContradiction fun hV => ?_
    match g, hg, hl, g1, g4 with
    | [c], _, _, g1, g4 =>
      have hc0 : c ≠ 0 := g1.mem (by simp)
      have hd : Ed a (tzl V) := ⟨c, ladd (lmul P V) ((lmul Q U).map fun z => (-1) * z), hc0, fun x => by
        have h4 := g4 x
        rw [rev_one] at h4
        rw [rev_tzl, rev_ladd, rev_smul, rev_lmul, rev_lmul, h4]
        have := hz0 x
        have e : rev V x * rev b x = - (rev U x * rev a x) := by grind
        have : (rev P x * rev a x + rev Q x * rev b x) * rev V x = rev P x * rev V x * rev a x + rev Q x * (rev V x * rev b x) := by grind
        rw [this, e]; push_cast; grind⟩
      have := (hd.len ha (tr_tzl V) hV).2
      have := tzl_le V
      omega
    | c :: d :: r, _, h9, _, _ => simp at h9
  have hU : tzl U = [] := by
    refine Classical.byContradiction fun hU => ?_
    have : ∀ t, rev a t = 0 := mul_zero_rev (v := U) hU fun t => by
      have := hz0 t
      rw [rev_nonzero hV] at this
      grind
    exact ha.mem ha0 (rev_cf0 this _)
  exact hne2 ⟨hU, hV⟩
end Go.Sky
namespace Go.Sky
set_option linter.unusedVariables false
def sepOK (K A n e : Nat) : Bool :=
  let X := (2 * (2 * n - 3) * A) ^ (2 * n - 4)
  let W := eB K X (n - 1)
  Nat.ble (2 * (2 * W + 1) * (2 * eL K A n)) (2 ^ e) && Nat.ble (2 * (2 * W + 1) * eM K A n) (2 ^ e)
theorem big_or {a b : List Int} {K A n e : Nat} (hK : 0 < K) (hA : 0 < A) (ha : Tr a) (hb : Tr b) (hn : a.length = n) (h2 : 2 ≤ n) (lb : b.length + 1 = a.length) (na : ∀ i, (cf a i).natAbs ≤ A) (nb : ∀ i, (cf b i).natAbs ≤ A) (hc : ∀ q, Tr q → Ed q a → Ed q b → q.length ≤ 1)
    (x : Rat) (h1 : -(K : Rat) ≤ x) (h3 : x ≤ (K : Rat)) : Big (1 / ((2 * eB K ((2 * (2 * n - 3) * A) ^ (2 * n - 4)) (n - 1) + 1 : Nat) : Rat)) x (rev a) ∨ Big (1 / ((2 * eB K ((2 * (2 * n - 3) * A) ^ (2 * n - 4)) (n - 1) + 1 : Nat) : Rat)) x (rev b) := by
  obtain ⟨U, V, c, c0, lU, lV, bU, bV, hid⟩ := cop_siegel ha hb (by omega) lb hA na nb hc
  rw [hn] at bU bV
  generalize (2 * (2 * n - 3) * A) ^ (2 * n - 4) = X at *
  obtain ⟨u1, u2⟩ := rev_eB (n - 1) U (by omega) bU x h1 h3
  obtain ⟨v1, v2⟩ := rev_eB (n - 1) V (by omega) bV x h1 h3
  generalize eB K X (n - 1) = W at *
  have hW : (0 : Rat) ≤ (W : Rat) := rat_nat (Nat.zero_le _)
  have hD : (0 : Rat) < ((2 * W + 1 : Nat) : Rat) := by have : (((0 : Nat)) : Rat) < ((2 * W + 1 : Nat) : Rat) := by exact_mod_cast Nat.succ_pos _
                                                        exact this
  have hDe : ((2 * W + 1 : Nat) : Rat) = 2 * (W : Rat) + 1 := by push_cast; rfl
  generalize hε : 1 / ((2 * W + 1 : Nat) : Rat) = ε
  have hε2 : ε * (2 * (W : Rat) + 1) = 1 := by rw [← hε, hDe]; rw [hDe] at hD; grind
  have hε0 : 0 ≤ ε := by
    rw [← hε]
    have := Rat.inv_pos.2 hD
    rw [Rat.div_def]; grind
  by_cases p1 : Big ε x (rev a)
  · exact .inl p1
  · by_cases p2 : Big ε x (rev b)
    · exact .inr p2
    · exfalso
      obtain ⟨a1, a2⟩ := not_big p1
      obtain ⟨b1, b2⟩ := not_big p2
      obtain ⟨q1, q2⟩ := qg_le u1 u2 a1 a2 hW
      obtain ⟨r1, r2⟩ := qg_le v1 v2 b1 b2 hW
      have h4 := hid x
      have h5 : (c : Rat) ≤ -1 ∨ 1 ≤ (c : Rat) := by
        rcases Int.lt_or_gt_of_ne c0 with h | h
        · left; have : ((c : Int) : Rat) ≤ ((-1 : Int) : Rat) := by exact_mod_cast (show c ≤ -1 by omega)
          rwa [show (((-1 : Int)) : Rat) = -1 from rfl] at this
        · right; have : 1 ≤ c := by omega
          exact_mod_cast this
      have hεp : 0 < ε := by
        rcases (show ε = 0 ∨ 0 < ε by grind) with h | h
        · rw [h] at hε2; grind
        · exact h
      rcases h5 with h5 | h5 <;> grind
theorem two_pow_pos (e : Nat) : (0 : Rat) < ((2 ^ e : Nat) : Rat) := by
  have : 0 < 2 ^ e := Nat.pow_pos (by decide)
  exact_mod_cast this
theorem chn_sep {xs : List Int} {F K A n e : Nat} (hx : Tr xs) (h0 : xs ≠ []) (hC : chOK F xs) (hK : 0 < K) (hA : 0 < A) (hn : (sqf F xs).length = n) (h2 : 2 ≤ n) (na : ∀ i, (cf (sqf F xs) i).natAbs ≤ A) (nb : ∀ i, (cf (pder (sqf F xs)) i).natAbs ≤ A) (hs : sepOK K A n e = true)
    {u v : Rat} (h1 : -(K : Rat) ≤ u) (huv : u ≤ v) (h3 : v ≤ (K : Rat)) (hh : v - u ≤ 1 / ((2 ^ e : Nat) : Rat)) :
    vat ((chn F xs).map rev) u - vat ((chn F xs).map rev) v = crs (rev (sqf F xs)) u v := by
  have hok := hC.1.2.2.1
  obtain ⟨f1, f2, f3, f4, f5, f6⟩ := sqf_fac (F := F) hx h0 hok
  have htp := tr_pder f2
  have hlp := len_pder' (sqf F xs)
  have hd : pder (sqf F xs) ≠ [] := fun e => by rw [e] at hlp; simp at hlp; omega
  have hpc : 1 ≤ pcont (pder (sqf F xs)) := by
    have h1 := pcont_ne htp hd
    have h2 := pcont_nonneg (pder (sqf F xs))
    omega
  have hpc' : (1 : Rat) ≤ (pcont (pder (sqf F xs)) : Rat) := by exact_mod_cast hpc
  have nbp : ∀ i, (cf (pprim (pder (sqf F xs))) i).natAbs ≤ A := fun i => by
    have h5 := pprim_mul (pder (sqf F xs)) i
    have h6 := nb i
    rw [← h5, Int.natAbs_mul] at h6
    have : (cf (pprim (pder (sqf F xs))) i).natAbs * 1 ≤ (cf (pprim (pder (sqf F xs))) i).natAbs * (pcont (pder (sqf F xs))).natAbs := Nat.mul_le_mul_left _ (by omega)
    omega
  have hcop : ∀ q, Tr q → Ed q (sqf F xs) → Ed q (pprim (pder (sqf F xs))) → q.length ≤ 1 := fun q hq a b => sqf_cop hx h0 hok hq a (b.sim (sim_pprim htp))
  have hlb : (pprim (pder (sqf F xs))).length + 1 = (sqf F xs).length := by rw [length_pprim]; omega
  have hbig := big_or (e := e) hK hA f2 (tr_pprim htp) hn h2 hlb na nbp hcop
  unfold sepOK at hs
  simp only [Bool.and_eq_true, Nat.ble_eq] at hs
  obtain ⟨s1, s2⟩ := hs
  generalize (2 * (2 * n - 3) * A) ^ (2 * n - 4) = X at *
  generalize eB K X (n - 1) = W at *
  have hD : (0 : Rat) < ((2 * W + 1 : Nat) : Rat) := by have : (((0 : Nat)) : Rat) < ((2 * W + 1 : Nat) : Rat) := by exact_mod_cast Nat.succ_pos _
                                                        exact this
  have hP := two_pow_pos e
  have s1' := rat_nat s1
  have s2' := rat_nat s2
  have c1 : ((2 * (2 * W + 1) * (2 * eL K A n) : Nat) : Rat) = 2 * ((2 * W + 1 : Nat) : Rat) * (2 * (eL K A n : Rat)) := by push_cast; rfl
  have c2 : ((2 * (2 * W + 1) * eM K A n : Nat) : Rat) = 2 * ((2 * W + 1 : Nat) : Rat) * (eM K A n : Rat) := by push_cast; rfl
  rw [c1] at s1'
  rw [c2] at s2'
  have hi := Rat.inv_pos.2 hD
  have hj := Rat.inv_pos.2 hP
  have hii : ((2 * W + 1 : Nat) : Rat) * ((2 * W + 1 : Nat) : Rat)⁻¹ = 1 := by grind
  have hjj : ((2 ^ e : Nat) : Rat) * ((2 ^ e : Nat) : Rat)⁻¹ = 1 := by grind
  rw [Rat.div_def, Rat.one_mul] at hh
  simp only [Rat.div_def, Rat.one_mul] at hbig
  generalize ((2 * W + 1 : Nat) : Rat) = D at *
  generalize ((2 ^ e : Nat) : Rat) = P at *
  have hLn : (0 : Rat) ≤ (eL K A n : Rat) := rat_nat (Nat.zero_le _)
  have hMn : (0 : Rat) ≤ (eM K A n : Rat) := rat_nat (Nat.zero_le _)
  refine sturm_step0 (s := -(K : Rat)) (t := (K : Rat)) (κ := (pcont (pder (sqf F xs)) : Rat)) (ε := D⁻¹) (L := (eL K A n : Rat)) (L' := (eL K A n : Rat)) (M := (eM K A n : Rat)) (h := P⁻¹) f2 (tr_pprim htp) hC.2.2 (by grind) (fun x => ?_) hi hbig hLn (rev_eL n _ (by omega) na) hLn (rev_eL n _ (by omega) nbp) hMn (rev_eM n _ (by omega) na) hj ?_ ?_ h1 huv h3 hh
  · rw [← rd_pder, ← rev_smul]
    exact rev_ext x _ _ fun i => by rw [cf_smul, Int.mul_comm, pprim_mul]
  · -- P⁻¹ * (2 L) ≤ D⁻¹ / 2
    have t1 := Rat.mul_nonneg (a := P⁻¹ * D⁻¹) (b := P - 2 * D * (2 * (eL K A n : Rat))) (by have := Rat.mul_pos hj hi; grind) (by grind)
    have e1 : P⁻¹ * D⁻¹ * (P - 2 * D * (2 * (eL K A n : Rat))) = D⁻¹ * (P * P⁻¹) - 2 * P⁻¹ * (D * D⁻¹) * (2 * (eL K A n : Rat)) := by grind
    rw [e1, hii, hjj] at t1
    grind
  · have t1 := Rat.mul_nonneg (a := P⁻¹ * D⁻¹) (b := P - 2 * D * (eM K A n : Rat)) (by have := Rat.mul_pos hj hi; grind) (by grind)
    have e1 : P⁻¹ * D⁻¹ * (P - 2 * D * (eM K A n : Rat)) = D⁻¹ * (P * P⁻¹) - 2 * P⁻¹ * (D * D⁻¹) * (eM K A n : Rat) := by grind
    rw [e1, hii, hjj] at t1
    have t2 := Rat.mul_nonneg (a := (pcont (pder (sqf F xs)) : Rat) - 1) (b := D⁻¹) (by grind) (by grind)
    grind
theorem chn_mono {xs : List Int} {F : Nat} (hx : Tr xs) (h0 : xs ≠ []) (hC : chOK F xs) {s t : Rat} (hst : s ≤ t) : vat ((chn F xs).map rev) t ≤ vat ((chn F xs).map rev) s := by
  obtain ⟨h, h1, h2⟩ := chn_step hx h0 hC s t
  have hc : ∀ f u v, 0 ≤ crs f u v := fun f u v => by unfold crs; split <;> decide
  have key : ∀ n : Nat, ∀ y, s ≤ y → y ≤ t → y - s ≤ (n : Rat) * h → vat ((chn F xs).map rev) y ≤ vat ((chn F xs).map rev) s := fun n => by
    induction n with
    | zero => intro y h3 h4 h5; have : y = s := by simp at h5; grind
              rw [this]; exact Int.le_refl _
    | succ n ih =>
      intro y h3 h4 h5
      have h6 : ((n + 1 : Nat) : Rat) * h = (n : Rat) * h + h := by push_cast; grind
      rcases (show y - s ≤ (n : Rat) * h ∨ (n : Rat) * h < y - s by grind) with h7 | h7
      · exact ih y h3 h4 h7
      · have h8 : (0 : Rat) ≤ (n : Rat) * h := Rat.mul_nonneg (by exact_mod_cast Nat.zero_le n) (by grind)
        rcases (show s ≤ y - h ∨ y - h < s by grind) with h9 | h9
        · have a := ih (y - h) h9 (by grind) (by grind)
          have b := h2 (y - h) y h9 (by grind) h4 (by grind)
          have c := hc (rev (sqf F xs)) (y - h) y
          omega
        · have b := h2 s y (by grind) h3 h4 (by grind)
          have c := hc (rev (sqf F xs)) s y
          omega
  have h3 : ∃ n : Nat, t - s ≤ (n : Rat) * h := by
    have h4 : 0 < h⁻¹ := Rat.inv_pos.2 h1
    refine ⟨((t - s) * h⁻¹).ceil.toNat, ?_⟩
    have h5 := @Rat.le_ceil ((t - s) * h⁻¹)
    have h6 : ((((t - s) * h⁻¹).ceil : Int) : Rat) ≤ ((((t - s) * h⁻¹).ceil.toNat : Nat) : Rat) := by
      have : ((t - s) * h⁻¹).ceil ≤ ((((t - s) * h⁻¹).ceil.toNat : Nat) : Int) := Int.self_le_toNat _
      exact_mod_cast this
    have h7 := Rat.mul_le_mul_of_nonneg_right (Rat.le_trans h5 h6) (show 0 ≤ h by grind)
    have h8 : (t - s) * h⁻¹ * h = t - s := by grind
    grind
  obtain ⟨n, hn⟩ := h3
  exact key n t hst (by grind) hn
end Go.Sky
namespace Go.Sky
set_option linter.unusedVariables false
def qv (z : R2) : Rat := (z.1 : Rat) / (z.2 : Rat)
theorem coprime_rep {x y X Y g : Nat} (hg : g = Nat.gcd x y) (hy : 0 < y) (hY : 0 < Y) (h : x * Y = X * y) : y / g ∣ Y ∧ x / g ≤ X := by
  have hg0 : 0 < g := by rw [hg]; exact Nat.gcd_pos_of_pos_right _ hy
  have hc : Nat.Coprime (x / g) (y / g) := by rw [hg]; exact Nat.coprime_div_gcd_div_gcd (by rw [← hg]; exact hg0)
  have hx' : x / g * g = x := Nat.div_mul_cancel (by rw [hg]; exact Nat.gcd_dvd_left _ _)
  have hy' : y / g * g = y := Nat.div_mul_cancel (by rw [hg]; exact Nat.gcd_dvd_right _ _)
  have h2 : x / g * Y = X * (y / g) := by
    refine Nat.eq_of_mul_eq_mul_right hg0 ?_
    have e1 : x / g * Y * g = x / g * g * Y := by grind
    have e2 : X * (y / g) * g = X * (y / g * g) := by grind
    rw [e1, e2, hx', hy', h]
  have hd : y / g ∣ Y := hc.symm.dvd_of_dvd_mul_left (by rw [h2]; exact Nat.dvd_mul_left _ _)
  refine ⟨hd, ?_⟩
  obtain ⟨k, hk⟩ := hd
  have hk0 : 0 < k := Nat.pos_of_ne_zero fun e => by rw [e, Nat.mul_zero] at hk; omega
  have hyg : 0 < y / g := Nat.pos_of_ne_zero fun e => by rw [e, Nat.zero_mul] at hy'; omega
  rw [hk] at h2
  have h3 : x / g * k = X := by
    refine Nat.eq_of_mul_eq_mul_right hyg ?_
    have : x / g * k * (y / g) = x / g * (y / g * k) := by grind
    rw [this, h2]
  rw [← h3]
  exact Nat.le_mul_of_pos_right _ hk0
theorem low_rep {x y X Y : Int} (hy : 0 < y) (hY : 0 < Y) (h : x * Y = X * y) {B : Nat} (hX : bl X.natAbs ≤ B) (hYb : bl Y.natAbs ≤ B) (hB : B ≤ 65536) :
    ¬ rfull x y ∧ rden x y ∣ Y ∧ 0 < rden x y ∧ bl (rnum x y).natAbs ≤ B ∧ bl (rden x y).natAbs ≤ B ∧ rnum x y * y = x * rden x y := by
  have hg : lgcd x y = (Nat.gcd x.natAbs y.natAbs : Int) := by rw [lgcd_ge (by omega)]; rfl
  have hn : x.natAbs * Y.natAbs = X.natAbs * y.natAbs := by rw [← Int.natAbs_mul, ← Int.natAbs_mul, h]
  obtain ⟨d1, d2⟩ := coprime_rep (g := Nat.gcd x.natAbs y.natAbs) rfl (by omega : 0 < y.natAbs) (by omega : 0 < Y.natAbs) hn
  have e1 : (y / lgcd x y).natAbs = y.natAbs / Nat.gcd x.natAbs y.natAbs := by
    rw [Int.natAbs_ediv_of_dvd (lgcd_dv2 x y), lgcd_abs]
  have e2 : (x / lgcd x y).natAbs = x.natAbs / Nat.gcd x.natAbs y.natAbs := by
    rw [Int.natAbs_ediv_of_dvd (lgcd_dv1 x y), lgcd_abs]
  have b1 : bl (y / lgcd x y).natAbs ≤ B := Nat.le_trans (bl_mono (by rw [e1]; exact Nat.le_of_dvd (by omega) d1)) hYb
  have b2 : bl (x / lgcd x y).natAbs ≤ B := Nat.le_trans (bl_mono (by rw [e2]; exact d2)) hX
  have hf : ¬ rfull x y := fun h => by unfold rfull at h; omega
  obtain ⟨n1, n2, -⟩ := nr_num hf
  refine ⟨hf, ?_, nr_pos hf hy, by rw [n1]; exact b2, by rw [n2]; exact b1, ?_⟩
  · rw [n2]
    refine Int.natAbs_dvd_natAbs.1 ?_
    rw [e1]; exact d1
  · rw [n1, n2]; exact lgcd_rel x y
structure En (K Q : Nat) (d : Nat) (z : R2) : Prop where
  pos : 0 < z.2
  dv : z.2 ∣ ((Q * 2 ^ d : Nat) : Int)
  lo : -(K : Rat) ≤ qv z
  hi : qv z ≤ (K : Rat)
theorem En.up {K Q d : Nat} {z : R2} (h : En K Q d z) : En K Q (d + 1) z := by
  obtain ⟨h1, h2, h3, h4⟩ := h
  refine ⟨h1, ?_, h3, h4⟩
  have : ((Q * 2 ^ (d + 1) : Nat) : Int) = ((Q * 2 ^ d : Nat) : Int) * 2 := by rw [Nat.pow_succ]; push_cast; grind
  rw [this]; exact Int.dvd_trans h2 (Int.dvd_mul_right _ _)
theorem canc {N p s Y X D : Int} (hp : p ≠ 0) (h1 : N * p = s * D) (h2 : s * Y = X * p) : N * Y = X * D := by
  refine Int.eq_of_mul_eq_mul_right hp ?_
  have e1 : N * Y * p = (N * p) * Y := by grind
  have e2 : X * D * p = (X * p) * D := by grind
  rw [e1, e2, h1, ← h2]; grind
theorem rat_pos {z : Int} (h : 0 < z) : (0 : Rat) < (z : Rat) := by exact_mod_cast h
theorem bl_le_of {n m : Nat} (h : n < 2 ^ m) : bl n ≤ m := (bl_le m n).2 h
theorem mid_en {K Q d B : Nat} {a b : R2} (ha : En K Q d a) (hb : En K Q d b) (hQ : 0 < Q) (hB1 : Q * 2 ^ (d + 1) < 2 ^ B) (hB2 : 2 * K * (Q * 2 ^ d) < 2 ^ B) (hB : B ≤ 65536) :
    midOK a b ∧ En K Q (d + 1) (smid a b) ∧ qv (smid a b) = (qv a + qv b) / 2 ∧ bl (smid a b).1.natAbs ≤ B ∧ bl (smid a b).2.natAbs ≤ B := by
  obtain ⟨pa, ⟨ka, da⟩, la, ua⟩ := ha
  obtain ⟨pb, ⟨kb, db⟩, lb, ub⟩ := hb
  generalize hY : ((Q * 2 ^ d : Nat) : Int) = Y at *
  have hQd : 0 < Q * 2 ^ d := Nat.mul_pos hQ (Nat.pow_pos (by decide))
  have hY0 : 0 < Y := by rw [← hY]; exact_mod_cast hQd
  have rpa := rat_pos pa
  have rpb := rat_pos pb
  have rY := rat_pos hY0
  have hpp : 0 < a.2 * b.2 := Int.mul_pos pa pb
  have hsum : (a.1 * b.2 + b.1 * a.2) * Y = (a.1 * ka + b.1 * kb) * (a.2 * b.2) := by
    have e1 : (a.1 * ka + b.1 * kb) * (a.2 * b.2) = a.1 * b.2 * (a.2 * ka) + b.1 * a.2 * (b.2 * kb) := by grind
    rw [e1, ← da, ← db]; grind
  have hqa : (a.1 : Rat) * ka = qv a * Y := by
    unfold qv; have : (Y : Rat) = (a.2 : Rat) * ka := by rw [da]; push_cast; rfl
    rw [this]; grind
  have hqb : (b.1 : Rat) * kb = qv b * Y := by
    unfold qv; have : (Y : Rat) = (b.2 : Rat) * kb := by rw [db]; push_cast; rfl
    rw [this]; grind
  have hX : ((a.1 * ka + b.1 * kb : Int) : Rat) = (qv a + qv b) * Y := by push_cast; rw [hqa, hqb]; grind
  have hXb : (a.1 * ka + b.1 * kb).natAbs ≤ 2 * K * (Q * 2 ^ d) := by
    have hKn : ((2 * K * (Q * 2 ^ d) : Nat) : Rat) = 2 * (K : Rat) * (Y : Rat) := by rw [← hY]; push_cast; grind
    have t1 := Rat.mul_nonneg (a := 2 * (K : Rat) - (qv a + qv b)) (b := (Y : Rat)) (by grind) (by grind)
    have t2 := Rat.mul_nonneg (a := 2 * (K : Rat) + (qv a + qv b)) (b := (Y : Rat)) (by grind) (by grind)
    have u1 : ((a.1 * ka + b.1 * kb : Int) : Rat) ≤ (((2 * K * (Q * 2 ^ d) : Nat) : Int) : Rat) := by rw [hX]; push_cast at hKn ⊢; grind
    have u2 : ((-((2 * K * (Q * 2 ^ d) : Nat) : Int) : Int) : Rat) ≤ ((a.1 * ka + b.1 * kb : Int) : Rat) := by rw [hX]; push_cast at hKn ⊢; grind
    have v1 : a.1 * ka + b.1 * kb ≤ ((2 * K * (Q * 2 ^ d) : Nat) : Int) := by exact_mod_cast u1
    have v2 : -((2 * K * (Q * 2 ^ d) : Nat) : Int) ≤ a.1 * ka + b.1 * kb := by exact_mod_cast u2
    omega
  have hYb : Y.natAbs = Q * 2 ^ d := by rw [← hY]; rfl
  have hB3 : Q * 2 ^ (d + 1) = 2 * (Q * 2 ^ d) := by rw [Nat.pow_succ]; grind
  have hbY : bl Y.natAbs ≤ B := bl_le_of (by rw [hYb]; omega)
  have hbX : bl (a.1 * ka + b.1 * kb).natAbs ≤ B := bl_le_of (by omega)
  obtain ⟨f1, f2, f3, f4, f5, f6⟩ := low_rep hpp hY0 hsum hbX hbY hB
  have hv1 := canc (Int.ne_of_gt hpp) f6 hsum
  have hbY2 : bl (2 * Y).natAbs ≤ B := bl_le_of (by rw [Int.natAbs_mul, hYb]; show 2 * (Q * 2 ^ d) < _; omega)
  have hs2 : rnum (a.1 * b.2 + b.1 * a.2) (a.2 * b.2) * 1 * (2 * Y) = (a.1 * ka + b.1 * kb) * (rden (a.1 * b.2 + b.1 * a.2) (a.2 * b.2) * 2) := by
    rw [Int.mul_one]
    have e1 : rnum (a.1 * b.2 + b.1 * a.2) (a.2 * b.2) * (2 * Y) = 2 * (rnum (a.1 * b.2 + b.1 * a.2) (a.2 * b.2) * Y) := by grind
    rw [e1, hv1]; grind
  have hp2 : 0 < rden (a.1 * b.2 + b.1 * a.2) (a.2 * b.2) * 2 := by omega
  obtain ⟨g1, g2, g3, g4, g5, g6⟩ := low_rep hp2 (by omega : 0 < 2 * Y) hs2 hbX hbY2 hB
  have hv2 := canc (Int.ne_of_gt hp2) g6 hs2
  have hm1 : (smid a b).1 = rnum (rnum (a.1 * b.2 + b.1 * a.2) (a.2 * b.2) * 1) (rden (a.1 * b.2 + b.1 * a.2) (a.2 * b.2) * 2) := rfl
  have hm2 : (smid a b).2 = rden (rnum (a.1 * b.2 + b.1 * a.2) (a.2 * b.2) * 1) (rden (a.1 * b.2 + b.1 * a.2) (a.2 * b.2) * 2) := rfl
  rw [← hm1, ← hm2] at hv2
  rw [← hm2] at g2 g3 g5
  rw [← hm1] at g4
  have hq : qv (smid a b) = (qv a + qv b) / 2 := by
    have h1 : (((smid a b).1 : Int) : Rat) * (2 * (Y : Rat)) = ((a.1 * ka + b.1 * kb : Int) : Rat) * (((smid a b).2 : Int) : Rat) := by
      have : (((smid a b).1 * (2 * Y) : Int) : Rat) = (((a.1 * ka + b.1 * kb) * (smid a b).2 : Int) : Rat) := by rw [hv2]
      push_cast at this ⊢; grind
    rw [hX] at h1
    have rd := rat_pos g3
    unfold qv at *
    generalize (((smid a b).1 : Int) : Rat) = n at *
    generalize (((smid a b).2 : Int) : Rat) = m at *
    generalize (a.1 : Rat) / (a.2 : Rat) = p at *
    generalize (b.1 : Rat) / (b.2 : Rat) = q at *
    generalize (Y : Rat) = y at *
    grind
  refine ⟨⟨f1, g1⟩, ⟨g3, ?_, by rw [hq]; grind, by rw [hq]; grind⟩, hq, g4, g5⟩
  have e : ((Q * 2 ^ (d + 1) : Nat) : Int) = 2 * Y := by rw [hB3, ← hY]; push_cast; rfl
  rw [e]; exact g2
end Go.Sky
namespace Go.Sky
set_option linter.unusedVariables false
def vch (F : Nat) (xs : List Int) (x : Rat) : Int := vat ((chn F xs).map rev) x
theorem cvc_v {F : Nat} {xs : List Int} {z : R2} (h : 0 < z.2) : cvc F xs z = vch F xs (qv z) := cnt_vat h
def Sqn (P : R2 → R2 → Prop) (hi : Rat) : Rat → List (R2 × R2) → Prop
  | lo, [] => lo ≤ hi
  | lo, c :: r => lo ≤ qv c.1 ∧ qv c.1 < qv c.2 ∧ P c.1 c.2 ∧ Sqn P hi (qv c.2) r
theorem Sqn.low {P : R2 → R2 → Prop} {hi : Rat} {lo lo' : Rat} (h1 : lo' ≤ lo) : ∀ {l : List (R2 × R2)}, Sqn P hi lo l → Sqn P hi lo' l
  | [], h => by have h : lo ≤ hi := h; show lo' ≤ hi; grind
  | c :: r, h => ⟨by have := h.1; grind, h.2⟩
theorem Sqn.app {P : R2 → R2 → Prop} {mid hi : Rat} {l2 : List (R2 × R2)} (h2 : Sqn P hi mid l2) : ∀ {lo : Rat} {l1 : List (R2 × R2)}, Sqn P mid lo l1 → Sqn P hi lo (l1 ++ l2)
  | lo, [], h => h2.low h
  | lo, c :: r, h => ⟨h.1, h.2.1, h.2.2.1, Sqn.app h2 h.2.2.2⟩
theorem isp_all {xs : List Int} {F K Q e w B : Nat} {hq : Int} (hx : Tr xs) (h0 : xs ≠ []) (hC : chOK F xs) (hQ : 0 < Q)
    (sep : ∀ u v : Rat, -(K : Rat) ≤ u → u ≤ v → v ≤ (K : Rat) → v - u ≤ 1 / ((2 ^ e : Nat) : Rat) → vch F xs u - vch F xs v ≤ 1) (hD : e + w ≤ 1000) (hh : hq ≤ ((e + w : Nat) : Int))
    (hB1 : Q * 2 ^ (e + w) < 2 ^ B) (hB2 : 2 * K * (Q * 2 ^ (e + w)) < 2 ^ B) (hB : B ≤ 65536) (hev : ∀ z : R2, bl z.1.natAbs ≤ B → bl z.2.natAbs ≤ B → evc F xs z) :
    ∀ (f d : Nat) (a b : R2), e + w + 1 ≤ f + d → d ≤ e + w → En K Q d a → En K Q d b → qv a ≤ qv b → (qv b - qv a) * ((2 ^ d : Nat) : Rat) ≤ ((2 ^ w : Nat) : Rat) →
      ispOK (cvc F xs) (evc F xs) hq f a b (vch F xs (qv a)) (vch F xs (qv b)) d ∧ ((isp (cvc F xs) hq f a b (vch F xs (qv a)) (vch F xs (qv b)) d).length : Int) = vch F xs (qv a) - vch F xs (qv b) ∧
      Sqn (fun x y => En K Q (e + w) x ∧ En K Q (e + w) y ∧ vch F xs (qv x) - vch F xs (qv y) = 1) (qv b) (qv a) (isp (cvc F xs) hq f a b (vch F xs (qv a)) (vch F xs (qv b)) d)
  | 0, d, a, b, hf, hd0, ha, hb, hab, hw => by omega
  | f + 1, d, a, b, hf, hd0, ha, hb, hab, hw => by
    have hmono := chn_mono hx h0 hC hab
    have hm : vch F xs (qv b) ≤ vch F xs (qv a) := hmono
    by_cases h1 : vch F xs (qv a) = vch F xs (qv b)
    · have hi : isp (cvc F xs) hq (f + 1) a b (vch F xs (qv a)) (vch F xs (qv b)) d = [] := by unfold isp; rw [if_pos h1]
      rw [hi]
      exact ⟨.inl h1, by simp; omega, hab⟩
    · by_cases h2 : vch F xs (qv a) - vch F xs (qv b) = 1 ∧ hq ≤ (d : Int)
      · have hi : isp (cvc F xs) hq (f + 1) a b (vch F xs (qv a)) (vch F xs (qv b)) d = [(a, b)] := by unfold isp; rw [if_neg h1, if_pos h2]
        rw [hi]
        have hlt : qv a < qv b := by
          rcases (show qv a < qv b ∨ qv a = qv b by grind) with h | h
          · exact h
          · rw [h] at h1; exact absurd rfl h1
        have hup : ∀ z, En K Q d z → d ≤ e + w → En K Q (e + w) z := fun z hz hd => by
          obtain ⟨k, hk⟩ : ∃ k, e + w = d + k := ⟨e + w - d, by omega⟩
          rw [hk]
          clear hk hd
          induction k with
          | zero => exact hz
          | succ k ih => exact ih.up
        exact ⟨.inr (.inl h2), by simp; omega, Rat.le_refl, hlt, ⟨hup a ha hd0, hup b hb hd0, h2.1⟩, Rat.le_refl⟩
      · -- not yet short
        have hP := two_pow_pos d
        have hd : d < e + w := by
          refine Classical.byContradiction fun h9 => h2 ⟨?_, by omega⟩
          obtain ⟨k, hk⟩ : ∃ k, d = e + w + k := ⟨d - (e + w), by omega⟩
          have hpd : ((2 ^ d : Nat) : Rat) = ((2 ^ e : Nat) : Rat) * ((2 ^ w : Nat) : Rat) * ((2 ^ k : Nat) : Rat) := by rw [hk, Nat.pow_add, Nat.pow_add]; push_cast; rfl
          have he := two_pow_pos e
          have hww := two_pow_pos w
          have hk1 : (1 : Rat) ≤ ((2 ^ k : Nat) : Rat) := by
            have : 1 ≤ 2 ^ k := Nat.pow_pos (by decide)
            exact_mod_cast this
          have hs : qv b - qv a ≤ 1 / ((2 ^ e : Nat) : Rat) := by
            rw [hpd] at hw
            rw [Rat.div_def, Rat.one_mul]
            generalize ((2 ^ e : Nat) : Rat) = E at *
            generalize ((2 ^ w : Nat) : Rat) = W at *
            generalize ((2 ^ k : Nat) : Rat) = L at *
            have hWi := Rat.inv_pos.2 hww
            have hEi := Rat.inv_pos.2 he
            have t1 := Rat.mul_nonneg (a := W⁻¹) (b := W - (qv b - qv a) * (E * W * L)) (by grind) (by grind)
            have t2 : W⁻¹ * (W - (qv b - qv a) * (E * W * L)) = (W * W⁻¹) * (1 - (qv b - qv a) * (E * L)) := by grind
            rw [t2, show W * W⁻¹ = 1 by grind] at t1
            have t3 := Rat.mul_nonneg (a := (qv b - qv a) * E) (b := L - 1) (by have := Rat.mul_nonneg (a := qv b - qv a) (b := E) (by grind) (by grind); grind) (by grind)
            have t4 := Rat.mul_nonneg (a := E⁻¹) (b := 1 - (qv b - qv a) * E) (by grind) (by grind)
            have t5 : E⁻¹ * (1 - (qv b - qv a) * E) = E⁻¹ - (qv b - qv a) * (E * E⁻¹) := by grind
            rw [t5, show E * E⁻¹ = 1 by grind] at t4
            grind
          have := sep (qv a) (qv b) ha.lo hab hb.hi hs
          omega
        have hpw : 2 ^ (d + 1) ≤ 2 ^ (e + w) := Nat.pow_le_pow_right (by decide) (by omega)
        have hpw2 : 2 ^ d ≤ 2 ^ (e + w) := Nat.pow_le_pow_right (by decide) (by omega)
        obtain ⟨m1, m2, m3, m4, m5⟩ := mid_en ha hb hQ (Nat.lt_of_le_of_lt (Nat.mul_le_mul_left _ hpw) hB1) (Nat.lt_of_le_of_lt (Nat.mul_le_mul_left _ (Nat.mul_le_mul_left _ hpw2)) hB2) hB
        have hcm : cvc F xs (smid a b) = vch F xs (qv (smid a b)) := cvc_v m2.pos
        have hpd : ((2 ^ (d + 1) : Nat) : Rat) = ((2 ^ d : Nat) : Rat) * 2 := by rw [Nat.pow_succ]; push_cast; rfl
        have i1 := isp_all hx h0 hC hQ sep hD hh hB1 hB2 hB hev f (d + 1) a (smid a b) (by omega) (by omega) ha.up m2 (by rw [m3]; grind) (by rw [m3, hpd]; grind)
        have i2 := isp_all hx h0 hC hQ sep hD hh hB1 hB2 hB hev f (d + 1) (smid a b) b (by omega) (by omega) m2 hb.up (by rw [m3]; grind) (by rw [m3, hpd]; grind)
        have hi : isp (cvc F xs) hq (f + 1) a b (vch F xs (qv a)) (vch F xs (qv b)) d = isp (cvc F xs) hq f a (smid a b) (vch F xs (qv a)) (cvc F xs (smid a b)) (d + 1) ++ isp (cvc F xs) hq f (smid a b) b (cvc F xs (smid a b)) (vch F xs (qv b)) (d + 1) := by
          conv => lhs; unfold isp
          rw [if_neg h1, if_neg h2]
        rw [hi, hcm]
        refine ⟨.inr (.inr ⟨by omega, m1, hev _ m4 m5, ?_, ?_⟩), ?_, Sqn.app i2.2.2 i1.2.2⟩
        · rw [hcm]; exact i1.1
        · rw [hcm]; exact i2.1
        · rw [List.length_append]; push_cast; rw [i1.2.1, i2.2.1]; omega
end Go.Sky
namespace Go.Sky
set_option linter.unusedVariables false
theorem qv_le {a b : R2} (ha : 0 < a.2) (hb : 0 < b.2) (h : ¬ 0 < a.1 * b.2 - b.1 * a.2) : qv a ≤ qv b := by
  have h1 : ((a.1 * b.2 : Int) : Rat) ≤ ((b.1 * a.2 : Int) : Rat) := by exact_mod_cast (show a.1 * b.2 ≤ b.1 * a.2 by omega)
  have ra := rat_pos ha
  have rb := rat_pos hb
  push_cast at h1
  unfold qv
  have hia := Rat.inv_pos.2 ra
  have hib := Rat.inv_pos.2 rb
  rw [Rat.div_def, Rat.div_def]
  generalize (a.1 : Rat) = x at *
  generalize (a.2 : Rat) = y at *
  generalize (b.1 : Rat) = x2 at *
  generalize (b.2 : Rat) = y2 at *
  have t := Rat.mul_nonneg (a := y⁻¹ * y2⁻¹) (b := x2 * y - x * y2) (by have := Rat.mul_pos hia hib; grind) (by grind)
  have e : y⁻¹ * y2⁻¹ * (x2 * y - x * y2) = x2 * y2⁻¹ * (y * y⁻¹) - x * y⁻¹ * (y2 * y2⁻¹) := by grind
  rw [e, show y * y⁻¹ = 1 by grind, show y2 * y2⁻¹ = 1 by grind] at t
  grind
theorem qv_abs {a : R2} {K : Nat} (ha : 0 < a.2) (h : a.1.natAbs ≤ K) : -(K : Rat) ≤ qv a ∧ qv a ≤ (K : Rat) := by
  obtain ⟨c1, c2⟩ := cf_rat h
  have ra : (1 : Rat) ≤ (a.2 : Rat) := by exact_mod_cast (show 1 ≤ a.2 by omega)
  have hK : (0 : Rat) ≤ (K : Rat) := rat_nat (Nat.zero_le _)
  have hi := Rat.inv_pos.2 (show 0 < (a.2 : Rat) by grind)
  have hm : (a.2 : Rat) * (a.2 : Rat)⁻¹ = 1 := by grind
  unfold qv; rw [Rat.div_def]
  have t1 := Rat.mul_nonneg (a := (a.2 : Rat)⁻¹) (b := (K : Rat) * a.2 - a.1) (by grind) (by have := Rat.mul_nonneg (a := (K : Rat)) (b := (a.2 : Rat) - 1) hK (by grind); grind)
  have t2 := Rat.mul_nonneg (a := (a.2 : Rat)⁻¹) (b := (K : Rat) * a.2 + a.1) (by grind) (by have := Rat.mul_nonneg (a := (K : Rat)) (b := (a.2 : Rat) - 1) hK (by grind); grind)
  have e1 : (a.2 : Rat)⁻¹ * ((K : Rat) * a.2 - a.1) = (K : Rat) * (a.2 * (a.2 : Rat)⁻¹) - a.1 * (a.2 : Rat)⁻¹ := by grind
  have e2 : (a.2 : Rat)⁻¹ * ((K : Rat) * a.2 + a.1) = (K : Rat) * (a.2 * (a.2 : Rat)⁻¹) + a.1 * (a.2 : Rat)⁻¹ := by grind
  rw [e1, hm] at t1
  rw [e2, hm] at t2
  constructor <;> grind
theorem slow_all {a : R2} {n : Nat} (ha : 0 < a.2) (h1 : bl a.1.natAbs ≤ n) (h2 : bl a.2.natAbs ≤ n) (hn : n ≤ 65536) :
    ¬ rfull a.1 a.2 ∧ 0 < (slow a).2 ∧ bl (slow a).1.natAbs ≤ n ∧ bl (slow a).2.natAbs ≤ n ∧ qv (slow a) = qv a := by
  obtain ⟨f1, f2, f3, f4, f5, f6⟩ := low_rep (x := a.1) (y := a.2) (X := a.1) (Y := a.2) ha ha rfl h1 h2 hn
  refine ⟨f1, f3, f4, f5, ?_⟩
  have r1 := rat_pos ha
  have r2 := rat_pos f3
  have h6 : ((rnum a.1 a.2 : Int) : Rat) * (a.2 : Rat) = (a.1 : Rat) * ((rden a.1 a.2 : Int) : Rat) := by exact_mod_cast f6
  show ((rnum a.1 a.2 : Int) : Rat) / ((rden a.1 a.2 : Int) : Rat) = (a.1 : Rat) / (a.2 : Rat)
  generalize ((rnum a.1 a.2 : Int) : Rat) = N at *
  generalize ((rden a.1 a.2 : Int) : Rat) = D at *
  generalize (a.1 : Rat) = x at *
  generalize (a.2 : Rat) = y at *
  have : N / D * (D * y) = x / y * (D * y) := by
    have e1 : N / D * (D * y) = N * y := by grind
    have e2 : x / y * (D * y) = x * D := by grind
    rw [e1, e2, h6]
  have hp := Rat.mul_pos r2 r1
  have e3 : N / D = N / D * (D * y) * (D * y)⁻¹ := by grind
  have e4 : x / y = x / y * (D * y) * (D * y)⁻¹ := by grind
  rw [e3, this, ← e4]
theorem iso_all {xs : List Int} {F n e w B : Nat} {hq : Int} {a b : R2} (hx : Tr xs) (h0 : xs ≠ []) (hC : chOK F xs)
    (sep : ∀ u v : Rat, -((2 ^ n : Nat) : Rat) ≤ u → u ≤ v → v ≤ ((2 ^ n : Nat) : Rat) → v - u ≤ 1 / ((2 ^ e : Nat) : Rat) → vch F xs u - vch F xs v ≤ 1) (hD : e + w ≤ 1000) (hh : hq ≤ ((e + w : Nat) : Int))
    (ha : 0 < a.2) (hb : 0 < b.2) (a1 : bl a.1.natAbs ≤ n) (a2 : bl a.2.natAbs ≤ n) (b1 : bl b.1.natAbs ≤ n) (b2 : bl b.2.natAbs ≤ n) (hab : ¬ 0 < a.1 * b.2 - b.1 * a.2)
    (hw : n + 1 ≤ w) (hBn : 3 * n + 1 + (e + w) ≤ B) (hB : B ≤ 65536) (hev : ∀ z : R2, bl z.1.natAbs ≤ B → bl z.2.natAbs ≤ B → evc F xs z) (hln : (chn F xs).length ≤ 1000) :
    isOK F xs (e + w + 1) a b hq ∧ ((sisol F xs (e + w + 1) a b hq).length : Int) = vch F xs (qv a) - vch F xs (qv b) ∧
      ∃ Q, 0 < Q ∧ Q < 2 ^ (2 * n) ∧ Sqn (fun x y => En (2 ^ n) Q (e + w) x ∧ En (2 ^ n) Q (e + w) y ∧ vch F xs (qv x) - vch F xs (qv y) = 1) (qv b) (qv a) (sisol F xs (e + w + 1) a b hq) := by
  obtain ⟨s1, s2, s3, s4, s5⟩ := slow_all ha a1 a2 (by omega)
  obtain ⟨t1, t2, t3, t4, t5⟩ := slow_all hb b1 b2 (by omega)
  have hle := qv_le ha hb hab
  have pa := (bl_le n _).1 s4
  have pb := (bl_le n _).1 t4
  have qa := qv_abs ha (Nat.le_of_lt ((bl_le n _).1 a1))
  have qb := qv_abs hb (Nat.le_of_lt ((bl_le n _).1 b1))
  have hQ0 : 0 < (slow a).2.natAbs * (slow b).2.natAbs := Nat.mul_pos (by omega) (by omega)
  have hQ1 : (slow a).2.natAbs * (slow b).2.natAbs < 2 ^ (2 * n) := by
    rw [show 2 * n = n + n by omega, Nat.pow_add]
    exact Nat.mul_lt_mul_of_lt_of_le pa (Nat.le_of_lt pb) (Nat.pow_pos (by decide))
  generalize hQ : (slow a).2.natAbs * (slow b).2.natAbs = Q at *
  have hcast : ((Q * 2 ^ 0 : Nat) : Int) = (slow a).2 * (slow b).2 := by
    rw [Nat.pow_zero, Nat.mul_one, ← hQ]; push_cast; rw [Int.natAbs_of_nonneg (by omega), Int.natAbs_of_nonneg (by omega)]
  have ea : En (2 ^ n) Q 0 (slow a) := ⟨s2, by rw [hcast]; exact Int.dvd_mul_right _ _, by rw [s5]; exact qa.1, by rw [s5]; exact qa.2⟩
  have eb : En (2 ^ n) Q 0 (slow b) := ⟨t2, by rw [hcast]; exact Int.dvd_mul_left _ _, by rw [t5]; exact qb.1, by rw [t5]; exact qb.2⟩
  have hpow : ∀ m, m ≤ B → 2 ^ m ≤ 2 ^ B := fun m h => Nat.pow_le_pow_right (by decide) h
  have hPP : 0 < 2 ^ (e + w) := Nat.pow_pos (by decide)
  have hB1 : Q * 2 ^ (e + w) < 2 ^ B := by
    have : Q * 2 ^ (e + w) < 2 ^ (2 * n) * 2 ^ (e + w) := Nat.mul_lt_mul_of_pos_right hQ1 hPP
    rw [← Nat.pow_add] at this
    exact Nat.lt_of_lt_of_le this (hpow _ (by omega))
  have hB2 : 2 * 2 ^ n * (Q * 2 ^ (e + w)) < 2 ^ B := by
    have h1 : Q * 2 ^ (e + w) < 2 ^ (2 * n) * 2 ^ (e + w) := Nat.mul_lt_mul_of_pos_right hQ1 hPP
    have h2 : 2 * 2 ^ n * (Q * 2 ^ (e + w)) < 2 * 2 ^ n * (2 ^ (2 * n) * 2 ^ (e + w)) := Nat.mul_lt_mul_of_pos_left h1 (Nat.mul_pos (by decide) (Nat.pow_pos (by decide)))
    have h3 : 2 * 2 ^ n * (2 ^ (2 * n) * 2 ^ (e + w)) = 2 ^ (3 * n + 1 + (e + w)) := by
      rw [← Nat.pow_add, ← Nat.pow_succ', ← Nat.pow_add]; congr 1; omega
    rw [h3] at h2
    exact Nat.lt_of_lt_of_le h2 (hpow _ (by omega))
  have hwid : (qv (slow b) - qv (slow a)) * ((2 ^ 0 : Nat) : Rat) ≤ ((2 ^ w : Nat) : Rat) := by
    rw [s5, t5, Nat.pow_zero]
    have h1 : ((2 ^ (n + 1) : Nat) : Rat) ≤ ((2 ^ w : Nat) : Rat) := rat_nat (Nat.pow_le_pow_right (by decide) hw)
    have h2 : ((2 ^ (n + 1) : Nat) : Rat) = 2 * ((2 ^ n : Nat) : Rat) := by rw [Nat.pow_succ]; push_cast; grind
    push_cast at h1 h2 qa qb ⊢
    grind
  have h := isp_all (Q := Q) (K := 2 ^ n) (B := B) hx h0 hC hQ0 sep hD hh hB1 hB2 hB hev (e + w + 1) 0 (slow a) (slow b) (by omega) (by omega) ea eb (by rw [s5, t5]; exact hle) hwid
  rw [s5, t5, ← cvc_v ha, ← cvc_v hb] at h
  have hr := chg_range ((chn F xs).map (fat a.1 a.2))
  have hr2 := chg_range ((chn F xs).map (fat b.1 b.2))
  rw [List.length_map] at hr hr2
  have hca : cvc F xs a = chg ((chn F xs).map (fat a.1 a.2)) := rfl
  have hcb : cvc F xs b = chg ((chn F xs).map (fat b.1 b.2)) := rfl
  have hlen : ((sisol F xs (e + w + 1) a b hq).length : Int) = cvc F xs a - cvc F xs b := h.2.1
  refine ⟨⟨hC, hev a (by omega) (by omega), hev b (by omega) (by omega), s1, t1, h.1, by omega⟩, by rw [← cvc_v ha, ← cvc_v hb]; exact hlen, Q, hQ0, hQ1, h.2.2⟩
theorem sep_of {xs : List Int} {F K A e : Nat} (hx : Tr xs) (h0 : xs ≠ []) (hC : chOK F xs) (hK : 0 < K) (hA : 0 < A) (na : ∀ i, (cf (sqf F xs) i).natAbs ≤ A) (nb : ∀ i, (cf (pder (sqf F xs)) i).natAbs ≤ A)
    (hs : 2 ≤ (sqf F xs).length → sepOK K A (sqf F xs).length e = true) (u v : Rat) (h1 : -(K : Rat) ≤ u) (huv : u ≤ v) (h3 : v ≤ (K : Rat)) (hh : v - u ≤ 1 / ((2 ^ e : Nat) : Rat)) : vch F xs u - vch F xs v ≤ 1 := by
  by_cases h2 : 2 ≤ (sqf F xs).length
  · have h := chn_sep hx h0 hC hK hA rfl h2 na nb (hs h2) h1 huv h3 hh
    show vat _ u - vat _ v ≤ 1
    rw [h]; unfold crs; split <;> decide
  · have hl := len_pder' (sqf F xs)
    have hd : pder (sqf F xs) = [] := List.eq_nil_of_length_eq_zero (by omega)
    have hc : chn F xs = [sqf F xs] := by unfold chn; rw [hd, pprim_nil, schain_nil]
    unfold vch vat
    rw [hc]
    have r1 := chg_range (([rev (sqf F xs)]).map fun g => rsg (g u))
    have r2 := chg_range (([rev (sqf F xs)]).map fun g => rsg (g v))
    simp only [List.map_cons, List.map_nil, List.length_cons, List.length_nil] at r1 r2 ⊢
    omega
end Go.Sky
namespace Go.Sky
open Go.RowKit (Below)
set_option linter.unusedVariables false
variable {P : Program} {N : Nat} {sc : Nat → Prop} {env env' : Env} {H H' : Hp} {Q Q' : Exit → Act → World → Prop} {M : Nat → Prop}
def CalM (P : Program) (f : FuncId) (args : Array Value) (pre : List Pc) {G : Type} (φ : G → Prop) (val : G → Value) (it its : G → Pc) : Prop :=
  ∀ w, (∀ p ∈ pre, p.holds w) → Calls P f args w fun e w' => ∃ g, e = .returned (val g) ∧ φ g ∧ Below w.heap.size w w' ∧ (it g).holds w' ∧ (∀ b, (it g).fp b → w.heap.size ≤ b) ∧
    (its g).holds w' ∧ (its g).own = false ∧ (∀ b, (its g).fp b → w.heap.size ≤ b ∨ ∃ q ∈ pre, q.fp b) ∧ ∀ b, (it g).fp b → (its g).fp b → False
theorem t_callm {o : Oper} {f : FuncId} {xs : List Operand} {ats : Array TypeId} {d n : Nat} {vs : List Value} {pre : List Pc} {G : Type} {φ : G → Prop} {val : G → Value} {it its : G → Pc} {w0 : World} {M0 : Nat → Prop}
    (hc : CalM P f vs.toArray pre φ val it its)
    (ho : o.op = .call { callee := .value (.func f), args := xs.toArray, argTypes := ats }) (hd : o.dst = some d) (hN : Nat.blt d N = true)
    (hargs : EvL env xs vs) (hcall : ∀ args w, (callFunc f args).run P w = .ok (.enter f args) w) (hpre : PreOk H true pre)
    (h0 : lk H 0 = some (keep w0 M0)) (hw : ∀ b, w0.heap.size ≤ b → sc b) :
    T P N sc M o env H φ (fun g => (d, val g) :: env) (fun g => (n, it g) :: (n + 1, its g) :: H) := fun a w hs K Q hK => by
  have hr : (execOp a.eval o).run P w = .ok (.enter f vs.toArray) w := by rw [run_execcall hs ho hargs, hcall]
  unfold Oper.wp
  rw [hr]
  refine (hc w (fun p hp => by
    obtain ⟨i, it, _, hi, himp, _, _⟩ := hpre.mem p hp
    exact himp w (hs.hold i it hi))).mono ?_
  rintro e w' ⟨g, rfl, hg, hbel, hit, hfp, hih, hio, hif, hdis⟩
  show K (a.put o.dst (val g)) w'
  rw [hd]
  have hs' : Sat N sc env H a w' := hs.chg0 (Chg.of_below hbel)
  have hsz := (hs.hold 0 _ h0).size
  have hs2 := hs'.add (n + 1) (its g) hih (fun j jt hne hj hor b hb hb' => by
    rcases hor with hor | hor
    · rw [hio] at hor; cases hor
    · rcases hif b hb with h | ⟨q, hq, hqb⟩
      · have := jt.lt w b (hs.hold j jt hj) hb'; omega
      · obtain ⟨i, it', hi0, hi, _, hqf, hno⟩ := hpre.mem q hq
        by_cases hij : j = i
        · subst hij; rw [hi] at hj; cases hj; rw [hno rfl] at hor; cases hor
        · exact hs.sep j i jt it' hij hj hi hor b hb' (hqf b hqb)) (fun b hb => by
    rcases hif b hb with h | ⟨q, hq, hqb⟩
    · exact hw b (by omega)
    · obtain ⟨i, it', hi0, hi, _, hqf, _⟩ := hpre.mem q hq
      exact hs.scope i it' hi0 hi b (hqf b hqb))
  refine hK g _ _ hg (Sat.put (hs2.add n (it g) hit (fun j jt hne hj hor b hb hb' => ?_) (fun b hb => hw b (by have := hfp b hb; omega))) d _ hN) (Chg.of_below hbel)
  by_cases hk : n + 1 = j
  · subst hk; rw [lk_same] at hj; cases hj; exact hdis b hb hb'
  · rw [lk_other _ _ hk] at hj
    have h1 := jt.lt w b (hs.hold j jt hj) hb'
    have h2 := hfp b hb
    omega
def FPostM (P : Program) (fn : Func) (w0 : World) (pre : List Pc) {G : Type} (φ : G → Prop) (val : G → Value) (it its : G → Pc) : Exit → Act → World → Prop :=
  bodyPost P fn fun e w' => ∃ g, e = .returned (val g) ∧ φ g ∧ Below w0.heap.size w0 w' ∧ (it g).holds w' ∧ (∀ b, (it g).fp b → w0.heap.size ≤ b) ∧
    (its g).holds w' ∧ (its g).own = false ∧ (∀ b, (its g).fp b → w0.heap.size ≤ b ∨ ∃ q ∈ pre, q.fp b) ∧ ∀ b, (it g).fp b → (its g).fp b → False
theorem calm_in {f : FuncId} {fn : Func} {c : Code} {vs : List Value} {pre : List Pc} {G : Type} {φ : G → Prop} {val : G → Value} {it its : G → Pc} {N : Nat}
    (hf : P.funcs[f]? = some fn) (hb : fn.body = some c) (hN : fn.ntmps = N) (hle : Nat.ble vs.length N = true) (hro : AllRo pre)
    (h : ∀ w0 (sc : Nat → Prop), (∀ b, w0.heap.size ≤ b → sc b) → (∀ b, sc b → w0.heap.size ≤ b ∨ ∃ q ∈ pre, q.fp b) →
      E P N sc c (FPostM P fn w0 pre φ val it its) (Zn 0 vs) ((0, keep w0 (fun _ => False)) :: Zm 1 pre)) :
    CalM P f vs.toArray pre φ val it its := fun w hp => by
  refine calls_of_wp hf hb (h w (fun b => w.heap.size ≤ b ∨ ∃ q ∈ pre, q.fp b) (fun b hb => .inl hb) (fun b hb => hb) _ w ?_)
  have hle : vs.length ≤ N := by simpa using hle
  have hpre : ∀ i p, lk ((0, keep w (fun _ => False)) :: Zm 1 pre) i = some p → (i = 0 ∧ p = keep w (fun _ => False)) ∨ (i ≠ 0 ∧ p ∈ pre ∧ p.own = false) := fun i p hi => by
      by_cases h0 : 0 = i
      · subst h0; rw [lk_same] at hi; cases hi; exact .inl ⟨rfl, rfl⟩
      · rw [lk_other _ _ h0] at hi
        obtain ⟨_, hm⟩ := lk_enumPre pre 1 i p hi
        exact .inr ⟨fun e => h0 e.symm, hm, hro.mem p hm⟩
  refine ⟨by simp [hN]; omega, rfl, fun t v ht => ?_, fun i p hi => ?_, fun i j p q hne hi hj ho b hb hb' => ?_, fun i p hi0 hi b hb => ?_⟩
  · have h1 : vs.toArray[t]? = some v := by simpa using (lk_enumEnv vs 0 t v ht).2
    have hlt := (Array.getElem?_eq_some_iff.1 h1).1
    rw [Array.getD_eq_getD_getElem?, Array.getElem?_append_left hlt, h1]; rfl
  · rcases hpre i p hi with ⟨_, rfl⟩ | ⟨_, hm, _⟩
    · exact Chg.refl _ w
    · exact hp p hm
  · rcases hpre i p hi with ⟨_, rfl⟩ | ⟨_, hm, hown⟩
    · cases ho
    · rw [hown] at ho; cases ho
  · rcases hpre i p hi with ⟨h0, _⟩ | ⟨_, hm, _⟩
    · exact absurd h0 hi0
    · exact .inr ⟨p, hm, hb⟩
theorem x_endm' {fn : Func} {pre : List Pc} {G : Type} {φ : G → Prop} {val : G → Value} {it its : G → Pc} {w0 : World} {e : Exit} (he : e = .ret ∨ e = .normal) (hsc : ∀ b, sc b → w0.heap.size ≤ b ∨ ∃ q ∈ pre, q.fp b)
    (g : G) (v : Value) (hres : ∀ a w, Sat N sc env H a w → (results fn a.tmps).run P w = .ok v w) (hv : val g = v) (hg : φ g) (h0 : lk H 0 = some (keep w0 (fun _ => False)))
    (i : Nat) (hi0 : Nat.beq i 0 = false) (hi : lk H i = some (it g)) (hown : (it g).own = true) (j : Nat) (hj0 : Nat.beq j 0 = false) (hj : lk H j = some (its g)) (hjo : (its g).own = false) (hij : Nat.beq i j = false) :
    X N sc e (FPostM P fn w0 pre φ val it its) env H := fun a w hs => by
  have hi0' : i ≠ 0 := fun e => by subst e; simp at hi0
  have hj0' : j ≠ 0 := fun e => by subst e; simp at hj0
  have hij' : i ≠ j := fun e => by subst e; simp at hij
  have key : a.defers = [] ∧ ∃ v, (results fn a.tmps).run P w = .ok v w ∧ (∃ g, Ending.returned v = .returned (val g) ∧ φ g ∧ Below w0.heap.size w0 w ∧ (it g).holds w ∧ (∀ b, (it g).fp b → w0.heap.size ≤ b) ∧
      (its g).holds w ∧ (its g).own = false ∧ (∀ b, (its g).fp b → w0.heap.size ≤ b ∨ ∃ q ∈ pre, q.fp b) ∧ ∀ b, (it g).fp b → (its g).fp b → False) := by
    refine ⟨hs.defers, v, hres a w hs, g, by rw [hv], hg, below_of_keep (hs.hold 0 _ h0), hs.hold i _ hi, fun b hb => ?_, hs.hold j _ hj, hjo, fun b hb => hsc b (hs.scope j _ hj0' hj b hb), hs.sep i j _ _ hij' hi hj hown⟩
    have hn := hs.sep i 0 _ _ hi0' hi h0 hown b hb
    rcases Nat.lt_or_ge b w0.heap.size with hlt | hge
    · exact absurd ⟨hlt, fun h => h⟩ hn
    · exact hge
  rcases he with rfl | rfl
  · exact key
  · exact key
theorem s_many_app {β : Type} {q : β → Pc} {zs ys : List β} (i j n : Nat) (hi : lk H i = some (many q zs)) (hj : lk H j = some (many q ys)) (hi0 : Nat.beq i 0 = false) (hj0 : Nat.beq j 0 = false) :
    ∀ a w, Sat N sc env H a w → Sat N sc env ((n, many q (zs ++ ys)) :: H) a w :=
  s_join i j n hi hj hi0 hj0 rfl rfl (fun w h1 h2 y hy => by
    rcases List.mem_append.1 hy with h | h
    · exact h1 y h
    · exact h2 y h) (fun b hb => by
    obtain ⟨y, hy, hb⟩ := hb
    rcases List.mem_append.1 hy with h | h
    · exact .inl ⟨y, h, hb⟩
    · exact .inr ⟨y, h, hb⟩) rfl
theorem d_ldf4 {α : Type} {o : Oper} {x : Operand} {t : TypeId} {k i ii q : Nat} {v u0 u1 u2 u3 : Value} {p : Pc} {enc : α → Value} {xs : List α} (d0 : α) (ho : o.op = .load t x)
    (hx : ev env x = some (.pointer (some (eaf v i k q)))) (hH : lk H ii = some p) (hr : Rd p k enc v xs) (hlt : i < xs.length) (ha : ∀ w, (isAgg t).run P w = .ok true w) (hk : ∀ w, (sizeOf t).run P w = .ok 4 w)
    (h0 : (enc (xs.getD i d0)).cells.toList[q]? = some u0) (h1 : (enc (xs.getD i d0)).cells.toList[q + 1]? = some u1) (h2 : (enc (xs.getD i d0)).cells.toList[q + 2]? = some u2) (h3 : (enc (xs.getD i d0)).cells.toList[q + 3]? = some u3) : Det P N sc o env H (.agg #[u0, u1, u2, u3]) := fun a w hs => by
  obtain ⟨ad, c, rfl, _, _, h⟩ := hr w (hs.hold ii p hH)
  rcases h with rfl | ⟨g, off, rfl, h⟩
  · simp at hlt
  · have hi : xs[i]? = some (xs.getD i d0) := by simp [List.getD, List.getElem?_eq_getElem hlt]
    have hl := run_loadCells_list (P := P) w (eaf (.slice (some ⟨g, off, none⟩) xs.length c) i k q) [u0, u1, u2, u3] (fun n u hu => by
      have e : (eaf (.slice (some ⟨g, off, none⟩) xs.length c) i k q).add n = (ead (.slice (some ⟨g, off, none⟩) xs.length c) i k).add (q + n) := by
        simp only [eaf, ead, addr_add]; congr 1; omega
      rw [e]
      have : (enc (xs.getD i d0)).cells.toList[q + n]? = some u := by
        match n, hu with
        | 0, hu => simp at hu; subst hu; exact h0
        | 1, hu => simp at hu; subst hu; exact h1
        | 2, hu => simp at hu; subst hu; exact h2
        | 3, hu => simp at hu; subst hu; exact h3
        | n + 4, hu => simp at hu
      have := h i _ hi (q + n) u this
      simp only [ead, addr_add]
      exact this)
    rw [show [u0, u1, u2, u3].length = 4 from rfl] at hl
    simp [execOp, ho, hs.ev hx, Instr.loadAt, Instr.sureAddr, loadVar, ha, hk, hl]
abbrev qD (z : SL × Nat) : Pc := d9p (svv z.1) z.2
abbrev JE := (R2 × R2) × (SL × SL × SL × SL)
abbrev encJ (y : JE) : Value := .agg #[.bool (decide (y.1.1.1 < 0)), svv y.2.1, .bool (decide (y.1.1.2 < 0)), svv y.2.2.1, .bool (decide (y.1.2.1 < 0)), svv y.2.2.2.1, .bool (decide (y.1.2.2 < 0)), svv y.2.2.2.2]
abbrev qJ (y : JE) : Pc := many qD [(y.2.1, y.1.1.1.natAbs), (y.2.2.1, y.1.1.2.natAbs), (y.2.2.2.1, y.1.2.1.natAbs), (y.2.2.2.2, y.1.2.2.natAbs)]
abbrev J0 : JE := (((0, 0), (0, 0)), ((none, 0, 0), (none, 0, 0), (none, 0, 0), (none, 0, 0)))
end Go.Sky
namespace Go.Sky
set_option linter.unusedVariables false
theorem smid_eq {x y x2 y2 : Int} (hm : midOK (x, y) (x2, y2)) (hy0 : 0 < y) (hy2 : 0 < y2) :
    (smid (x, y) (x2, y2)).1 = (x * y2 + x2 * y) / lgcd (x * y2 + x2 * y) (y * y2) * 1 / lgcd ((x * y2 + x2 * y) / lgcd (x * y2 + x2 * y) (y * y2) * 1) (y * y2 / lgcd (x * y2 + x2 * y) (y * y2) * 2) ∧
    (smid (x, y) (x2, y2)).2 = (y * y2 / lgcd (x * y2 + x2 * y) (y * y2) * 2) / lgcd ((x * y2 + x2 * y) / lgcd (x * y2 + x2 * y) (y * y2) * 1) (y * y2 / lgcd (x * y2 + x2 * y) (y * y2) * 2) ∧
    bl ((x * y2 + x2 * y) / lgcd (x * y2 + x2 * y) (y * y2)).natAbs ≤ 65536 ∧ bl (y * y2 / lgcd (x * y2 + x2 * y) (y * y2)).natAbs ≤ 65536 ∧ 0 < y * y2 / lgcd (x * y2 + x2 * y) (y * y2) := by
  obtain ⟨hf1, hf2⟩ := hm
  obtain ⟨e1, e2, -⟩ := nr_num hf1
  obtain ⟨e3, e4, -⟩ := nr_num hf2
  obtain ⟨c1, c2⟩ := nr_bl hf1
  have hdp := nr_pos hf1 (Int.mul_pos hy0 hy2)
  dsimp only at e1 e2 e3 e4 c1 c2 hdp
  rw [e1] at c1
  rw [e2] at c2 hdp
  refine ⟨?_, ?_, c1, c2, hdp⟩
  · rw [e1, e2] at e3
    rw [← e3]; unfold smid; dsimp only; rw [e1, e2]
  · rw [e1, e2] at e4
    rw [← e4]; unfold smid; dsimp only; rw [e1, e2]
end Go.Sky
namespace Go.Sky
open Go.Proofs
set_option maxRecDepth 20000
set_option maxHeartbeats 4000000
set_option linter.unusedVariables false
set_option linter.unusedSimpArgs false
theorem r3_middle (v w v2 w2 : Value) (x y x2 y2 : Int) (hm : midOK (x, y) (x2, y2)) (h0 : bl x.natAbs ≤ 70000) (h1 : bl y.natAbs ≤ 70000) (h2 : bl x2.natAbs ≤ 70000) (h3 : bl y2.natAbs ≤ 70000) (hy0 : 0 < y) (hy2 : 0 < y2) : Cal Tryz.prog 133 #[.agg #[.bool (decide (x < 0)), v, .bool (decide (y < 0)), w], .agg #[.bool (decide (x2 < 0)), v2, .bool (decide (y2 < 0)), w2]] [d9p v x.natAbs, d9p w y.natAbs, d9p v2 x2.natAbs, d9p w2 y2.natAbs] true (G := Value × Value) (fun r => True) (fun r => .agg #[.bool (decide ((smid (x, y) (x2, y2)).1 < 0)), r.1, .bool (decide ((smid (x, y) (x2, y2)).2 < 0)), r.2]) (fun r => [d9p r.1 (smid (x, y) (x2, y2)).1.natAbs, d9p r.2 (smid (x, y) (x2, y2)).2.natAbs]) := by
 refine Yb Tryz.func133 J Tryz.ntmps133 J K4 ?_
 intro w0 sc hw hsc
 simp only [Zn, Zm]
 obtain ⟨hM1, hM2, c1, c2, hdp⟩ := smid_eq hm hy0 hy2
 have hyn : y ≠ 0 := by omega
 have hyn2 : y2 ≠ 0 := by omega
 refine Zb <|Zd <|tt (Ym (i := 5) J J J J J J hw) J fun bx _ => tt (Ym (i := 6) J J J J J J hw) J fun bx_2 _ => tt (Zw (i := 7) J J J Tryz.zeroValue63 J J hw) J fun bx_3 _ => Zc <|Za <|Zb <|Zd <|dt (Xi (i := 5) J J J iA63 zT63 J J J J) J <|dt (Xi (i := 6) J J J iA63 zT63 J J J J) J <|tt (Zg (n := 8) (r_addq _ _ _ _ x y x2 y2 (by omega) (by omega) (by omega) (by omega) hyn hyn2) J J J K2 cF154 (Ze 1 J J J (Ze 2 J J J (Ze 3 J J J (Ze 4 J J J Zf)))) J hw) J fun g _ => tt (Zg (n := 10) (r_num 1 ⟨by decide, by decide⟩) J J J K1 cF43 Zf J hw) J fun v _ => tt (Zg (n := 11) (r_num 2 ⟨by decide, by decide⟩) J J J K1 cF43 Zf J hw) J fun v_2 _ => dt (Qc (ivs := [(0, _), (1, _)]) J K4 (fun a w hs => b63_01)) J <|tt (Zg (n := 12) (r_mulq _ _ _ _ ((x * y2 + x2 * y) / lgcd (x * y2 + x2 * y) (y * y2)) ((y * y2) / lgcd (x * y2 + x2 * y) (y * y2)) 1 2 (by omega) (by omega) (by decide +kernel) (by decide +kernel) (by omega) (by decide)) J J J K2 cF153 (Ze 8 J J J (Ze 9 J J J (Ze 10 J J J (Ze 11 J J J Zf)))) J hw) J fun g_2 _ => tt (Zq (i := 7) J J J J J (by decide) J zT63 J J ⟨(Zh J), (Zt (i := 12) J Zi), (Zh J), (Zt (i := 13) J Zi), trivial⟩ J hw trivial) J fun _ _ => Zc ?_
 exact Za <|Zr <|Zs (.inl J) hsc (_, _) _ (fun a w hs => Yr hs Tryz.results133 (Yq (i := 7) J J iA63 zT63 J)) (by rw [hM1, hM2] <;> rfl) trivial J (Yo 12 J J J (by rw [hM1] <;> rfl) (Yo 13 J J J (by rw [hM2] <;> rfl) Zj))
end Go.Sky
open Go.Proofs
namespace Go.Sky
theorem pJ : Enc Tryz.prog 77 8 encJ := Enc.agg (by decide) zT77 iA77 (fun x => ⟨[.bool (decide (x.1.1.1 < 0)), svv x.2.1, .bool (decide (x.1.1.2 < 0)), svv x.2.2.1, .bool (decide (x.1.2.1 < 0)), svv x.2.2.2.1, .bool (decide (x.1.2.2 < 0)), svv x.2.2.2.2], rfl, rfl, by simp [Value.oneCell']⟩)
abbrev cvr (ls : List (SL × List (Int × SL))) (m : R2) : Int := chg ((intsT ls).map (fat m.1 m.2))
end Go.Sky
namespace Go.Sky
open Go.Proofs
set_option maxRecDepth 20000
set_option maxHeartbeats 4000000
set_option linter.unusedVariables false
set_option linter.unusedSimpArgs false
set_option maxHeartbeats 4000000 in
theorem r3_iso_step (v : Value) (ls : List (SL × List (Int × SL))) (hz : ∀ z ∈ ls, Vp (ints z.2)) (hlen : ls.length ≤ 30) (hq : Int) (ok : R2 → Prop) (f : Nat) (ih : ∀ (w1 w2 w3 w4 : Value) (a b : R2) (d : Nat) (ha : okQ a) (hb : okQ b) (hok : ispOK (cvr ls) ok hq f a b (cvr ls a) (cvr ls b) d) (hln : (isp (cvr ls) hq f a b (cvr ls a) (cvr ls b) d).length ≤ 1000000), CalM Tryz.prog 88 #[v, .agg #[.bool (decide (a.1 < 0)), w1, .bool (decide (a.2 < 0)), w2], .agg #[.bool (decide (b.1 < 0)), w3, .bool (decide (b.2 < 0)), w4], .int .i64 hq, .int .i64 (d : Int)] [deep 1 encS qT v ls, d9p w1 a.1.natAbs, d9p w2 a.2.natAbs, d9p w3 b.1.natAbs, d9p w4 b.2.natAbs] (G := Value × List JE) (fun r => r.2.map Prod.fst = (isp (cvr ls) hq f a b (cvr ls a) (cvr ls b) d)) (fun r => r.1) (fun r => osl 8 77 encJ r.1 r.2) (fun r => many qJ r.2)) (w1 w2 w3 w4 : Value) (a b : R2) (d : Nat) (ha : okQ a) (hb : okQ b) (hok : ispOK (cvr ls) ok hq (f + 1) a b (cvr ls a) (cvr ls b) d) (hln : (isp (cvr ls) hq (f + 1) a b (cvr ls a) (cvr ls b) d).length ≤ 1000000) : CalM Tryz.prog 88 #[v, .agg #[.bool (decide (a.1 < 0)), w1, .bool (decide (a.2 < 0)), w2], .agg #[.bool (decide (b.1 < 0)), w3, .bool (decide (b.2 < 0)), w4], .int .i64 hq, .int .i64 (d : Int)] [deep 1 encS qT v ls, d9p w1 a.1.natAbs, d9p w2 a.2.natAbs, d9p w3 b.1.natAbs, d9p w4 b.2.natAbs] (G := Value × List JE) (fun r => r.2.map Prod.fst = (isp (cvr ls) hq (f + 1) a b (cvr ls a) (cvr ls b) d)) (fun r => r.1) (fun r => osl 8 77 encJ r.1 r.2) (fun r => many qJ r.2) := by
 refine calm_in Tryz.func88 J Tryz.ntmps88 J K5 ?_
 intro w0 sc hw hsc
 simp only [Zn, Zm]
 refine e_ex (Ql 2 J Zi) (fun s1 hs1 => ?_)
 subst hs1
 refine e_ex (Ql 3 J Zi) (fun s2 hs2 => ?_)
 subst hs2
 refine e_ex (Ql 4 J Zi) (fun s3 hs3 => ?_)
 subst hs3
 refine e_ex (Ql 5 J Zi) (fun s4 hs4 => ?_)
 subst hs4
 obtain ⟨ha1, ha2, ha3⟩ := ha
 obtain ⟨hb1, hb2, hb3⟩ := hb
 have hra := chg_range ((intsT ls).map (fat a.1 a.2))
 have hrb := chg_range ((intsT ls).map (fat b.1 b.2))
 simp only [List.length_map] at hra hrb
 have hca : cvr ls a = chg ((intsT ls).map (fat a.1 a.2)) := rfl
 have hcb : cvr ls b = chg ((intsT ls).map (fat b.1 b.2)) := rfl
 refine Zb <|Zd <|tt (Ym (i := 6) J J J J J J hw) J fun bx _ => tt (Ym (i := 7) J J J J J J hw) J fun bx_2 _ => Zl J J <|Zc <|Za <|Zb <|Xg (fun _ => False) [(0, 0), (1, 0), (3, 0), (4, 0), (2, 1), (5, 1), (6, 0), (7, 3)] (by kernel_rfl) ?_ ?_
 ·kernel_rfl
 refine r0' J J J J (st0 (Zx J J)) <|r0' J J J J (st0 (Xi (i := 6) J J J iA63 zT63 J J J J)) <|r0' J J J J (st0 (Zx J J)) <|r0' J J J J (st0 (Xi (i := 7) J J J iA63 zT63 J J J J)) <|r1' J J (Zg (n := 7) (r3_at _ _ _ _ a.1 a.2 hz (by omega) (by omega) (by omega)) J J J K2 cF82 (Ze 1 J J J (Ze 2 J J J (Ze 3 J J J Zf))) J hw) fun _ _ => r1' J J (Zg (n := 7) (r3_at _ _ _ _ b.1 b.2 hz (by omega) (by omega) (by omega)) J J J K2 cF82 (Ze 1 J J J (Ze 4 J J J (Ze 5 J J J Zf))) J hw) fun _ _ => r0' J J J J (st0 (Xd J J J ⟨by omega, by omega⟩)) <|r3' J J (Qd (Qg J J) J J) fun _ _ => Xq <|Za <|Zb <|Zb <|Zd <|mv J J <|dt (Xy J J J) J <|Zc <|Za <|Zp J (fun h135 => ?_) (fun h135 => ?_)
 ·have hI : (isp (cvr ls) hq (f + 1) a b (cvr ls a) (cvr ls b) d) = [] := by unfold isp; rw [if_pos (by omega)]
  exact Zb <|Zd <|Zl J J <|Zc <|Za <|Zr <|Yt <|Xh (Qb 70 8 77 encJ) <|Xh (Qk qJ 71) <|x_endm' (.inl J) hsc (.slice none 0 0, []) _ (fun a w hs => Yr hs Tryz.results88 J) J (by rw [hI] <;> rfl) J 70 J J J 71 J J J J
 ·have hne : ¬ (cvr ls a) = (cvr ls b) := fun h => h135 (by omega)
  refine Zk <|Za <|Zb <|Qw [(0, _), (3, _), (4, _), (6, _), (7, _)] [(0, _), (1, _), (2, _), (3, _), (4, _), (5, _), (6, _), (7, _)] (fun (_j : Unit) => [(28, .bool (decide ((cvr ls a) - (cvr ls b) = 1 ∧ hq ≤ (d : Int))))]) (fun (_j : Unit) => []) (fun (_j : Unit) => True) K5 K8 ?_ ?_
  ·refine Zd <|mv J J <|dt (Xy J J J) J <|mv J J <|Xo (d := 24) J (fun s138 => ?_) (fun s138 => ?_)
   ·exact Yl (Zx J J) J J J J <|Yl (Zx J J) J J J J <|Yl (Qi J J J) J J J J <|dt (Yk J J J) J <|Zc <|Xj () trivial ⟨by first | exact congrArg (fun z => some (Value.bool z)) (decide_eq_decide.2 (by omega)) | exact congrArg (fun z => some (Value.bool z)) (decide_eq_false (by omega)).symm, rfl, rfl, rfl, rfl, rfl, trivial⟩ K8
   ·exact Yx J J J J J <|Yx J J J J J <|Yx J J J J J <|dt (Ya J J J) J <|Zc <|Xj () trivial ⟨by first | exact congrArg (fun z => some (Value.bool z)) (decide_eq_decide.2 (by omega)) | exact congrArg (fun z => some (Value.bool z)) (decide_eq_false (by omega)).symm, rfl, rfl, rfl, rfl, rfl, trivial⟩ K8
  ·rintro _j -
   simp only [List.cons_append, List.nil_append]
   refine Zp J (fun h138 => ?_) (fun h138 => ?_)
   ·have hlf : (cvr ls a) - (cvr ls b) = 1 ∧ hq ≤ (d : Int) := h138
    have hI : (isp (cvr ls) hq (f + 1) a b (cvr ls a) (cvr ls b) d) = [(a, b)] := by unfold isp; rw [if_neg hne, if_pos hlf]
    exact Zb <|Zd <|dt (Xi (i := 6) J J J iA63 zT63 J J J J) J <|dt (Xi (i := 7) J J J iA63 zT63 J J J J) J <|dt (Qc (ivs := [(0, _), (1, _)]) J K4 (fun a w hs => b77_01)) J <|tt (Xp (i := 70) (ivs := [(0, _)]) (enc := encJ) [((a, b), (s1, s2, s3, s4))] J J J K2 uT72 Tryz.ti77 J J J (fill18 _ _ _ _ _ _ _ _ _ _ _ _ _ _ _ _) J J pJ.cells J J hw) J fun v _ => Zl J J <|Zc <|Za <|Zr <|Yt <|Xh (Qk qD 71) <|Xh (Xr (q := qD) (z := (s1, a.1.natAbs)) 71 2 72 J J J J J) <|Xh (Xr (q := qD) (z := (s2, a.2.natAbs)) 72 3 73 J J J J J) <|Xh (Xr (q := qD) (z := (s3, b.1.natAbs)) 73 4 74 J J J J J) <|Xh (Xr (q := qD) (z := (s4, b.2.natAbs)) 74 5 75 J J J J J) <|Xh (Qk qJ 76) <|Xh (Xr (q := qJ) (z := ((a, b), (s1, s2, s3, s4))) 76 75 77 J J J J J) <|x_endm' (.inl J) hsc (_, [((a, b), (s1, s2, s3, s4))]) _ (fun a w hs => Yr hs Tryz.results88 J) J (by rw [hI] <;> rfl) J 70 J J J 77 J J J J
   ·have hnl : ¬ ((cvr ls a) - (cvr ls b) = 1 ∧ hq ≤ (d : Int)) := h138
    obtain ⟨hdl, hmid, -, hk1, hk2⟩ : d < 1000 ∧ midOK a b ∧ ok (smid a b) ∧ ispOK (cvr ls) ok hq f a (smid a b) (cvr ls a) (cvr ls (smid a b)) (d + 1) ∧ ispOK (cvr ls) ok hq f (smid a b) b (cvr ls (smid a b)) (cvr ls b) (d + 1) := by
     rcases hok with h | h | h
     ·exact absurd h hne
     ·exact absurd h hnl
     ·exact h
    have hI : (isp (cvr ls) hq (f + 1) a b (cvr ls a) (cvr ls b) d) = isp (cvr ls) hq f a (smid a b) (cvr ls a) (cvr ls (smid a b)) (d + 1) ++ isp (cvr ls) hq f (smid a b) b (cvr ls (smid a b)) (cvr ls b) (d + 1) := by
     conv => lhs; unfold isp
     rw [if_neg hne, if_neg hnl]
    obtain ⟨hm1, hm2⟩ := midOK_bl hmid
    have hm3 := midOK_pos hmid ha3 hb3
    refine Zk <|Za <|Zb <|Zd <|dt (Xi (i := 6) J J J iA63 zT63 J J J J) J <|dt (Xi (i := 7) J J J iA63 zT63 J J J J) J <|tt (Zg (n := 8) (r3_middle _ _ _ _ a.1 a.2 b.1 b.2 hmid (by omega) (by omega) (by omega) (by omega) ha3 hb3) J J J K2 cF133 (Ze 2 J J J (Ze 3 J J J (Ze 4 J J J (Ze 5 J J J Zf)))) J hw) J fun g _ => tt (Zw (i := 10) J J J Tryz.zeroValue63 J J hw) J fun bx_3 _ => tt (Zq (i := 10) J J J J J (by decide) J zT63 J J ⟨(Zh J), (Zt (i := 8) J Zi), (Zh J), (Zt (i := 9) J Zi), trivial⟩ J hw trivial) J fun _ _ => Zc <|Za <|Zb <|Qh [6, 7, 10] [15] (by kernel_rfl) <|Yg (n := 0) [(0, 0), (1, 0), (2, 0), (3, 0), (4, 0), (5, 0), (7, 0), (8, 0), (9, 0), (10, 0), (11, 0), (12, 0), (6, 1), (13, 1), (14, 1), (15, 3)] (by kernel_rfl) <|r0' J J J J (stf (Zx J J) K3) <|r0' J J J J (stf (Xi (i := 6) J J J iA63 zT63 J J J J) K3) <|r0' J J J J (stf (Xi (i := 10) J J J iA63 zT63 J J J J) K3) <|r0' J J J J (stf (Zx J J) K3) <|r0' J J J J (stf (Zx J J) K3) <|r0' J J J J (stf (Yj J J J ⟨by omega, by omega⟩) K3) <|r0' J J J J (stf (Zx J J) K3) <|r0' J J J J (stf (Xi (i := 10) J J J iA63 zT63 J J J J) K3) ?_
    refine r0' J J J J (stf (Xi (i := 7) J J J iA63 zT63 J J J J) K3) <|r0' J J J J (stf (Zx J J) K3) <|r0' J J J J (stf (Zx J J) K3) <|r0' J J J J (stf (Yj J J J ⟨by omega, by omega⟩) K3) <|r1' J J (t_callm (n := 80) (ih _ _ _ _ a (smid a b) (d + 1) ⟨ha1, ha2, ha3⟩ ⟨hm1, hm2, hm3⟩ hk1 (by rw [hI, List.length_append] at hln; omega)) J J J K5 cF88 (Ze 1 J J J (Ze 2 J J J (Ze 3 J J J (Ze 8 J J J (Ze 9 J J J Zf))))) J hw) fun g_2 hg => r1' J J (t_callm (n := 82) (ih _ _ _ _ (smid a b) b (d + 1) ⟨hm1, hm2, hm3⟩ ⟨hb1, hb2, hb3⟩ hk2 (by rw [hI, List.length_append] at hln; omega)) J J J K5 cF88 (Ze 1 J J J (Ze 8 J J J (Ze 9 J J J (Ze 4 J J J (Ze 5 J J J Zf))))) J hw) fun g_3 hg_2 => r1' J J (t_offr 80 J J J K3 (fun hoffr => (t_appaM (i := 80) (j := 82) (by_ := 128) J J J J J J (by decide) J (Yp pJ) uT72 Tryz.ti77 J pJ J J J (by have h5 := congrArg List.length hg; have h6 := congrArg List.length hg_2; rw [List.length_map] at h5 h6; have h7 := congrArg List.length hI; rw [List.length_append] at h7; omega) (by decide) J hw hoffr))) fun v_2 _ => r3' J J (Qd (Qg J J) J J) fun _ _ => Yv <|Yw (by kernel_rfl) <|Za <|Zr <|Xh (s_many_app 81 83 90 J J J J) ?_
    exact x_endm' (.inl J) hsc (_, g_2.2 ++ g_3.2) _ (fun a w hs => Yr hs Tryz.results88 J) J (by rw [hI, List.map_append, hg, hg_2] <;> rfl) J 80 J J J 90 J J J J
end Go.Sky
namespace Go.Sky
open Go.Proofs
set_option linter.unusedVariables false
theorem r3_isolate (v : Value) (ls : List (SL × List (Int × SL))) (hz : ∀ z ∈ ls, Vp (ints z.2)) (hlen : ls.length ≤ 30) (hq : Int) (ok : R2 → Prop) : ∀ (f : Nat) (w1 w2 w3 w4 : Value) (a b : R2) (d : Nat) (ha : okQ a) (hb : okQ b) (hok : ispOK (cvr ls) ok hq f a b (cvr ls a) (cvr ls b) d) (hln : (isp (cvr ls) hq f a b (cvr ls a) (cvr ls b) d).length ≤ 1000000), CalM Tryz.prog 88 #[v, .agg #[.bool (decide (a.1 < 0)), w1, .bool (decide (a.2 < 0)), w2], .agg #[.bool (decide (b.1 < 0)), w3, .bool (decide (b.2 < 0)), w4], .int .i64 hq, .int .i64 (d : Int)] [deep 1 encS qT v ls, d9p w1 a.1.natAbs, d9p w2 a.2.natAbs, d9p w3 b.1.natAbs, d9p w4 b.2.natAbs] (G := Value × List JE) (fun r => r.2.map Prod.fst = (isp (cvr ls) hq f a b (cvr ls a) (cvr ls b) d)) (fun r => r.1) (fun r => osl 8 77 encJ r.1 r.2) (fun r => many qJ r.2)
 | 0, w1, w2, w3, w4, a, b, d, ha, hb, hok, hln => hok.elim
 | f + 1, w1, w2, w3, w4, a, b, d, ha, hb, hok, hln => r3_iso_step v ls hz hlen hq ok f (r3_isolate v ls hz hlen hq ok f) w1 w2 w3 w4 a b d ha hb hok hln
end Go.Sky
namespace Go.Sky
open Go.Proofs
set_option maxRecDepth 20000
set_option maxHeartbeats 4000000
set_option linter.unusedVariables false
set_option linter.unusedSimpArgs false
set_option maxHeartbeats 4000000 in
theorem r3_isolate_all (v w1 w2 w3 w4 : Value) (zs : List (Int × SL)) (a b : R2) (hq : Int) (f : Nat) (hv : Vp (ints zs)) (h0 : zs.length ≠ 0) (hs : Sz 48 (ints zs)) (hl : zs.length ≤ 8) (ha : okQ a) (hb : okQ b) (hI : isOK 12 (ints zs) f a b hq) : CalM Tryz.prog 36 #[v, .agg #[.bool (decide (a.1 < 0)), w1, .bool (decide (a.2 < 0)), w2], .agg #[.bool (decide (b.1 < 0)), w3, .bool (decide (b.2 < 0)), w4], .int .i64 hq] [pp v zs, d9p w1 a.1.natAbs, d9p w2 a.2.natAbs, d9p w3 b.1.natAbs, d9p w4 b.2.natAbs] (G := Value × List JE) (fun r => r.2.map Prod.fst = sisol 12 (ints zs) f a b hq) (fun r => r.1) (fun r => osl 8 77 encJ r.1 r.2) (fun r => many qJ r.2) := by
 refine calm_in Tryz.func36 J Tryz.ntmps36 J K5 ?_
 intro w0 sc hw hsc
 simp only [Zn, Zm]
 have hli := length_ints zs
 have hne : ints zs ≠ [] := fun e => h0 (by rw [← hli, e]; rfl)
 obtain ⟨hC, hE1, hE2, hR1, hR2, hI1, hI2⟩ := hI
 have hsl1 := slow_ok ha hR1
 have hsl2 := slow_ok hb hR2
 obtain ⟨hn1, hn2, -⟩ := nr_num hR1
 obtain ⟨hn3, hn4, -⟩ := nr_num hR2
 have hla : slow a = (a.1 / lgcd a.1 a.2, a.2 / lgcd a.1 a.2) := by unfold slow; rw [hn1, hn2]
 have hlb : slow b = (b.1 / lgcd b.1 b.2, b.2 / lgcd b.1 b.2) := by unfold slow; rw [hn3, hn4]
 obtain ⟨ha1, ha2, ha3⟩ := ha
 obtain ⟨hb1, hb2, hb3⟩ := hb
 have hqa := (slow_all ha3 ha1 ha2 (Nat.le_refl _)).2.2.2.2
 have hqb := (slow_all hb3 hb1 hb2 (Nat.le_refl _)).2.2.2.2
 have hca : cvc 12 (ints zs) (slow a) = cvc 12 (ints zs) a := by rw [cvc_v hsl1.2.2, cvc_v ha3, hqa]
 have hcb : cvc 12 (ints zs) (slow b) = cvc 12 (ints zs) b := by rw [cvc_v hsl2.2.2, cvc_v hb3, hqb]
 refine Zb <|Zd <|tt (Ym (i := 6) J J J J J J hw) J fun bx _ => tt (Ym (i := 7) J J J J J J hw) J fun bx_2 _ => Zl J J <|Zc <|Za <|Zb <|Pe (fun _ => False) [14] (by kernel_rfl) <|Yg (n := 4) [(0, 0), (2, 0), (3, 0), (4, 0), (5, 0), (7, 0), (8, 0), (9, 0), (10, 0), (12, 0), (1, 1)] (by kernel_rfl) <|r0' J J J J (st0 (Zx J J)) <|r0' J J J J (st0 (Yi J J uT63 J zT39 J J)) <|r0' J J J J (st0 (Yc (i := 6) J J J iA39 zT39 J J)) <|r0' J J J J (st0 (Yi J J uT63 J zT39 J J)) <|r0' J J J J (st0 (Yc (i := 6) J J J iA39 zT39 J J)) <|r0' J J J J (st0 (Yi J J uT63 J zT39 J J)) <|r0' J J J J (st0 (Yc (i := 7) J J J iA39 zT39 J J)) <|r0' J J J J (st0 (Yi J J uT63 J zT39 J J)) <|r0' J J J J (st0 (Yc (i := 7) J J J iA39 zT39 J J)) <|r0' J J J J (st0 (Zx J J)) <|r1' J J (Zg (n := 8) (r3_chain _ _ hv h0 hs hl) J J J K1 cF23 (Ze 1 J J J Zf) J hw) fun g hg => Yv ?_
 have hT : intsT g.2 = chn 12 (ints zs) := hg
 have hTl := intsT_len hT
 have hll : (chn 12 (ints zs)).length ≤ _ := length_schain 12 _ _
 have hVz : ∀ z ∈ g.2, Vp (ints z.2) := fun z hz => vp_chn hv hne hC _ (by rw [← hT]; exact List.mem_map_of_mem (f := fun z => ints z.2) hz)
 have hcv : cvr g.2 = cvc 12 (ints zs) := funext fun m => by show chg ((intsT g.2).map (fat m.1 m.2)) = chg ((chn 12 (ints zs)).map (fat m.1 m.2)); rw [hT]
 rw [hla, hlb, ← hcv] at hI1
 rw [hla] at hca hsl1
 rw [hlb] at hcb hsl2
 rw [← hcv] at hca hcb
 rw [← hca, ← hcb] at hI1
 have hI2 := hI2
 unfold sisol at hI2
 rw [hla, hlb, ← hcv, ← hca, ← hcb] at hI2
 exact Yg (n := 0) [(6, 1), (11, 1), (13, 1), (14, 3)] (by kernel_rfl) <|r1' J J (Zg (n := 9) (r_lowest _ _ a.1 a.2 (by omega) (by omega) (by omega)) J J J K2 cF89 (Ze 2 J J J (Ze 3 J J J Zf)) J hw) fun g_2 _ => r1' J J (Zg (n := 11) (r_lowest _ _ b.1 b.2 (by omega) (by omega) (by omega)) J J J K2 cF89 (Ze 4 J J J (Ze 5 J J J Zf)) J hw) fun g_3 _ => r1' J J (t_callm (n := 13) (r3_isolate _ _ hVz (by omega) hq (evc 12 (ints zs)) f _ _ _ _ (a.1 / lgcd a.1 a.2, a.2 / lgcd a.1 a.2) (b.1 / lgcd b.1 b.2, b.2 / lgcd b.1 b.2) 0 hsl1 hsl2 hI1 hI2) J J J K5 cF88 (Ze 8 J J J (Ze 9 J J J (Ze 10 J J J (Ze 11 J J J (Ze 12 J J J Zf))))) J hw) fun g_4 hg_2 => r3' J J (Qd (Qg J J) J J) fun _ _ => Yv <|Yw (by kernel_rfl) <|Za <|Zr <|x_endm' (.inl J) hsc (_, g_4.2) _ (fun a w hs => Yr hs Tryz.results36 J) J (by unfold sisol; rw [hla, hlb, ← hcv, ← hca, ← hcb]; exact hg_2) J 13 J J J 14 J J J J
end Go.Sky
namespace Go.Sky
set_option linter.unusedVariables false
theorem Sqn.mem {P : R2 → R2 → Prop} {hi : Rat} : ∀ {lo : Rat} {l : List (R2 × R2)}, Sqn P hi lo l → ∀ c ∈ l, P c.1 c.2
  | _, [], _, c, hc => by cases hc
  | lo, d :: r, h, c, hc => by
    rcases List.mem_cons.1 hc with rfl | hc
    · exact h.2.2.1
    · exact Sqn.mem h.2.2.2 c hc
theorem en_bl {K Q d B : Nat} {z : R2} (h : En K Q d z) (hQ : 0 < Q) (h1 : Q * 2 ^ d < 2 ^ B) (h2 : K * (Q * 2 ^ d) < 2 ^ B) : bl z.1.natAbs ≤ B ∧ bl z.2.natAbs ≤ B := by
  obtain ⟨hp, hd, hl, hu⟩ := h
  have hpos : 0 < Q * 2 ^ d := Nat.mul_pos hQ (Nat.pow_pos (by decide))
  have hz2 : z.2.natAbs ≤ Q * 2 ^ d := by
    have := Int.natAbs_dvd_natAbs.2 hd
    rw [Int.natAbs_natCast] at this
    exact Nat.le_of_dvd hpos this
  have hz1 : z.1.natAbs ≤ K * z.2.natAbs := by
    have r := rat_pos hp
    have e : (z.1 : Rat) = qv z * z.2 := by unfold qv; grind
    have t1 := Rat.mul_nonneg (a := (K : Rat) - qv z) (b := (z.2 : Rat)) (by grind) (by grind)
    have t2 := Rat.mul_nonneg (a := (K : Rat) + qv z) (b := (z.2 : Rat)) (by grind) (by grind)
    have hn : ((K * z.2.natAbs : Nat) : Int) = (K : Int) * z.2 := by push_cast; rw [Int.natAbs_of_nonneg (by omega)]
    have u1 : ((z.1 : Int) : Rat) ≤ (((K : Int) * z.2 : Int) : Rat) := by push_cast; grind
    have u2 : ((-((K : Int) * z.2) : Int) : Rat) ≤ ((z.1 : Int) : Rat) := by push_cast; grind
    have v1 : z.1 ≤ (K : Int) * z.2 := by exact_mod_cast u1
    have v2 : -((K : Int) * z.2) ≤ z.1 := by exact_mod_cast u2
    omega
  have hz3 : K * z.2.natAbs ≤ K * (Q * 2 ^ d) := Nat.mul_le_mul_left _ hz2
  exact ⟨bl_le_of (by omega), bl_le_of (by omega)⟩
theorem en_bl2 {n e w Q B : Nat} {z : R2} (h : En (2 ^ n) Q (e + w) z) (hQ : 0 < Q) (hQ1 : Q < 2 ^ (2 * n)) (hB : 3 * n + 1 + (e + w) ≤ B) : bl z.1.natAbs ≤ B ∧ bl z.2.natAbs ≤ B := by
  have hpow : ∀ m, m ≤ B → 2 ^ m ≤ 2 ^ B := fun m h => Nat.pow_le_pow_right (by decide) h
  have hPP : 0 < 2 ^ (e + w) := Nat.pow_pos (by decide)
  have h1 : Q * 2 ^ (e + w) < 2 ^ (2 * n) * 2 ^ (e + w) := Nat.mul_lt_mul_of_pos_right hQ1 hPP
  have h2 : 2 ^ n * (Q * 2 ^ (e + w)) < 2 ^ n * (2 ^ (2 * n) * 2 ^ (e + w)) := Nat.mul_lt_mul_of_pos_left h1 (Nat.pow_pos (by decide))
  have e1 : 2 ^ (2 * n) * 2 ^ (e + w) = 2 ^ (2 * n + (e + w)) := (Nat.pow_add _ _ _).symm
  have e2 : 2 ^ n * (2 ^ (2 * n) * 2 ^ (e + w)) = 2 ^ (n + (2 * n + (e + w))) := by rw [e1, ← Nat.pow_add]
  rw [e1] at h1
  rw [e2] at h2
  exact en_bl h hQ (Nat.lt_of_lt_of_le h1 (hpow _ (by omega))) (Nat.lt_of_lt_of_le h2 (hpow _ (by omega)))
theorem iso6b {xs : List Int} {a b : R2} {hq : Int} (hx : Tr xs) (h0 : xs ≠ []) (hs : Sz 16 xs) (hl : xs.length ≤ 6) (h20 : hq ≤ 20) (ha : 0 < a.2) (hb : 0 < b.2) (a1 : bl a.1.natAbs ≤ 24) (a2 : bl a.2.natAbs ≤ 24) (b1 : bl b.1.natAbs ≤ 24) (b2 : bl b.2.natAbs ≤ 24) (hab : ¬ 0 < a.1 * b.2 - b.1 * a.2) :
    isOK 12 xs 846 a b hq ∧ (∀ z : R2, bl z.1.natAbs ≤ 920 → bl z.2.natAbs ≤ 920 → evc 12 xs z) ∧ ∀ c ∈ sisol 12 xs 846 a b hq, bl c.1.1.natAbs ≤ 920 ∧ bl c.1.2.natAbs ≤ 920 ∧ bl c.2.1.natAbs ≤ 920 ∧ bl c.2.2.natAbs ≤ 920 := by
  obtain ⟨hC, hq1, hq2, hq3⟩ := chF 12 hx h0 hs (by omega) (by omega) (by omega)
  obtain ⟨f1, f2, f3, f4, f5, f6⟩ := sqf_fac (F := 12) hx h0 hC.1.2.2.1
  have hnn := sz_nrm hs
  have ht : Tr (nrm xs) := tr_gnorm (tr_pprim hx)
  have hf := factor_gen (n := 16) (L := 6) (R := 10) (e := 44) f2 (tr_pgcd (F := 12) ht (tr_pder ht)) hnn (nrm_ne hx h0) ht (by rw [length_nrm hx]; exact hl) (by decide) (by decide +kernel) f4
  have hd := sz_pder' hf (by omega)
  have hev : ∀ z : R2, bl z.1.natAbs ≤ 920 → bl z.2.natAbs ≤ 920 → evc 12 xs z := fun z z1 z2 p hp h => by
    obtain ⟨p1, p2⟩ := hq3 p hp
    have h4 : msz [z.1, z.2] ≤ 920 := msz_le (Sz.of_mem fun y hy => by
      rcases List.mem_cons.1 hy with rfl | hy
      · exact z1
      · rw [List.mem_singleton.1 hy]; exact z2)
    have h5 : (p.length - 1) * msz [z.1, z.2] ≤ 5 * 920 := Nat.mul_le_mul (by omega) h4
    have := h.2
    omega
  have hll := length_schain 12 (sqf 12 xs) (pprim (pder (sqf 12 xs)))
  have hss : ∀ n, n ≤ 6 → 2 ≤ n → sepOK (2 ^ 24) (2 ^ 65) n 820 = true := by decide +kernel
  have h := iso_all (n := 24) (e := 820) (w := 25) (B := 920) (hq := hq) (a := a) (b := b) hx h0 hC (fun u v => sep_of hx h0 hC (Nat.pow_pos (by decide)) (A := 2 ^ 65) (Nat.pow_pos (by decide)) (fun i => Nat.le_trans (sz_pow hf i) (Nat.pow_le_pow_right (by decide) (by omega))) (fun i => sz_pow hd i) (fun h2 => hss _ (by omega) h2) u v) (by omega) (by omega) ha hb a1 a2 b1 b2 hab (by omega) (by omega) (by omega) hev (by show (schain 12 _ _).length ≤ 1000; omega)
  refine ⟨h.1, hev, fun c hc => ?_⟩
  obtain ⟨-, -, Q, hQ, hQ2, hS⟩ := h
  obtain ⟨e1, e2, -⟩ := Sqn.mem hS c hc
  obtain ⟨g1, g2⟩ := en_bl2 (n := 24) (e := 820) (w := 25) (B := 920) e1 hQ hQ2 (by decide)
  obtain ⟨g3, g4⟩ := en_bl2 (n := 24) (e := 820) (w := 25) (B := 920) e2 hQ hQ2 (by decide)
  exact ⟨g1, g2, g3, g4⟩
theorem js_getD {zs : List JE} {L : List (R2 × R2)} (h : zs.map Prod.fst = L) {i : Nat} (hi : i < zs.length) : (zs.getD i J0).1 = L.getD i ((0, 0), (0, 0)) := by
  subst h
  rw [List.getD_eq_getElem?_getD, List.getD_eq_getElem?_getD, List.getElem?_map, List.getElem?_eq_getElem hi]; rfl
theorem js_len {zs : List JE} {L : List (R2 × R2)} (h : zs.map Prod.fst = L) : zs.length = L.length := by rw [← h, List.length_map]
theorem qn_ok {x y : Int} (hx : bl x.natAbs ≤ 65536) (hy : bl y.natAbs ≤ 65536) : qn x y = x ∧ qd x y = y := by
  have hf : ¬ qfull x y := fun h => by unfold qfull at h; omega
  unfold qn qd; rw [if_neg hf, if_neg hf]; exact ⟨rfl, rfl⟩
theorem small6 {r : RWL} (h6 : r.length ≤ 6) (h2 : ∀ i, i < r.length → (r.getD i (false, ⟨#[]⟩)).2.size ≤ 2) : smallR r = true := small_yes (by omega) fun k hk => Nat.le_trans (h2 k hk) (by decide)
theorem dec6 {r : RWL} (h6 : r.length ≤ 6) (h2 : ∀ i, i < r.length → (r.getD i (false, ⟨#[]⟩)).2.size ≤ 2) (hok : okP r = true) : Sz 16 (dec r) := by
  obtain ⟨hv, hr⟩ := dec_ok hok
  have hlr := congrArg List.length hr
  rw [List.length_map] at hlr
  refine fun i => ?_
  rcases Nat.lt_or_ge i (dec r).length with hi | hi
  · have h := h2 i (by omega)
    have e : r.getD i (false, ⟨#[]⟩) = wr (cf (dec r) i) := by
      have : r[i]? = some (wr (cf (dec r) i)) := by
        rw [show r[i]? = ((dec r).map wr)[i]? from congrArg (fun l : RWL => l[i]?) hr]; simp [List.getElem?_map, List.getElem?_eq_getElem hi, cf]
      rw [List.getD_eq_getElem?_getD, this]; rfl
    rw [e] at h
    exact bl_pow256 2 h
  · rw [cf_ge hi]; simp [bl_zero]
end Go.Sky
namespace Go.Sky
open Go.Proofs
set_option maxRecDepth 20000
set_option maxHeartbeats 4000000
set_option linter.unusedVariables false
set_option linter.unusedSimpArgs false
theorem st_isolate_arg (v : Value) (r : List (Bool × ByteArray)) (z1 z2 : (Bool × ByteArray) × (Bool × ByteArray)) (hq : Int) (hh : hq < 0 ∨ 200 < hq) : Cal Tryz.prog 35 #[v, .agg #[.bool z1.1.1, .string z1.1.2, .bool z1.2.1, .string z1.2.2], .agg #[.bool z2.1.1, .string z2.1.2, .bool z2.2.1, .string z2.2.2], .int .i64 hq] [slp 2 encW v r] false (G := Unit) (fun _ => True) (fun _ => .tuple #[.slice none 0 0, .int .i64 2]) (fun _ => []) := by
 refine Yb Tryz.func35 J Tryz.ntmps35 J K1 ?_
 intro w0 sc hw hsc
 simp only [Zn, Zm]
 refine Ye (Qb 999 2 28 wv) <|Ye (Xl 999 J J pV) <|Zb <|Zd <|tt (Ym (i := 2) J J J J J J hw) J fun bx _ => tt (Ym (i := 3) J J J J J J hw) J fun bx_2 _ => tt (Ym (i := 4) J J J J J J hw) J fun bx_3 _ => Zl J J <|Zl J J <|Zc <|Za <|Zb <|Zb <|Zd <|dt (Xe (i := 4) J J J iA3 J) J <|dt (Xb J J J) J <|mv J J <|Xo (d := 22) J (fun s216 => ?_) (fun s216 => ?_)
 ·exact Yx J J J J J <|Yx J J J J J <|dt (Yk J J J) J <|Zc <|Za <|Qe J <|Zb <|Zd <|Zl J J <|Zl J J <|Zc <|Za <|Zr <|Yt <|Zs (.inl J) hsc () _ (fun a w hs => Xu hs Tryz.results35 J J) J trivial J Zj
 ·refine Yl (Xe (i := 4) J J J iA3 J) J J J J <|Yl (Xc J J J) J J J J <|dt (Ya J J J) J <|Zc <|Za <|Zp J (fun h216 => ?_) (fun h216 => ?_)
  ·exact Zb <|Zd <|Zl J J <|Zl J J <|Zc <|Za <|Zr <|Yt <|Zs (.inl J) hsc () _ (fun a w hs => Xu hs Tryz.results35 J J) J trivial J Zj
  ·exfalso; omega
theorem st_isolate_bad (v : Value) (r : List (Bool × ByteArray)) (z1 z2 : (Bool × ByteArray) × (Bool × ByteArray)) (hq : Int) (hh : 0 ≤ hq ∧ hq ≤ 200) (hbad : (okP r && qOK z1 && qOK z2) = false) : Cal Tryz.prog 35 #[v, .agg #[.bool z1.1.1, .string z1.1.2, .bool z1.2.1, .string z1.2.2], .agg #[.bool z2.1.1, .string z2.1.2, .bool z2.2.1, .string z2.2.2], .int .i64 hq] [slp 2 encW v r] false (G := Unit) (fun _ => True) (fun _ => .tuple #[.slice none 0 0, .int .i64 2]) (fun _ => []) := by
 refine Yb Tryz.func35 J Tryz.ntmps35 J K1 ?_
 intro w0 sc hw hsc
 simp only [Zn, Zm]
 refine Ye (Qb 999 2 28 wv) <|Ye (Xl 999 J J pV) <|Zb <|Zd <|tt (Ym (i := 2) J J J J J J hw) J fun bx _ => tt (Ym (i := 3) J J J J J J hw) J fun bx_2 _ => tt (Ym (i := 4) J J J J J J hw) J fun bx_3 _ => Zl J J <|Zl J J <|Zc <|Za <|Zb <|Zb <|Zd <|dt (Xe (i := 4) J J J iA3 J) J <|dt (Yd (r' := .bool false) (Xb J J J) (congrArg Value.bool (decide_eq_false (by omega)))) J <|mv J J <|Yl (Xe (i := 4) J J J iA3 J) J J J J <|Yl (Yd (r' := .bool false) (Xc J J J) (congrArg Value.bool (decide_eq_false (by omega)))) J J J J <|dt (Ya J J J) J <|Zc <|Za <|Yn J <|Zk <|Za <|Zb <|Zb <|Zd <|mv J J <|dt (Xi (i := 2) J J J iA49 zT49 J J J J) J <|dt (Xi (i := 3) J J J iA49 zT49 J J J J) J <|tt (Xp (i := 5) (ivs := [(0, _), (1, _)]) (enc := encQ) [z1, z2] J J J K4 uT87 Tryz.ti49 J J J (fill24 _ _ _ _ _ _ _ _ _ _ _ _) J J pR.cells J J hw) J fun v _ => tt (Zg (n := 5) (st_check2_bad _ _ _ z1 z2 hbad) J J J K2 cF51 (Ze 1 J J J (Xk 5 J J pR Zf)) J hw) J fun _ _ => Zl J J <|Zc <|Za <|Zb <|Zd <|mv J J <|dt (Yd (r' := .bool true) (Xf J J J) (congrArg Value.bool (by decide))) J <|Zc <|Za <|Qe J <|Zb <|Zd <|mv J J <|Zl J J <|Zl J J <|Zc <|Za <|Zr <|Yt ?_
 exact Zs (.inl J) hsc () _ (fun a w hs => Xu hs Tryz.results35 J J) J trivial J Zj
end Go.Sky
open Go.Proofs
namespace Go.Sky
theorem st_isolate_rawerr (v : Value) (r : RWL) (z1 z2 : RZ) (hq : Int) (hs : smallR r = true) (e1 : z1.1.2.size ≤ 3) (e2 : z1.2.2.size ≤ 3) (e3 : z2.1.2.size ≤ 3) (e4 : z2.2.2.size ≤ 3) (hh : 0 ≤ hq ∧ hq ≤ 200) (hf : firstR r z1 z2 ≠ 0) :
    Cal Tryz.prog 35 #[v, .agg #[.bool z1.1.1, .string z1.1.2, .bool z1.2.1, .string z1.2.2], .agg #[.bool z2.1.1, .string z2.1.2, .bool z2.2.1, .string z2.2.2], .int .i64 hq] [slp 2 encW v r] false (G := Unit) (fun _ => True) (fun _ => .tuple #[.slice none 0 0, .int .i64 (firstR r z1 z2)]) (fun _ => []) := by
  cases hb : (okP r && qOK z1 && qOK z2) with
  | false =>
    have e : firstR r z1 z2 = 2 := by unfold firstR; rw [if_neg (by rw [hb]; decide)]
    rw [e]
    exact st_isolate_bad v r z1 z2 hq hh hb
  | true =>
    simp only [Bool.and_eq_true] at hb
    obtain ⟨⟨hok, hq1⟩, hq2⟩ := hb
    have e := firstR_wv hok hq1 hq2
    obtain ⟨a1, a2, a3, a4⟩ := q_ok hq1
    obtain ⟨b1, b2, b3, b4⟩ := q_ok hq2
    rw [e] at hf ⊢
    generalize qx z1 = x at *
    generalize qy z1 = y at *
    generalize qx z2 = x2 at *
    generalize qy z2 = y2 at *
    subst a4
    subst b4
    have c1 := bl_pow256 (n := x.natAbs) 3 e1
    have c2 := bl_pow256 (n := y.natAbs) 3 e2
    have c3 := bl_pow256 (n := x2.natAbs) 3 e3
    have c4 := bl_pow256 (n := y2.natAbs) 3 e4
    have hck := chk2_small hs hok (x := x) (y := y) (x2 := x2) (y2 := y2) (by omega) (by omega) (by omega) (by omega)
    obtain ⟨hv, -⟩ := dec_ok hok
    rw [← hck] at hf ⊢
    exact Cal.imp (st_isolate_err v (dec r) hv (x, y) (x2, y2) hq ⟨a1, a2, a3⟩ ⟨b1, b2, b3⟩ hh hf) (slp_dec hok v) (fun _ h => h)
end Go.Sky
namespace Go.Sky
open Go.Proofs
set_option maxRecDepth 20000
set_option maxHeartbeats 4000000
set_option linter.unusedVariables false
set_option linter.unusedSimpArgs false
set_option maxHeartbeats 4000000 in
theorem law_iso_no (v : Value) (r : List (Bool × ByteArray)) (z1 z2 : (Bool × ByteArray) × (Bool × ByteArray)) (hq : Int) (hn : 6 < r.length ∨ 3 < z1.1.2.size ∨ 3 < z1.2.2.size ∨ 3 < z2.1.2.size ∨ 3 < z2.2.2.size ∨ (20 < hq ∧ hq ≤ 200)) : Cal Tryz.prog 7 #[v, .agg #[.bool z1.1.1, .string z1.1.2, .bool z1.2.1, .string z1.2.2], .agg #[.bool z2.1.1, .string z2.1.2, .bool z2.2.1, .string z2.2.2], .int .i64 hq] [slp 2 encW v r] false (G := Unit) (fun _ => True) (fun _ => .bool true) (fun _ => []) := by
 refine Yb Tryz.func7 J Tryz.ntmps7 J K1 ?_
 intro w0 sc hw hsc
 simp only [Zn, Zm]
 refine Ye (Qb 999 2 28 wv) <|Ye (Xl 999 J J pV) <|Zb <|Zd <|tt (Ym (i := 2) J J J J J J hw) J fun bx _ => tt (Ym (i := 3) J J J J J J hw) J fun bx_2 _ => Zl J J <|Zc <|Za <|Zb <|Zb <|Zd <|mv J J <|dt (Zv J J (i := 1) J Zi uT23) J <|dt (Xc J J J) J <|mv J J <|Xo (d := 23) J (fun s196 => ?_) (fun s196 => ?_)
 ·exact Yx J J J J J <|Yx J J J J J <|Yx J J J J J <|Yx J J J J J <|Yx J J J J J <|dt (Yk J J J) J <|mv J J <|Yx J J J J J <|Yx J J J J J <|Yx J J J J J <|Yx J J J J J <|Yx J J J J J <|dt (Yk J J J) J <|mv J J <|Yx J J J J J <|Yx J J J J J <|Yx J J J J J <|Yx J J J J J <|Yx J J J J J <|dt (Yk J J J) J <|mv J J <|Yx J J J J J <|Yx J J J J J <|Yx J J J J J <|Yx J J J J J <|Yx J J J J J <|dt (Yk J J J) J <|mv J J <|Yx J J J J J <|Yx J J J J J <|Yx J J J J J <|gsku J J J <|gsku J J J <|Yx J J J J J <|dt (Yk J J J) J <|Zc <|Za <|Qe J <|Zb <|Zd <|tt (Zg (n := 3) (law_known) J J J trivial cF11 Zf J hw) J fun _ _ => Zl J J <|Zc <|Za <|Zr <|Yt <|Zs (.inl J) hsc () _ (fun a w hs => Yr hs Tryz.results7 J) J trivial J Zj
 ·refine Yl (Yi J J uT49 J zT28 J J) J J J J <|Yl (Yi J J uT28 J zT9 J J) J J J J <|Yl (Xe (i := 2) J J J iA9 J) J J J J <|Yl (Xx J J uT9) J J J J <|Yl (Xc J J J) J J J J <|dt (Ya J J J) J <|mv J J <|Xo (d := 30) J (fun s196_2 => ?_) (fun s196_2 => ?_)
  ·exact Yx J J J J J <|Yx J J J J J <|Yx J J J J J <|Yx J J J J J <|Yx J J J J J <|dt (Yk J J J) J <|mv J J <|Yx J J J J J <|Yx J J J J J <|Yx J J J J J <|Yx J J J J J <|Yx J J J J J <|dt (Yk J J J) J <|mv J J <|Yx J J J J J <|Yx J J J J J <|Yx J J J J J <|Yx J J J J J <|Yx J J J J J <|dt (Yk J J J) J <|mv J J <|Yx J J J J J <|Yx J J J J J <|Yx J J J J J <|gsku J J J <|gsku J J J <|Yx J J J J J <|dt (Yk J J J) J <|Zc <|Za <|Qe J <|Zb <|Zd <|tt (Zg (n := 3) (law_known) J J J trivial cF11 Zf J hw) J fun _ _ => Zl J J <|Zc <|Za <|Zr <|Yt <|Zs (.inl J) hsc () _ (fun a w hs => Yr hs Tryz.results7 J) J trivial J Zj
  ·refine Yl (Yi J J uT49 J zT28 J J) J J J J <|Yl (Yi J J uT28 J zT9 J J) J J J J <|Yl (Xe (i := 2) J J J iA9 J) J J J J <|Yl (Xx J J uT9) J J J J <|Yl (Xc J J J) J J J J <|dt (Ya J J J) J <|mv J J <|Xo (d := 37) J (fun s196_3 => ?_) (fun s196_3 => ?_)
   ·exact Yx J J J J J <|Yx J J J J J <|Yx J J J J J <|Yx J J J J J <|Yx J J J J J <|dt (Yk J J J) J <|mv J J <|Yx J J J J J <|Yx J J J J J <|Yx J J J J J <|Yx J J J J J <|Yx J J J J J <|dt (Yk J J J) J <|mv J J <|Yx J J J J J <|Yx J J J J J <|Yx J J J J J <|gsku J J J <|gsku J J J <|Yx J J J J J <|dt (Yk J J J) J <|Zc <|Za <|Qe J <|Zb <|Zd <|tt (Zg (n := 3) (law_known) J J J trivial cF11 Zf J hw) J fun _ _ => Zl J J <|Zc <|Za <|Zr <|Yt <|Zs (.inl J) hsc () _ (fun a w hs => Yr hs Tryz.results7 J) J trivial J Zj
   ·refine Yl (Yi J J uT49 J zT28 J J) J J J J <|Yl (Yi J J uT28 J zT9 J J) J J J J <|Yl (Xe (i := 3) J J J iA9 J) J J J J <|Yl (Xx J J uT9) J J J J <|Yl (Xc J J J) J J J J <|dt (Ya J J J) J <|mv J J <|Xo (d := 44) J (fun s196_4 => ?_) (fun s196_4 => ?_)
    ·exact Yx J J J J J <|Yx J J J J J <|Yx J J J J J <|Yx J J J J J <|Yx J J J J J <|dt (Yk J J J) J <|mv J J <|Yx J J J J J <|Yx J J J J J <|Yx J J J J J <|gsku J J J <|gsku J J J <|Yx J J J J J <|dt (Yk J J J) J <|Zc <|Za <|Qe J <|Zb <|Zd <|tt (Zg (n := 3) (law_known) J J J trivial cF11 Zf J hw) J fun _ _ => Zl J J <|Zc <|Za <|Zr <|Yt <|Zs (.inl J) hsc () _ (fun a w hs => Yr hs Tryz.results7 J) J trivial J Zj
    ·refine Yl (Yi J J uT49 J zT28 J J) J J J J <|Yl (Yi J J uT28 J zT9 J J) J J J J <|Yl (Xe (i := 3) J J J iA9 J) J J J J <|Yl (Xx J J uT9) J J J J <|Yl (Xc J J J) J J J J <|dt (Ya J J J) J <|mv J J <|Xo (d := 51) J (fun s196_5 => ?_) (fun s196_5 => ?_)
     ·exact Yx J J J J J <|Yx J J J J J <|Yx J J J J J <|gsku J J J <|gsku J J J <|Yx J J J J J <|dt (Yk J J J) J <|Zc <|Za <|Qe J <|Zb <|Zd <|tt (Zg (n := 3) (law_known) J J J trivial cF11 Zf J hw) J fun _ _ => Zl J J <|Zc <|Za <|Zr <|Yt <|Zs (.inl J) hsc () _ (fun a w hs => Yr hs Tryz.results7 J) J trivial J Zj
     ·refine Yl (Zx J J) J J J J <|Yl (Xc J J J) J J J J <|Yl (Zx J J) J J J J <|Xo (d := 54) J (fun s196_6 => ?_) (fun s196_6 => ?_)
      ·refine Yl (Zx J J) J J J J <|Yl (d_leq J J J) J J J J <|Yl (Yk J J J) J J J J <|dt (Ya J J J) J <|Zc <|Za <|Zp J (fun h196 => ?_) (fun h196 => ?_)
       ·exact Zb <|Zd <|tt (Zg (n := 3) (law_known) J J J trivial cF11 Zf J hw) J fun _ _ => Zl J J <|Zc <|Za <|Zr <|Yt <|Zs (.inl J) hsc () _ (fun a w hs => Yr hs Tryz.results7 J) J trivial J Zj
       ·exfalso; omega
      ·refine Yx J J J J J <|Yx J J J J J <|Yl (Ya J J J) J J J J <|dt (Ya J J J) J <|Zc <|Za <|Yn J <|Zk <|Za <|Zb <|Zb ?_
       exfalso; omega
set_option maxHeartbeats 4000000 in
theorem law_iso_nob (v : Value) (r : List (Bool × ByteArray)) (z1 z2 : (Bool × ByteArray) × (Bool × ByteArray)) (hq : Int) (h6 : r.length ≤ 6) (e1 : (z1.1.2).size ≤ 3) (e2 : (z1.2.2).size ≤ 3) (e3 : (z2.1.2).size ≤ 3) (e4 : (z2.2.2).size ≤ 3) (hm : ¬ (20 < hq ∧ hq ≤ 200)) (hx : ¬ ∀ i, i < r.length → (r.getD i (false, ⟨#[]⟩)).2.size ≤ 2) : Cal Tryz.prog 7 #[v, .agg #[.bool z1.1.1, .string z1.1.2, .bool z1.2.1, .string z1.2.2], .agg #[.bool z2.1.1, .string z2.1.2, .bool z2.2.1, .string z2.2.2], .int .i64 hq] [slp 2 encW v r] false (G := Unit) (fun _ => True) (fun _ => .bool true) (fun _ => []) := by
 refine Yb Tryz.func7 J Tryz.ntmps7 J K1 ?_
 intro w0 sc hw hsc
 simp only [Zn, Zm]
 refine Ye (Qb 999 2 28 wv) <|Ye (Xl 999 J J pV) <|Zb <|Zd <|tt (Ym (i := 2) J J J J J J hw) J fun bx _ => tt (Ym (i := 3) J J J J J J hw) J fun bx_2 _ => Zl J J <|Zc <|Za <|Zb <|Zb <|Zd <|mv J J <|dt (Zv J J (i := 1) J Zi uT23) J <|dt (Yd (r' := .bool false) (Xc J J J) (congrArg Value.bool (decide_eq_false (by omega)))) J <|mv J J <|Yl (Yi J J uT49 J zT28 J J) J J J J <|Yl (Yi J J uT28 J zT9 J J) J J J J <|Yl (Xe (i := 2) J J J iA9 J) J J J J <|Yl (Xx J J uT9) J J J J <|Yl (Yd (r' := .bool false) (Xc J J J) (congrArg Value.bool (decide_eq_false (by omega)))) J J J J <|dt (Ya J J J) J <|mv J J <|Yl (Yi J J uT49 J zT28 J J) J J J J <|Yl (Yi J J uT28 J zT9 J J) J J J J <|Yl (Xe (i := 2) J J J iA9 J) J J J J <|Yl (Xx J J uT9) J J J J <|Yl (Yd (r' := .bool false) (Xc J J J) (congrArg Value.bool (decide_eq_false (by omega)))) J J J J <|dt (Ya J J J) J <|mv J J <|Yl (Yi J J uT49 J zT28 J J) J J J J <|Yl (Yi J J uT28 J zT9 J J) J J J J <|Yl (Xe (i := 3) J J J iA9 J) J J J J <|Yl (Xx J J uT9) J J J J <|Yl (Yd (r' := .bool false) (Xc J J J) (congrArg Value.bool (decide_eq_false (by omega)))) J J J J <|dt (Ya J J J) J <|mv J J <|Yl (Yi J J uT49 J zT28 J J) J J J J <|Yl (Yi J J uT28 J zT9 J J) J J J J <|Yl (Xe (i := 3) J J J iA9 J) J J J J ?_
 refine Yl (Xx J J uT9) J J J J <|Yl (Yd (r' := .bool false) (Xc J J J) (congrArg Value.bool (decide_eq_false (by omega)))) J J J J <|dt (Ya J J J) J <|mv J J <|Yl (Zx J J) J J J J <|Yl (Xc J J J) J J J J <|Yl (Zx J J) J J J J <|Xo (d := 54) J (fun s196 => ?_) (fun s196 => ?_)
 ·refine Yl (Zx J J) J J J J <|Yl (d_leq J J J) J J J J <|Yl (Yk J J J) J J J J <|dt (Ya J J J) J <|Zc <|Za <|Zp J (fun h196 => ?_) (fun h196 => ?_)
  ·exfalso; omega
  ·refine Zk <|Za <|Zb <|Zb <|Zd <|mv J J <|dt (Zv J J (i := 1) J Zi uT23) J <|mv J J <|Zc <|Za <|Zo <|Xw [(0, _), (3, _), (5, _), (6, _), (60, _), (61, _)] [(0, _), (1, _), (999, _), (2, _), (3, _)] (fun (i : Nat) => [(62, .int .i64 (i : Int))]) (fun (i : Nat) => []) (fun (i : Nat) => (i ≤ r.length) ∧ (∀ k, k < i → (r.getD k (false, ⟨#[]⟩)).2.size ≤ 2)) (fun (i : Nat) => r.length - i) 0 ⟨by first | omega | (dsimp only <;> omega), fun k hk => absurd hk (Nat.not_lt_zero k)⟩ K7 K5 ?_
   rintro i ⟨hi, hk⟩
   simp only [List.cons_append, List.nil_append]
   refine Zb <|Zd <|dt (Xb J J J) J <|Zc <|Za <|Zb <|Zp J (fun h199 => ?_) (fun h199 => ?_)
   ·refine Zk <|Za <|Zb <|Zo <|Zb <|Zd <|dt (Yh (ii := 1) J J J J Zi uT23 zT28 J (by first | omega | (simp only [List.length_set]; omega))) J <|dt (Yu (ii := 1) (false, ⟨#[]⟩) J J J Zi pW (by first | omega | (simp only [List.length_set]; omega))) J <|tt (Zw (i := 4) J J J Tryz.zeroValue28 J J hw) J fun bx_3 _ => tt (Zq (i := 4) J J J J J (by decide) J zT28 J J ⟨(Zh J), (Zh J), trivial⟩ J hw trivial) J fun _ _ => Zc <|Za <|Zb <|Zd <|dt (Yi J J uT28 J zT9 J J) J <|dt (Xe (i := 4) J J J iA9 J) J <|dt (Xx J J uT9) J <|dt (Xc J J J) J <|Zc <|Za <|Zp J (fun h200 => ?_) (fun h200 => ?_)
    ·exact Zb <|Zd <|tt (Zg (n := 4) (law_known) J J J trivial cF11 Zf J hw) J fun _ _ => Zl J J <|Zc <|Za <|Zr <|Qs <|Yt <|Yt <|Qs <|Yt <|Zs (.inl J) hsc () _ (fun a w hs => Yr hs Tryz.results7 J) J trivial J Zj
    ·exact Zk <|Xm <|Za <|Zd <|dt (Yj J J J ⟨by omega, by omega⟩) J <|mv J J <|Zc <|Yy (i + 1) ⟨by first | omega | (dsimp only <;> omega), fun k hk2 => by rcases Nat.lt_succ_iff_lt_or_eq.1 hk2 with h9 | h9; exact hk k h9; subst h9; omega⟩ (by first | omega | (dsimp only <;> omega)) K7 K5
   ·refine Ys <|Zu <|Zu <|Xs <|Za <|Zb ?_
    exfalso; exact hx fun k hk2 => hk k (by omega)
 ·refine Yx J J J J J <|Yx J J J J J <|Yl (Ya J J J) J J J J <|dt (Ya J J J) J <|Zc <|Za <|Yn J <|Zk <|Za <|Zb <|Zb <|Zd <|mv J J <|dt (Zv J J (i := 1) J Zi uT23) J <|mv J J <|Zc <|Za <|Zo <|Xw [(0, _), (3, _), (5, _), (6, _), (60, _), (61, _)] [(0, _), (1, _), (999, _), (2, _), (3, _)] (fun (i : Nat) => [(62, .int .i64 (i : Int))]) (fun (i : Nat) => []) (fun (i : Nat) => (i ≤ r.length) ∧ (∀ k, k < i → (r.getD k (false, ⟨#[]⟩)).2.size ≤ 2)) (fun (i : Nat) => r.length - i) 0 ⟨by first | omega | (dsimp only <;> omega), fun k hk => absurd hk (Nat.not_lt_zero k)⟩ K7 K5 ?_
  rintro i ⟨hi, hk⟩
  simp only [List.cons_append, List.nil_append]
  refine Zb <|Zd <|dt (Xb J J J) J <|Zc <|Za <|Zb <|Zp J (fun h199_2 => ?_) (fun h199_2 => ?_)
  ·refine Zk <|Za <|Zb <|Zo <|Zb <|Zd <|dt (Yh (ii := 1) J J J J Zi uT23 zT28 J (by first | omega | (simp only [List.length_set]; omega))) J <|dt (Yu (ii := 1) (false, ⟨#[]⟩) J J J Zi pW (by first | omega | (simp only [List.length_set]; omega))) J <|tt (Zw (i := 5) J J J Tryz.zeroValue28 J J hw) J fun bx_4 _ => tt (Zq (i := 5) J J J J J (by decide) J zT28 J J ⟨(Zh J), (Zh J), trivial⟩ J hw trivial) J fun _ _ => Zc <|Za <|Zb <|Zd <|dt (Yi J J uT28 J zT9 J J) J <|dt (Xe (i := 5) J J J iA9 J) J <|dt (Xx J J uT9) J <|dt (Xc J J J) J <|Zc <|Za <|Zp J (fun h200_2 => ?_) (fun h200_2 => ?_)
   ·exact Zb <|Zd <|tt (Zg (n := 5) (law_known) J J J trivial cF11 Zf J hw) J fun _ _ => Zl J J <|Zc <|Za <|Zr <|Qs <|Yt <|Yt <|Qs <|Yt <|Zs (.inl J) hsc () _ (fun a w hs => Yr hs Tryz.results7 J) J trivial J Zj
   ·exact Zk <|Xm <|Za <|Zd <|dt (Yj J J J ⟨by omega, by omega⟩) J <|mv J J <|Zc <|Yy (i + 1) ⟨by first | omega | (dsimp only <;> omega), fun k hk2 => by rcases Nat.lt_succ_iff_lt_or_eq.1 hk2 with h9 | h9; exact hk k h9; subst h9; omega⟩ (by first | omega | (dsimp only <;> omega)) K7 K5
  ·refine Ys <|Zu <|Zu <|Xs <|Za <|Zb ?_
   exfalso; exact hx fun k hk2 => hk k (by omega)
set_option maxHeartbeats 4000000 in
theorem law_iso_argl (v : Value) (r : List (Bool × ByteArray)) (z1 z2 : (Bool × ByteArray) × (Bool × ByteArray)) (hq : Int) (h6 : r.length ≤ 6) (hb2 : ∀ i, i < r.length → (r.getD i (false, ⟨#[]⟩)).2.size ≤ 2) (e1 : (z1.1.2).size ≤ 3) (e2 : (z1.2.2).size ≤ 3) (e3 : (z2.1.2).size ≤ 3) (e4 : (z2.2.2).size ≤ 3) (hh : hq < 0) : Cal Tryz.prog 7 #[v, .agg #[.bool z1.1.1, .string z1.1.2, .bool z1.2.1, .string z1.2.2], .agg #[.bool z2.1.1, .string z2.1.2, .bool z2.2.1, .string z2.2.2], .int .i64 hq] [slp 2 encW v r] false (G := Unit) (fun _ => True) (fun _ => .bool true) (fun _ => []) := by
 refine Yb Tryz.func7 J Tryz.ntmps7 J K1 ?_
 intro w0 sc hw hsc
 simp only [Zn, Zm]
 refine Ye (Qb 999 2 28 wv) <|Ye (Xl 999 J J pV) <|Zb <|Zd <|tt (Ym (i := 2) J J J J J J hw) J fun bx _ => tt (Ym (i := 3) J J J J J J hw) J fun bx_2 _ => Zl J J <|Zc <|Za <|Zb <|Zb <|Zd <|mv J J <|dt (Zv J J (i := 1) J Zi uT23) J <|dt (Yd (r' := .bool false) (Xc J J J) (congrArg Value.bool (decide_eq_false (by omega)))) J <|mv J J <|Yl (Yi J J uT49 J zT28 J J) J J J J <|Yl (Yi J J uT28 J zT9 J J) J J J J <|Yl (Xe (i := 2) J J J iA9 J) J J J J <|Yl (Xx J J uT9) J J J J <|Yl (Yd (r' := .bool false) (Xc J J J) (congrArg Value.bool (decide_eq_false (by omega)))) J J J J <|dt (Ya J J J) J <|mv J J <|Yl (Yi J J uT49 J zT28 J J) J J J J <|Yl (Yi J J uT28 J zT9 J J) J J J J <|Yl (Xe (i := 2) J J J iA9 J) J J J J <|Yl (Xx J J uT9) J J J J <|Yl (Yd (r' := .bool false) (Xc J J J) (congrArg Value.bool (decide_eq_false (by omega)))) J J J J <|dt (Ya J J J) J <|mv J J <|Yl (Yi J J uT49 J zT28 J J) J J J J <|Yl (Yi J J uT28 J zT9 J J) J J J J <|Yl (Xe (i := 3) J J J iA9 J) J J J J <|Yl (Xx J J uT9) J J J J <|Yl (Yd (r' := .bool false) (Xc J J J) (congrArg Value.bool (decide_eq_false (by omega)))) J J J J <|dt (Ya J J J) J <|mv J J <|Yl (Yi J J uT49 J zT28 J J) J J J J <|Yl (Yi J J uT28 J zT9 J J) J J J J <|Yl (Xe (i := 3) J J J iA9 J) J J J J ?_
 refine Yl (Xx J J uT9) J J J J <|Yl (Yd (r' := .bool false) (Xc J J J) (congrArg Value.bool (decide_eq_false (by omega)))) J J J J <|dt (Ya J J J) J <|mv J J <|Yl (Zx J J) J J J J <|Yl (Yd (r' := .bool false) (Xc J J J) (congrArg Value.bool (decide_eq_false (by omega)))) J J J J <|Yl (Zx J J) J J J J <|Yx J J J J J <|Yx J J J J J <|Yl (Ya J J J) J J J J <|dt (Ya J J J) J <|Zc <|Za <|Yn J <|Zk <|Za <|Zb <|Zb <|Zd <|mv J J <|dt (Zv J J (i := 1) J Zi uT23) J <|mv J J <|Zc <|Za <|Zo <|Xw [(0, _), (3, _), (5, _), (6, _), (60, _), (61, _)] [(0, _), (1, _), (999, _), (2, _), (3, _)] (fun (i : Nat) => [(62, .int .i64 (i : Int))]) (fun (i : Nat) => []) (fun (i : Nat) => (i ≤ r.length)) (fun (i : Nat) => r.length - i) 0 (by first | omega | (dsimp only <;> omega)) K7 K5 ?_
 rintro i hi
 simp only [List.cons_append, List.nil_append]
 refine Zb <|Zd <|dt (Xb J J J) J <|Zc <|Za <|Zb <|Zp J (fun h199 => ?_) (fun h199 => ?_)
 ·refine Zk <|Za <|Zb <|Zo <|Zb <|Zd <|dt (Yh (ii := 1) J J J J Zi uT23 zT28 J (by first | omega | (simp only [List.length_set]; omega))) J <|dt (Yu (ii := 1) (false, ⟨#[]⟩) J J J Zi pW (by first | omega | (simp only [List.length_set]; omega))) J <|tt (Zw (i := 4) J J J Tryz.zeroValue28 J J hw) J fun bx_3 _ => tt (Zq (i := 4) J J J J J (by decide) J zT28 J J ⟨(Zh J), (Zh J), trivial⟩ J hw trivial) J fun _ _ => Zc <|Za <|Zb <|Zd <|dt (Yi J J uT28 J zT9 J J) J <|dt (Xe (i := 4) J J J iA9 J) J <|dt (Xx J J uT9) J <|dt (Xc J J J) J <|Zc <|Za <|Zp J (fun h200 => ?_) (fun h200 => ?_)
  ·exfalso; have h9 := hb2 i (by omega); omega
  ·exact Zk <|Xm <|Za <|Zd <|dt (Yj J J J ⟨by omega, by omega⟩) J <|mv J J <|Zc <|Yy (i + 1) (by first | omega | (dsimp only <;> omega)) (by first | omega | (dsimp only <;> omega)) K7 K5
 ·exact Ys <|Zu <|Zu <|Xs <|Za <|Zb <|Zd <|mv J J <|dt (Xi (i := 2) J J J iA49 zT49 J J J J) J <|dt (Xi (i := 3) J J J iA49 zT49 J J J J) J <|mv J J <|tt (Zg (n := 4) (st_isolate_arg _ _ z1 z2 hq (.inl hh)) J J J K4 cF35 (Ze 1 J J J Zf) J hw) J fun _ _ => mv J J <|dt (Zy J J J) J <|dt (Zy J J J) J <|Zl J J <|Zl J J <|Zc <|Za <|Zb <|Zb <|Zd <|mv J J <|dt (Yd (r' := .bool true) (Xb J J J) (congrArg Value.bool (decide_eq_true (by omega)))) J <|mv J J <|Yx J J J J J <|Yx J J J J J <|dt (Yk J J J) J <|Zc <|Za <|Qe J <|Zb <|Zd <|mv J J <|dt (Zv J J (i := 999) J Zi uT69) J <|dt (Yd (r' := .bool true) (Xy J J J) (congrArg Value.bool (decide_eq_true J))) J <|mv J J <|Yl (Zx J J) J J J J <|Yl (Yd (r' := .bool true) (Xy J J J) (congrArg Value.bool (by decide))) J J J J <|dt (Yk J J J) J <|mv J J <|gtt (Zg (n := 4) (law_known) J J J trivial cF11 Zf J hw) J J J J fun _ _ => dt (Yk J J J) J <|Zl J J <|Zc <|Za <|Zr <|Yt <|Zs (.inl J) hsc () _ (fun a w hs => Yr hs Tryz.results7 J) J trivial J Zj
set_option maxHeartbeats 4000000 in
theorem law_iso_argh (v : Value) (r : List (Bool × ByteArray)) (z1 z2 : (Bool × ByteArray) × (Bool × ByteArray)) (hq : Int) (h6 : r.length ≤ 6) (hb2 : ∀ i, i < r.length → (r.getD i (false, ⟨#[]⟩)).2.size ≤ 2) (e1 : (z1.1.2).size ≤ 3) (e2 : (z1.2.2).size ≤ 3) (e3 : (z2.1.2).size ≤ 3) (e4 : (z2.2.2).size ≤ 3) (hh : 200 < hq) : Cal Tryz.prog 7 #[v, .agg #[.bool z1.1.1, .string z1.1.2, .bool z1.2.1, .string z1.2.2], .agg #[.bool z2.1.1, .string z2.1.2, .bool z2.2.1, .string z2.2.2], .int .i64 hq] [slp 2 encW v r] false (G := Unit) (fun _ => True) (fun _ => .bool true) (fun _ => []) := by
 refine Yb Tryz.func7 J Tryz.ntmps7 J K1 ?_
 intro w0 sc hw hsc
 simp only [Zn, Zm]
 refine Ye (Qb 999 2 28 wv) <|Ye (Xl 999 J J pV) <|Zb <|Zd <|tt (Ym (i := 2) J J J J J J hw) J fun bx _ => tt (Ym (i := 3) J J J J J J hw) J fun bx_2 _ => Zl J J <|Zc <|Za <|Zb <|Zb <|Zd <|mv J J <|dt (Zv J J (i := 1) J Zi uT23) J <|dt (Yd (r' := .bool false) (Xc J J J) (congrArg Value.bool (decide_eq_false (by omega)))) J <|mv J J <|Yl (Yi J J uT49 J zT28 J J) J J J J <|Yl (Yi J J uT28 J zT9 J J) J J J J <|Yl (Xe (i := 2) J J J iA9 J) J J J J <|Yl (Xx J J uT9) J J J J <|Yl (Yd (r' := .bool false) (Xc J J J) (congrArg Value.bool (decide_eq_false (by omega)))) J J J J <|dt (Ya J J J) J <|mv J J <|Yl (Yi J J uT49 J zT28 J J) J J J J <|Yl (Yi J J uT28 J zT9 J J) J J J J <|Yl (Xe (i := 2) J J J iA9 J) J J J J <|Yl (Xx J J uT9) J J J J <|Yl (Yd (r' := .bool false) (Xc J J J) (congrArg Value.bool (decide_eq_false (by omega)))) J J J J <|dt (Ya J J J) J <|mv J J <|Yl (Yi J J uT49 J zT28 J J) J J J J <|Yl (Yi J J uT28 J zT9 J J) J J J J <|Yl (Xe (i := 3) J J J iA9 J) J J J J <|Yl (Xx J J uT9) J J J J <|Yl (Yd (r' := .bool false) (Xc J J J) (congrArg Value.bool (decide_eq_false (by omega)))) J J J J <|dt (Ya J J J) J <|mv J J <|Yl (Yi J J uT49 J zT28 J J) J J J J <|Yl (Yi J J uT28 J zT9 J J) J J J J <|Yl (Xe (i := 3) J J J iA9 J) J J J J ?_
 refine Yl (Xx J J uT9) J J J J <|Yl (Yd (r' := .bool false) (Xc J J J) (congrArg Value.bool (decide_eq_false (by omega)))) J J J J <|dt (Ya J J J) J <|mv J J <|Yl (Zx J J) J J J J <|Yl (Yd (r' := .bool true) (Xc J J J) (congrArg Value.bool (decide_eq_true (by omega)))) J J J J <|Yl (Zx J J) J J J J <|Yl (Zx J J) J J J J <|Yl (Yd (r' := .bool false) (d_leq J J J) (congrArg Value.bool (decide_eq_false (by omega)))) J J J J <|Yl (Yk J J J) J J J J <|dt (Ya J J J) J <|Zc <|Za <|Yn J <|Zk <|Za <|Zb <|Zb <|Zd <|mv J J <|dt (Zv J J (i := 1) J Zi uT23) J <|mv J J <|Zc <|Za <|Zo <|Xw [(0, _), (3, _), (5, _), (6, _), (60, _), (61, _)] [(0, _), (1, _), (999, _), (2, _), (3, _)] (fun (i : Nat) => [(62, .int .i64 (i : Int))]) (fun (i : Nat) => []) (fun (i : Nat) => (i ≤ r.length)) (fun (i : Nat) => r.length - i) 0 (by first | omega | (dsimp only <;> omega)) K7 K5 ?_
 rintro i hi
 simp only [List.cons_append, List.nil_append]
 refine Zb <|Zd <|dt (Xb J J J) J <|Zc <|Za <|Zb <|Zp J (fun h199 => ?_) (fun h199 => ?_)
 ·refine Zk <|Za <|Zb <|Zo <|Zb <|Zd <|dt (Yh (ii := 1) J J J J Zi uT23 zT28 J (by first | omega | (simp only [List.length_set]; omega))) J <|dt (Yu (ii := 1) (false, ⟨#[]⟩) J J J Zi pW (by first | omega | (simp only [List.length_set]; omega))) J <|tt (Zw (i := 4) J J J Tryz.zeroValue28 J J hw) J fun bx_3 _ => tt (Zq (i := 4) J J J J J (by decide) J zT28 J J ⟨(Zh J), (Zh J), trivial⟩ J hw trivial) J fun _ _ => Zc <|Za <|Zb <|Zd <|dt (Yi J J uT28 J zT9 J J) J <|dt (Xe (i := 4) J J J iA9 J) J <|dt (Xx J J uT9) J <|dt (Xc J J J) J <|Zc <|Za <|Zp J (fun h200 => ?_) (fun h200 => ?_)
  ·exfalso; have h9 := hb2 i (by omega); omega
  ·exact Zk <|Xm <|Za <|Zd <|dt (Yj J J J ⟨by omega, by omega⟩) J <|mv J J <|Zc <|Yy (i + 1) (by first | omega | (dsimp only <;> omega)) (by first | omega | (dsimp only <;> omega)) K7 K5
 ·exact Ys <|Zu <|Zu <|Xs <|Za <|Zb <|Zd <|mv J J <|dt (Xi (i := 2) J J J iA49 zT49 J J J J) J <|dt (Xi (i := 3) J J J iA49 zT49 J J J J) J <|mv J J <|tt (Zg (n := 4) (st_isolate_arg _ _ z1 z2 hq (.inr hh)) J J J K4 cF35 (Ze 1 J J J Zf) J hw) J fun _ _ => mv J J <|dt (Zy J J J) J <|dt (Zy J J J) J <|Zl J J <|Zl J J <|Zc <|Za <|Zb <|Zb <|Zd <|mv J J <|dt (Yd (r' := .bool false) (Xb J J J) (congrArg Value.bool (decide_eq_false (by omega)))) J <|mv J J <|Yl (Zx J J) J J J J <|Yl (Yd (r' := .bool true) (Xc J J J) (congrArg Value.bool (decide_eq_true (by omega)))) J J J J <|dt (Ya J J J) J <|Zc <|Za <|Qe J <|Zb <|Zd <|mv J J <|dt (Zv J J (i := 999) J Zi uT69) J <|dt (Yd (r' := .bool true) (Xy J J J) (congrArg Value.bool (decide_eq_true J))) J <|mv J J <|Yl (Zx J J) J J J J <|Yl (Yd (r' := .bool true) (Xy J J J) (congrArg Value.bool (by decide))) J J J J <|dt (Yk J J J) J <|mv J J <|gtt (Zg (n := 4) (law_known) J J J trivial cF11 Zf J hw) J J J J fun _ _ => dt (Yk J J J) J <|Zl J J <|Zc <|Za <|Zr <|Yt <|Zs (.inl J) hsc () _ (fun a w hs => Yr hs Tryz.results7 J) J trivial J Zj
set_option maxHeartbeats 4000000 in
theorem law_iso_err (v : Value) (r : List (Bool × ByteArray)) (z1 z2 : (Bool × ByteArray) × (Bool × ByteArray)) (hq : Int) (h6 : r.length ≤ 6) (hb2 : ∀ i, i < r.length → (r.getD i (false, ⟨#[]⟩)).2.size ≤ 2) (e1 : (z1.1.2).size ≤ 3) (e2 : (z1.2.2).size ≤ 3) (e3 : (z2.1.2).size ≤ 3) (e4 : (z2.2.2).size ≤ 3) (hh : 0 ≤ hq ∧ hq ≤ 20) (hf : firstR r z1 z2 ≠ 0) : Cal Tryz.prog 7 #[v, .agg #[.bool z1.1.1, .string z1.1.2, .bool z1.2.1, .string z1.2.2], .agg #[.bool z2.1.1, .string z2.1.2, .bool z2.2.1, .string z2.2.2], .int .i64 hq] [slp 2 encW v r] false (G := Unit) (fun _ => True) (fun _ => .bool true) (fun _ => []) := by
 refine Yb Tryz.func7 J Tryz.ntmps7 J K1 ?_
 intro w0 sc hw hsc
 simp only [Zn, Zm]
 refine Ye (Qb 999 2 28 wv) <|Ye (Xl 999 J J pV) <|Zb <|Zd <|tt (Ym (i := 2) J J J J J J hw) J fun bx _ => tt (Ym (i := 3) J J J J J J hw) J fun bx_2 _ => Zl J J <|Zc <|Za <|Zb <|Zb <|Zd <|mv J J <|dt (Zv J J (i := 1) J Zi uT23) J <|dt (Yd (r' := .bool false) (Xc J J J) (congrArg Value.bool (decide_eq_false (by omega)))) J <|mv J J <|Yl (Yi J J uT49 J zT28 J J) J J J J <|Yl (Yi J J uT28 J zT9 J J) J J J J <|Yl (Xe (i := 2) J J J iA9 J) J J J J <|Yl (Xx J J uT9) J J J J <|Yl (Yd (r' := .bool false) (Xc J J J) (congrArg Value.bool (decide_eq_false (by omega)))) J J J J <|dt (Ya J J J) J <|mv J J <|Yl (Yi J J uT49 J zT28 J J) J J J J <|Yl (Yi J J uT28 J zT9 J J) J J J J <|Yl (Xe (i := 2) J J J iA9 J) J J J J <|Yl (Xx J J uT9) J J J J <|Yl (Yd (r' := .bool false) (Xc J J J) (congrArg Value.bool (decide_eq_false (by omega)))) J J J J <|dt (Ya J J J) J <|mv J J <|Yl (Yi J J uT49 J zT28 J J) J J J J <|Yl (Yi J J uT28 J zT9 J J) J J J J <|Yl (Xe (i := 3) J J J iA9 J) J J J J <|Yl (Xx J J uT9) J J J J <|Yl (Yd (r' := .bool false) (Xc J J J) (congrArg Value.bool (decide_eq_false (by omega)))) J J J J <|dt (Ya J J J) J <|mv J J <|Yl (Yi J J uT49 J zT28 J J) J J J J <|Yl (Yi J J uT28 J zT9 J J) J J J J <|Yl (Xe (i := 3) J J J iA9 J) J J J J ?_
 refine Yl (Xx J J uT9) J J J J <|Yl (Yd (r' := .bool false) (Xc J J J) (congrArg Value.bool (decide_eq_false (by omega)))) J J J J <|dt (Ya J J J) J <|mv J J <|Yl (Zx J J) J J J J <|Yl (Yd (r' := .bool false) (Xc J J J) (congrArg Value.bool (decide_eq_false (by omega)))) J J J J <|Yl (Zx J J) J J J J <|Yx J J J J J <|Yx J J J J J <|Yl (Ya J J J) J J J J <|dt (Ya J J J) J <|Zc <|Za <|Yn J <|Zk <|Za <|Zb <|Zb <|Zd <|mv J J <|dt (Zv J J (i := 1) J Zi uT23) J <|mv J J <|Zc <|Za <|Zo <|Xw [(0, _), (3, _), (5, _), (6, _), (60, _), (61, _)] [(0, _), (1, _), (999, _), (2, _), (3, _)] (fun (i : Nat) => [(62, .int .i64 (i : Int))]) (fun (i : Nat) => []) (fun (i : Nat) => (i ≤ r.length)) (fun (i : Nat) => r.length - i) 0 (by first | omega | (dsimp only <;> omega)) K7 K5 ?_
 rintro i hi
 simp only [List.cons_append, List.nil_append]
 refine Zb <|Zd <|dt (Xb J J J) J <|Zc <|Za <|Zb <|Zp J (fun h199 => ?_) (fun h199 => ?_)
 ·refine Zk <|Za <|Zb <|Zo <|Zb <|Zd <|dt (Yh (ii := 1) J J J J Zi uT23 zT28 J (by first | omega | (simp only [List.length_set]; omega))) J <|dt (Yu (ii := 1) (false, ⟨#[]⟩) J J J Zi pW (by first | omega | (simp only [List.length_set]; omega))) J <|tt (Zw (i := 4) J J J Tryz.zeroValue28 J J hw) J fun bx_3 _ => tt (Zq (i := 4) J J J J J (by decide) J zT28 J J ⟨(Zh J), (Zh J), trivial⟩ J hw trivial) J fun _ _ => Zc <|Za <|Zb <|Zd <|dt (Yi J J uT28 J zT9 J J) J <|dt (Xe (i := 4) J J J iA9 J) J <|dt (Xx J J uT9) J <|dt (Xc J J J) J <|Zc <|Za <|Zp J (fun h200 => ?_) (fun h200 => ?_)
  ·exfalso; have h9 := hb2 i (by omega); omega
  ·exact Zk <|Xm <|Za <|Zd <|dt (Yj J J J ⟨by omega, by omega⟩) J <|mv J J <|Zc <|Yy (i + 1) (by first | omega | (dsimp only <;> omega)) (by first | omega | (dsimp only <;> omega)) K7 K5
 ·refine Ys <|Zu <|Zu <|Xs <|Za <|Zb <|Zd <|mv J J <|dt (Xi (i := 2) J J J iA49 zT49 J J J J) J <|dt (Xi (i := 3) J J J iA49 zT49 J J J J) J <|mv J J <|tt (Zg (n := 4) (st_isolate_rawerr _ _ z1 z2 hq (small6 h6 hb2) (by omega) (by omega) (by omega) (by omega) ⟨by omega, by omega⟩ hf) J J J K4 cF35 (Ze 1 J J J Zf) J hw) J fun _ _ => mv J J <|dt (Zy J J J) J <|dt (Zy J J J) J <|Zl J J <|Zl J J <|Zc <|Za <|Zb <|Zb <|Zd <|mv J J <|dt (Yd (r' := .bool false) (Xb J J J) (congrArg Value.bool (decide_eq_false (by omega)))) J <|mv J J <|Yl (Zx J J) J J J J <|Yl (Yd (r' := .bool false) (Xc J J J) (congrArg Value.bool (decide_eq_false (by omega)))) J J J J <|dt (Ya J J J) J <|Zc <|Za <|Yn J <|Zk <|Za <|Zb <|Zb <|Zd <|mv J J <|dt (Xi (i := 2) J J J iA49 zT49 J J J J) J <|dt (Xi (i := 3) J J J iA49 zT49 J J J J) J <|tt (Zg (n := 4) (law_first_raw _ _ z1 z2) J J J K3 cF21 (Ze 1 J J J Zf) J hw) J fun _ _ => Zl J J <|Zc <|Za <|Zb <|Zd <|mv J J <|dt (Yd (r' := .bool true) (Xf J J J) (congrArg Value.bool (decide_eq_true hf))) J <|Zc <|Za <|Qe J <|Zb <|Zd <|mv J J <|dt (Zv J J (i := 999) J Zi uT69) J ?_
  exact dt (Yd (r' := .bool true) (Xy J J J) (congrArg Value.bool (decide_eq_true J))) J <|mv J J <|Yl (Zx J J) J J J J <|Yl (Zx J J) J J J J <|Yl (Yd (r' := .bool true) (Xy J J J) (congrArg Value.bool (by simp))) J J J J <|dt (Yk J J J) J <|mv J J <|gtt (Zg (n := 4) (law_known) J J J trivial cF11 Zf J hw) J J J J fun _ _ => dt (Yk J J J) J <|Zl J J <|Zc <|Za <|Zr <|Yt <|Zs (.inl J) hsc () _ (fun a w hs => Yr hs Tryz.results7 J) J trivial J Zj
end Go.Sky

