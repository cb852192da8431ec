/- rules, arithmetic and contracts: part 15
   Proved without conditions of its own: each theorem bears its own. -/
import Derived.Test.YtcegclhbeflgbaaGreatSh13
import Derived.Test.YtcegclhbeflgbaaGreatSh11
import Derived.Test.YtcegclhbeflgbaaGreatSh04
import Derived.Test.YtcegclhbeflgbaaGreatSh02
import Derived.Test.YtcegclhbeflgbaaGreatSh01
import Derived.Test.YtcegclhbeflgbaaGreatSh03
import Derived.Test.YtcegclhbeflgbaaGreatSh12
set_option linter.all false
namespace Go.Sky
set_option linter.unusedVariables false
def eB (K C : Nat) : Nat → Nat
  | 0 => 0
  | n + 1 => C + K * eB K C n
def eL (K C : Nat) : Nat → Nat
  | 0 => 0
  | n + 1 => K * eL K C n + eB K C n
def eM (K C : Nat) : Nat → Nat
  | 0 => 0
  | n + 1 => eL K C n + K * eM K C n
theorem rat_nat {a b : Nat} (h : a ≤ b) : (a : Rat) ≤ (b : Rat) := by exact_mod_cast h
theorem cf_rat {c : Int} {C : Nat} (h : c.natAbs ≤ C) : -(C : Rat) ≤ (c : Rat) ∧ (c : Rat) ≤ (C : Rat) := by
  have h1 : ((-(C : Int) : Int) : Rat) ≤ (c : Rat) := by exact_mod_cast (show -(C : Int) ≤ c by omega)
  have h2 : (c : Rat) ≤ (((C : Nat) : Int) : Rat) := by exact_mod_cast (show c ≤ (C : Int) by omega)
  push_cast at h1 h2
  constructor <;> grind
theorem cf_tail {c : Int} {p : List Int} {C : Nat} (h : ∀ i, (cf (c :: p) i).natAbs ≤ C) : c.natAbs ≤ C ∧ ∀ i, (cf p i).natAbs ≤ C := ⟨h 0, fun i => h (i + 1)⟩
theorem rev_eB {K C : Nat} : ∀ (n : Nat) (p : List Int), p.length ≤ n → (∀ i, (cf p i).natAbs ≤ C) → ∀ x : Rat, -(K : Rat) ≤ x → x ≤ (K : Rat) → -(eB K C n : Rat) ≤ rev p x ∧ rev p x ≤ (eB K C n : Rat)
  | n, [], _, _, x, _, _ => by
    have h : (0 : Rat) ≤ (eB K C n : Rat) := rat_nat (Nat.zero_le _)
    show -(eB K C n : Rat) ≤ 0 ∧ (0 : Rat) ≤ (eB K C n : Rat)
    constructor <;> grind
  | 0, c :: p, hl, _, _, _, _ => absurd hl (by simp)
  | n + 1, c :: p, hl, hc, x, h1, h2 => by
    obtain ⟨hc0, hc1⟩ := cf_tail hc
    obtain ⟨a1, a2⟩ := rev_eB n p (by simpa using hl) hc1 x h1 h2
    obtain ⟨b1, b2⟩ := cf_rat hc0
    have hK : (0 : Rat) ≤ (K : Rat) := rat_nat (Nat.zero_le _)
    obtain ⟨f1, f2⟩ := qg_le h1 h2 a1 a2 hK
    have e : ((eB K C (n + 1) : Nat) : Rat) = (C : Rat) + (K : Rat) * (eB K C n : Rat) := by show ((C + K * eB K C n : Nat) : Rat) = _; push_cast; rfl
    rw [e, show rev (c :: p) x = (c : Rat) + x * rev p x from rfl]
    constructor <;> grind
theorem rev_eL {K C : Nat} : ∀ (n : Nat) (p : List Int), p.length ≤ n → (∀ i, (cf p i).natAbs ≤ C) → Lip (-(K : Rat)) (K : Rat) (eL K C n : Rat) (rev p)
  | n, [], _, _, x, y, _, hxy, _ => by
    have h : (0 : Rat) ≤ (eL K C n : Rat) := rat_nat (Nat.zero_le _)
    have := Rat.mul_nonneg (a := (eL K C n : Rat)) (b := y - x) h (by grind)
    show (0 : Rat) - 0 ≤ _ ∧ (0 : Rat) - 0 ≤ _
    constructor <;> grind
  | 0, c :: p, hl, _, _, _, _, _, _ => absurd hl (by simp)
  | n + 1, c :: p, hl, hc, x, y, h1, hxy, h2 => by
    obtain ⟨hc0, hc1⟩ := cf_tail hc
    obtain ⟨a1, a2⟩ := rev_eL n p (by simpa using hl) hc1 x y h1 hxy h2
    obtain ⟨b1, b2⟩ := rev_eB n p (by simpa using hl) hc1 y (by grind) h2
    have hK : (0 : Rat) ≤ (K : Rat) := rat_nat (Nat.zero_le _)
    obtain ⟨f1, f2⟩ := qg_le (q := x) (g := rev p x - rev p y) (e := (eL K C n : Rat) * (y - x)) h1 (by grind) (by grind) (by grind) hK
    have g1 := Rat.mul_nonneg (a := (eB K C n : Rat) - rev p y) (b := y - x) (by grind) (by grind)
    have g2 := Rat.mul_nonneg (a := (eB K C n : Rat) + rev p y) (b := y - x) (by grind) (by grind)
    have e : ((eL K C (n + 1) : Nat) : Rat) = (K : Rat) * (eL K C n : Rat) + (eB K C n : Rat) := by show ((K * eL K C n + eB K C n : Nat) : Rat) = _; push_cast; rfl
    rw [e, show rev (c :: p) x = (c : Rat) + x * rev p x from rfl, show rev (c :: p) y = (c : Rat) + y * rev p y from rfl]
    constructor <;> grind
theorem rev_eM {K C : Nat} : ∀ (n : Nat) (p : List Int), p.length ≤ n → (∀ i, (cf p i).natAbs ≤ C) → Tay (-(K : Rat)) (K : Rat) (eM K C n : Rat) p
  | n, [], _, _, x, y, _, hxy, _ => by
    have h : (0 : Rat) ≤ (eM K C n : Rat) := rat_nat (Nat.zero_le _)
    have h1 := Rat.mul_nonneg (a := y - x) (b := y - x) (by grind) (by grind)
    have := Rat.mul_nonneg h h1
    show -((eM K C n : Rat) * (y - x) * (y - x)) ≤ (0 : Rat) - 0 - (y - x) * 0 ∧ (0 : Rat) - 0 - (y - x) * 0 ≤ (eM K C n : Rat) * (y - x) * (y - x)
    constructor <;> grind
  | 0, c :: p, hl, _, _, _, _, _, _ => absurd hl (by simp)
  | n + 1, c :: p, hl, hc, x, y, hs, hxy, ht => by
    obtain ⟨hc0, hc1⟩ := cf_tail hc
    obtain ⟨a1, a2⟩ := rev_eM n p (by simpa using hl) hc1 x y hs hxy ht
    obtain ⟨b1, b2⟩ := rev_eL n p (by simpa using hl) hc1 x y hs hxy ht
    have hK : (0 : Rat) ≤ (K : Rat) := rat_nat (Nat.zero_le _)
    have hd : 0 ≤ y - x := by grind
    obtain ⟨f1, f2⟩ := qg_le (q := x) (Q := (K : Rat)) (g := rev p y - rev p x - (y - x) * rev (ld p) x) (e := (eM K C n : Rat) * (y - x) * (y - x)) hs (by grind) a1 a2 hK
    have g1 := Rat.mul_nonneg (a := y - x) (b := (eL K C n : Rat) * (y - x) - (rev p y - rev p x)) hd (by grind)
    have g2 := Rat.mul_nonneg (a := y - x) (b := (eL K C n : Rat) * (y - x) + (rev p y - rev p x)) hd (by grind)
    have e : ((eM K C (n + 1) : Nat) : Rat) = (eL K C n : Rat) + (K : Rat) * (eM K C n : Rat) := by show ((eL K C n + K * eM K C n : Nat) : Rat) = _; push_cast; rfl
    rw [e, rd_cons, show rev (c :: p) y = (c : Rat) + y * rev p y from rfl, show rev (c :: p) x = (c : Rat) + x * rev p x from rfl]
    constructor <;> grind
theorem cop_siegel {a b : List Int} {A : Nat} (ha : Tr a) (hb : Tr b) (la : 2 ≤ a.length) (lb : b.length + 1 = a.length) (hA : 0 < A) (na : ∀ i, (cf a i).natAbs ≤ A) (nb : ∀ i, (cf b i).natAbs ≤ A) (hc : ∀ q, Tr q → Ed q a → Ed q b → q.length ≤ 1) :
    ∃ (U V : List Int) (c : Int), c ≠ 0 ∧ U.length + 2 = a.length ∧ V.length + 1 = a.length ∧ (∀ i, (cf U i).natAbs ≤ (2 * (2 * a.length - 3) * A) ^ (2 * a.length - 4)) ∧ (∀ i, (cf V i).natAbs ≤ (2 * (2 * a.length - 3) * A) ^ (2 * a.length - 4)) ∧
      ∀ x, (c : Rat) = rev U x * rev a x + rev V x * rev b x := by
  obtain ⟨U, V, lU, lV, hne, bU, bV, hz⟩ := siegel_poly (a := a) (b := b) (p := a.length - 2) (q := a.length - 1) (lo := 1) hA na nb (by omega) (by omega) (by omega)
  have hne2 : ¬ (tzl U = [] ∧ tzl V = []) := fun ⟨h1, h2⟩ => by
    rcases hne with ⟨i, hi⟩ | ⟨i, hi⟩
    · exact hi ((tzl_nil_iff U).1 h1 i)
    · exact hi ((tzl_nil_iff V).1 h2 i)
  clear hne
  rw [show a.length - 2 + (a.length - 1) = 2 * a.length - 3 by omega] at bU bV
  rw [show 2 * a.length - 3 - 1 = 2 * a.length - 4 by omega] at bU bV
  have ha0 : a ≠ [] := fun e => by rw [e] at la; simp at la
  have cR : ∀ i, cf (ladd (lmul U a) (lmul V b)) i = (ps U * ps a).c i + (ps V * ps b).c i := fun i => by
    rw [cf_ladd, cf_lmul, cf_lmul, PS.mul_c, PS.mul_c]; rfl
  have rR : ∀ t, rev (ladd (lmul U a) (lmul V b)) t = rev U t * rev a t + rev V t * rev b t := fun t => by rw [rev_ladd, rev_lmul, rev_lmul]
  generalize ladd (lmul U a) (lmul V b) = R at cR rR
  have hR : ∀ t, rev R t = (cf R 0 : Rat) := fun t => by
    rw [← rev_one (cf R 0) t]
    refine rev_ext t _ _ fun i => ?_
    match i with
    | 0 => rfl
    | i + 1 => rw [cR, hz (i + 1) (by omega), cf_ge (by simp)]
  refine ⟨U, V, cf R 0, fun h0 => ?_, by omega, by omega, bU, bV, fun x => by rw [← rR, hR]⟩
  have hz0 : ∀ t, rev U t * rev a t + rev V t * rev b t = 0 := fun t => by rw [← rR, hR, h0]; rfl
  obtain ⟨g, P, Q, g1, g2, g3, g4⟩ := bezout _ a b ha hb (Nat.le_refl _)
  have hl := hc g g1 g2 g3
  have hg := (g2.len g1 ha ha0).1
  have hV : tzl V = [] := by
    refine Classical.byContradiction fun hV => ?_
    match g, hg, hl, g1, g4 with
    | [c], _, _, g1, g4 =>
      have hc0 : c ≠ 0 := g1.mem (by simp)
      have hd : Ed a (tzl V) := ⟨c, ladd (lmul P V) ((lmul Q U).map fun z => (-1) * z), hc0, fun x => by
        have h4 := g4 x
        rw [rev_one] at h4
        rw [rev_tzl, rev_ladd, rev_smul, rev_lmul, rev_lmul, h4]
        have := hz0 x
        have e : rev V x * rev b x = - (rev U x * rev a x) := by grind
        have : (rev P x * rev a x + rev Q x * rev b x) * rev V x = rev P x * rev V x * rev a x + rev Q x * (rev V x * rev b x) := by grind
        rw [this, e]; push_cast; grind⟩
      have := (hd.len ha (tr_tzl V) hV).2
      have := tzl_le V
      omega
    | c :: d :: r, _, h9, _, _ => simp at h9
  have hU : tzl U = [] := by
    refine Classical.byContradiction fun hU => ?_
    have : ∀ t, rev a t = 0 := mul_zero_rev (v := U) hU fun t => by
      have := hz0 t
      rw [rev_nonzero hV] at this
      grind
    exact ha.mem ha0 (rev_cf0 this _)
  exact hne2 ⟨hU, hV⟩
end Go.Sky
namespace Go.Sky
set_option linter.unusedVariables false
def sepOK (K A n e : Nat) : Bool :=
  let X := (2 * (2 * n - 3) * A) ^ (2 * n - 4)
  let W := eB K X (n - 1)
  Nat.ble (2 * (2 * W + 1) * (2 * eL K A n)) (2 ^ e) && Nat.ble (2 * (2 * W + 1) * eM K A n) (2 ^ e)
theorem big_or {a b : List Int} {K A n e : Nat} (hK : 0 < K) (hA : 0 < A) (ha : Tr a) (hb : Tr b) (hn : a.length = n) (h2 : 2 ≤ n) (lb : b.length + 1 = a.length) (na : ∀ i, (cf a i).natAbs ≤ A) (nb : ∀ i, (cf b i).natAbs ≤ A) (hc : ∀ q, Tr q → Ed q a → Ed q b → q.length ≤ 1)
    (x : Rat) (h1 : -(K : Rat) ≤ x) (h3 : x ≤ (K : Rat)) : Big (1 / ((2 * eB K ((2 * (2 * n - 3) * A) ^ (2 * n - 4)) (n - 1) + 1 : Nat) : Rat)) x (rev a) ∨ Big (1 / ((2 * eB K ((2 * (2 * n - 3) * A) ^ (2 * n - 4)) (n - 1) + 1 : Nat) : Rat)) x (rev b) := by
  obtain ⟨U, V, c, c0, lU, lV, bU, bV, hid⟩ := cop_siegel ha hb (by omega) lb hA na nb hc
  rw [hn] at bU bV
  generalize (2 * (2 * n - 3) * A) ^ (2 * n - 4) = X at *
  obtain ⟨u1, u2⟩ := rev_eB (n - 1) U (by omega) bU x h1 h3
  obtain ⟨v1, v2⟩ := rev_eB (n - 1) V (by omega) bV x h1 h3
  generalize eB K X (n - 1) = W at *
  have hW : (0 : Rat) ≤ (W : Rat) := rat_nat (Nat.zero_le _)
  have hD : (0 : Rat) < ((2 * W + 1 : Nat) : Rat) := by have : (((0 : Nat)) : Rat) < ((2 * W + 1 : Nat) : Rat) := by exact_mod_cast Nat.succ_pos _
                                                        exact this
  have hDe : ((2 * W + 1 : Nat) : Rat) = 2 * (W : Rat) + 1 := by push_cast; rfl
  generalize hε : 1 / ((2 * W + 1 : Nat) : Rat) = ε
  have hε2 : ε * (2 * (W : Rat) + 1) = 1 := by rw [← hε, hDe]; rw [hDe] at hD; grind
  have hε0 : 0 ≤ ε := by
    rw [← hε]
    have := Rat.inv_pos.2 hD
    rw [Rat.div_def]; grind
  by_cases p1 : Big ε x (rev a)
  · exact .inl p1
  · by_cases p2 : Big ε x (rev b)
    · exact .inr p2
    · exfalso
      obtain ⟨a1, a2⟩ := not_big p1
      obtain ⟨b1, b2⟩ := not_big p2
      obtain ⟨q1, q2⟩ := qg_le u1 u2 a1 a2 hW
      obtain ⟨r1, r2⟩ := qg_le v1 v2 b1 b2 hW
      have h4 := hid x
      have h5 : (c : Rat) ≤ -1 ∨ 1 ≤ (c : Rat) := by
        rcases Int.lt_or_gt_of_ne c0 with h | h
        · left; have : ((c : Int) : Rat) ≤ ((-1 : Int) : Rat) := by exact_mod_cast (show c ≤ -1 by omega)
          rwa [show (((-1 : Int)) : Rat) = -1 from rfl] at this
        · right; have : 1 ≤ c := by omega
          exact_mod_cast this
      have hεp : 0 < ε := by
        rcases (show ε = 0 ∨ 0 < ε by grind) with h | h
        · rw [h] at hε2; grind
        · exact h
      rcases h5 with h5 | h5 <;> grind
theorem two_pow_pos (e : Nat) : (0 : Rat) < ((2 ^ e : Nat) : Rat) := by
  have : 0 < 2 ^ e := Nat.pow_pos (by decide)
  exact_mod_cast this
theorem chn_sep {xs : List Int} {F K A n e : Nat} (hx : Tr xs) (h0 : xs ≠ []) (hC : chOK F xs) (hK : 0 < K) (hA : 0 < A) (hn : (sqf F xs).length = n) (h2 : 2 ≤ n) (na : ∀ i, (cf (sqf F xs) i).natAbs ≤ A) (nb : ∀ i, (cf (pder (sqf F xs)) i).natAbs ≤ A) (hs : sepOK K A n e = true)
    {u v : Rat} (h1 : -(K : Rat) ≤ u) (huv : u ≤ v) (h3 : v ≤ (K : Rat)) (hh : v - u ≤ 1 / ((2 ^ e : Nat) : Rat)) :
    vat ((chn F xs).map rev) u - vat ((chn F xs).map rev) v = crs (rev (sqf F xs)) u v := by
  have hok := hC.1.2.2.1
  obtain ⟨f1, f2, f3, f4, f5, f6⟩ := sqf_fac (F := F) hx h0 hok
  have htp := tr_pder f2
  have hlp := len_pder' (sqf F xs)
  have hd : pder (sqf F xs) ≠ [] := fun e => by rw [e] at hlp; simp at hlp; omega
  have hpc : 1 ≤ pcont (pder (sqf F xs)) := by
    have h1 := pcont_ne htp hd
    have h2 := pcont_nonneg (pder (sqf F xs))
    omega
  have hpc' : (1 : Rat) ≤ (pcont (pder (sqf F xs)) : Rat) := by exact_mod_cast hpc
  have nbp : ∀ i, (cf (pprim (pder (sqf F xs))) i).natAbs ≤ A := fun i => by
    have h5 := pprim_mul (pder (sqf F xs)) i
    have h6 := nb i
    rw [← h5, Int.natAbs_mul] at h6
    have : (cf (pprim (pder (sqf F xs))) i).natAbs * 1 ≤ (cf (pprim (pder (sqf F xs))) i).natAbs * (pcont (pder (sqf F xs))).natAbs := Nat.mul_le_mul_left _ (by omega)
    omega
  have hcop : ∀ q, Tr q → Ed q (sqf F xs) → Ed q (pprim (pder (sqf F xs))) → q.length ≤ 1 := fun q hq a b => sqf_cop hx h0 hok hq a (b.sim (sim_pprim htp))
  have hlb : (pprim (pder (sqf F xs))).length + 1 = (sqf F xs).length := by rw [length_pprim]; omega
  have hbig := big_or (e := e) hK hA f2 (tr_pprim htp) hn h2 hlb na nbp hcop
  unfold sepOK at hs
  simp only [Bool.and_eq_true, Nat.ble_eq] at hs
  obtain ⟨s1, s2⟩ := hs
  generalize (2 * (2 * n - 3) * A) ^ (2 * n - 4) = X at *
  generalize eB K X (n - 1) = W at *
  have hD : (0 : Rat) < ((2 * W + 1 : Nat) : Rat) := by have : (((0 : Nat)) : Rat) < ((2 * W + 1 : Nat) : Rat) := by exact_mod_cast Nat.succ_pos _
                                                        exact this
  have hP := two_pow_pos e
  have s1' := rat_nat s1
  have s2' := rat_nat s2
  have c1 : ((2 * (2 * W + 1) * (2 * eL K A n) : Nat) : Rat) = 2 * ((2 * W + 1 : Nat) : Rat) * (2 * (eL K A n : Rat)) := by push_cast; rfl
  have c2 : ((2 * (2 * W + 1) * eM K A n : Nat) : Rat) = 2 * ((2 * W + 1 : Nat) : Rat) * (eM K A n : Rat) := by push_cast; rfl
  rw [c1] at s1'
  rw [c2] at s2'
  have hi := Rat.inv_pos.2 hD
  have hj := Rat.inv_pos.2 hP
  have hii : ((2 * W + 1 : Nat) : Rat) * ((2 * W + 1 : Nat) : Rat)⁻¹ = 1 := by grind
  have hjj : ((2 ^ e : Nat) : Rat) * ((2 ^ e : Nat) : Rat)⁻¹ = 1 := by grind
  rw [Rat.div_def, Rat.one_mul] at hh
  simp only [Rat.div_def, Rat.one_mul] at hbig
  generalize ((2 * W + 1 : Nat) : Rat) = D at *
  generalize ((2 ^ e : Nat) : Rat) = P at *
  have hLn : (0 : Rat) ≤ (eL K A n : Rat) := rat_nat (Nat.zero_le _)
  have hMn : (0 : Rat) ≤ (eM K A n : Rat) := rat_nat (Nat.zero_le _)
  refine sturm_step0 (s := -(K : Rat)) (t := (K : Rat)) (κ := (pcont (pder (sqf F xs)) : Rat)) (ε := D⁻¹) (L := (eL K A n : Rat)) (L' := (eL K A n : Rat)) (M := (eM K A n : Rat)) (h := P⁻¹) f2 (tr_pprim htp) hC.2.2 (by grind) (fun x => ?_) hi hbig hLn (rev_eL n _ (by omega) na) hLn (rev_eL n _ (by omega) nbp) hMn (rev_eM n _ (by omega) na) hj ?_ ?_ h1 huv h3 hh
  · rw [← Qq, ← rev_smul]
    exact rev_ext x _ _ fun i => by rw [cf_smul, Int.mul_comm, pprim_mul]
  · -- P⁻¹ * (2 L) ≤ D⁻¹ / 2
    have t1 := Rat.mul_nonneg (a := P⁻¹ * D⁻¹) (b := P - 2 * D * (2 * (eL K A n : Rat))) (by have := Rat.mul_pos hj hi; grind) (by grind)
    have e1 : P⁻¹ * D⁻¹ * (P - 2 * D * (2 * (eL K A n : Rat))) = D⁻¹ * (P * P⁻¹) - 2 * P⁻¹ * (D * D⁻¹) * (2 * (eL K A n : Rat)) := by grind
    rw [e1, hii, hjj] at t1
    grind
  · have t1 := Rat.mul_nonneg (a := P⁻¹ * D⁻¹) (b := P - 2 * D * (eM K A n : Rat)) (by have := Rat.mul_pos hj hi; grind) (by grind)
    have e1 : P⁻¹ * D⁻¹ * (P - 2 * D * (eM K A n : Rat)) = D⁻¹ * (P * P⁻¹) - 2 * P⁻¹ * (D * D⁻¹) * (eM K A n : Rat) := by grind
    rw [e1, hii, hjj] at t1
    have t2 := Rat.mul_nonneg (a := (pcont (pder (sqf F xs)) : Rat) - 1) (b := D⁻¹) (by grind) (by grind)
    grind
theorem chn_mono {xs : List Int} {F : Nat} (hx : Tr xs) (h0 : xs ≠ []) (hC : chOK F xs) {s t : Rat} (hst : s ≤ t) : vat ((chn F xs).map rev) t ≤ vat ((chn F xs).map rev) s := by
  obtain ⟨h, h1, h2⟩ := chn_step hx h0 hC s t
  have hc : ∀ f u v, 0 ≤ crs f u v := fun f u v => by unfold crs; split <;> decide
  have key : ∀ n : Nat, ∀ y, s ≤ y → y ≤ t → y - s ≤ (n : Rat) * h → vat ((chn F xs).map rev) y ≤ vat ((chn F xs).map rev) s := fun n => by
    induction n with
    | zero => intro y h3 h4 h5; have : y = s := by simp at h5; grind
              rw [this]; exact Int.le_refl _
    | succ n ih =>
      intro y h3 h4 h5
      have h6 : ((n + 1 : Nat) : Rat) * h = (n : Rat) * h + h := by push_cast; grind
      rcases (show y - s ≤ (n : Rat) * h ∨ (n : Rat) * h < y - s by grind) with h7 | h7
      · exact ih y h3 h4 h7
      · have h8 : (0 : Rat) ≤ (n : Rat) * h := Rat.mul_nonneg (by exact_mod_cast Nat.zero_le n) (by grind)
        rcases (show s ≤ y - h ∨ y - h < s by grind) with h9 | h9
        · have a := ih (y - h) h9 (by grind) (by grind)
          have b := h2 (y - h) y h9 (by grind) h4 (by grind)
          have c := hc (rev (sqf F xs)) (y - h) y
          omega
        · have b := h2 s y (by grind) h3 h4 (by grind)
          have c := hc (rev (sqf F xs)) s y
          omega
  have h3 : ∃ n : Nat, t - s ≤ (n : Rat) * h := by
    have h4 : 0 < h⁻¹ := Rat.inv_pos.2 h1
    refine ⟨((t - s) * h⁻¹).ceil.toNat, ?_⟩
    have h5 := @Rat.le_ceil ((t - s) * h⁻¹)
    have h6 : ((((t - s) * h⁻¹).ceil : Int) : Rat) ≤ ((((t - s) * h⁻¹).ceil.toNat : Nat) : Rat) := by
      have : ((t - s) * h⁻¹).ceil ≤ ((((t - s) * h⁻¹).ceil.toNat : Nat) : Int) := Int.self_le_toNat _
      exact_mod_cast this
    have h7 := Rat.mul_le_mul_of_nonneg_right (Rat.le_trans h5 h6) (show 0 ≤ h by grind)
    have h8 : (t - s) * h⁻¹ * h = t - s := by grind
    grind
  obtain ⟨n, hn⟩ := h3
  exact key n t hst (by grind) hn
end Go.Sky
namespace Go.Sky
set_option linter.unusedVariables false
def qv (z : R2) : Rat := (z.1 : Rat) / (z.2 : Rat)
theorem coprime_rep {x y X Y g : Nat} (hg : g = Nat.gcd x y) (hy : 0 < y) (hY : 0 < Y) (h : x * Y = X * y) : y / g ∣ Y ∧ x / g ≤ X := by
  have hg0 : 0 < g := by rw [hg]; exact Nat.gcd_pos_of_pos_right _ hy
  have hc : Nat.Coprime (x / g) (y / g) := by rw [hg]; exact Nat.coprime_div_gcd_div_gcd (by rw [← hg]; exact hg0)
  have hx' : x / g * g = x := Nat.div_mul_cancel (by rw [hg]; exact Nat.gcd_dvd_left _ _)
  have hy' : y / g * g = y := Nat.div_mul_cancel (by rw [hg]; exact Nat.gcd_dvd_right _ _)
  have h2 : x / g * Y = X * (y / g) := by
    refine Nat.eq_of_mul_eq_mul_right hg0 ?_
    have e1 : x / g * Y * g = x / g * g * Y := by grind
    have e2 : X * (y / g) * g = X * (y / g * g) := by grind
    rw [e1, e2, hx', hy', h]
  have hd : y / g ∣ Y := hc.symm.dvd_of_dvd_mul_left (by rw [h2]; exact Nat.dvd_mul_left _ _)
  refine ⟨hd, ?_⟩
  obtain ⟨k, hk⟩ := hd
  have hk0 : 0 < k := Nat.pos_of_ne_zero fun e => by rw [e, Nat.mul_zero] at hk; omega
  have hyg : 0 < y / g := Nat.pos_of_ne_zero fun e => by rw [e, Nat.zero_mul] at hy'; omega
  rw [hk] at h2
  have h3 : x / g * k = X := by
    refine Nat.eq_of_mul_eq_mul_right hyg ?_
    have : x / g * k * (y / g) = x / g * (y / g * k) := by grind
    rw [this, h2]
  rw [← h3]
  exact Nat.le_mul_of_pos_right _ hk0
theorem low_rep {x y X Y : Int} (hy : 0 < y) (hY : 0 < Y) (h : x * Y = X * y) {B : Nat} (hX : bl X.natAbs ≤ B) (hYb : bl Y.natAbs ≤ B) (hB : B ≤ 65536) :
    ¬ rfull x y ∧ rden x y ∣ Y ∧ 0 < rden x y ∧ bl (rnum x y).natAbs ≤ B ∧ bl (rden x y).natAbs ≤ B ∧ rnum x y * y = x * rden x y := by
  have hg : lgcd x y = (Nat.gcd x.natAbs y.natAbs : Int) := by rw [lgcd_ge (by omega)]; rfl
  have hn : x.natAbs * Y.natAbs = X.natAbs * y.natAbs := by rw [← Int.natAbs_mul, ← Int.natAbs_mul, h]
  obtain ⟨d1, d2⟩ := coprime_rep (g := Nat.gcd x.natAbs y.natAbs) rfl (by omega : 0 < y.natAbs) (by omega : 0 < Y.natAbs) hn
  have e1 : (y / lgcd x y).natAbs = y.natAbs / Nat.gcd x.natAbs y.natAbs := by
    rw [Int.natAbs_ediv_of_dvd (lgcd_dv2 x y), lgcd_abs]
  have e2 : (x / lgcd x y).natAbs = x.natAbs / Nat.gcd x.natAbs y.natAbs := by
    rw [Int.natAbs_ediv_of_dvd (lgcd_dv1 x y), lgcd_abs]
  have b1 : bl (y / lgcd x y).natAbs ≤ B := Nat.le_trans (bl_mono (by rw [e1]; exact Nat.le_of_dvd (by omega) d1)) hYb
  have b2 : bl (x / lgcd x y).natAbs ≤ B := Nat.le_trans (bl_mono (by rw [e2]; exact d2)) hX
  have hf : ¬ rfull x y := fun h => by unfold rfull at h; omega
  obtain ⟨n1, n2, -⟩ := nr_num hf
  refine ⟨hf, ?_, nr_pos hf hy, by rw [n1]; exact b2, by rw [n2]; exact b1, ?_⟩
  · rw [n2]
    refine Int.natAbs_dvd_natAbs.1 ?_
    rw [e1]; exact d1
  · rw [n1, n2]; exact lgcd_rel x y
structure En (K Q : Nat) (d : Nat) (z : R2) : Prop where
  pos : 0 < z.2
  dv : z.2 ∣ ((Q * 2 ^ d : Nat) : Int)
  lo : -(K : Rat) ≤ qv z
  hi : qv z ≤ (K : Rat)
theorem En.up {K Q d : Nat} {z : R2} (h : En K Q d z) : En K Q (d + 1) z := by
  obtain ⟨h1, h2, h3, h4⟩ := h
  refine ⟨h1, ?_, h3, h4⟩
  have : ((Q * 2 ^ (d + 1) : Nat) : Int) = ((Q * 2 ^ d : Nat) : Int) * 2 := by rw [Nat.pow_succ]; push_cast; grind
  rw [this]; exact Int.dvd_trans h2 (Int.dvd_mul_right _ _)
theorem canc {N p s Y X D : Int} (hp : p ≠ 0) (h1 : N * p = s * D) (h2 : s * Y = X * p) : N * Y = X * D := by
  refine Int.eq_of_mul_eq_mul_right hp ?_
  have e1 : N * Y * p = (N * p) * Y := by grind
  have e2 : X * D * p = (X * p) * D := by grind
  rw [e1, e2, h1, ← h2]; grind
theorem rat_pos {z : Int} (h : 0 < z) : (0 : Rat) < (z : Rat) := by exact_mod_cast h
theorem bl_le_of {n m : Nat} (h : n < 2 ^ m) : bl n ≤ m := (bl_le m n).2 h
theorem mid_en {K Q d B : Nat} {a b : R2} (ha : En K Q d a) (hb : En K Q d b) (hQ : 0 < Q) (hB1 : Q * 2 ^ (d + 1) < 2 ^ B) (hB2 : 2 * K * (Q * 2 ^ d) < 2 ^ B) (hB : B ≤ 65536) :
    midOK a b ∧ En K Q (d + 1) (smid a b) ∧ qv (smid a b) = (qv a + qv b) / 2 ∧ bl (smid a b).1.natAbs ≤ B ∧ bl (smid a b).2.natAbs ≤ B := by
  obtain ⟨pa, ⟨ka, da⟩, la, ua⟩ := ha
  obtain ⟨pb, ⟨kb, db⟩, lb, ub⟩ := hb
  generalize hY : ((Q * 2 ^ d : Nat) : Int) = Y at *
  have hQd : 0 < Q * 2 ^ d := Nat.mul_pos hQ (Nat.pow_pos (by decide))
  have hY0 : 0 < Y := by rw [← hY]; exact_mod_cast hQd
  have rpa := rat_pos pa
  have rpb := rat_pos pb
  have rY := rat_pos hY0
  have hpp : 0 < a.2 * b.2 := Int.mul_pos pa pb
  have hsum : (a.1 * b.2 + b.1 * a.2) * Y = (a.1 * ka + b.1 * kb) * (a.2 * b.2) := by
    have e1 : (a.1 * ka + b.1 * kb) * (a.2 * b.2) = a.1 * b.2 * (a.2 * ka) + b.1 * a.2 * (b.2 * kb) := by grind
    rw [e1, ← da, ← db]; grind
  have hqa : (a.1 : Rat) * ka = qv a * Y := by
    unfold qv; have : (Y : Rat) = (a.2 : Rat) * ka := by rw [da]; push_cast; rfl
    rw [this]; grind
  have hqb : (b.1 : Rat) * kb = qv b * Y := by
    unfold qv; have : (Y : Rat) = (b.2 : Rat) * kb := by rw [db]; push_cast; rfl
    rw [this]; grind
  have hX : ((a.1 * ka + b.1 * kb : Int) : Rat) = (qv a + qv b) * Y := by push_cast; rw [hqa, hqb]; grind
  have hXb : (a.1 * ka + b.1 * kb).natAbs ≤ 2 * K * (Q * 2 ^ d) := by
    have hKn : ((2 * K * (Q * 2 ^ d) : Nat) : Rat) = 2 * (K : Rat) * (Y : Rat) := by rw [← hY]; push_cast; grind
    have t1 := Rat.mul_nonneg (a := 2 * (K : Rat) - (qv a + qv b)) (b := (Y : Rat)) (by grind) (by grind)
    have t2 := Rat.mul_nonneg (a := 2 * (K : Rat) + (qv a + qv b)) (b := (Y : Rat)) (by grind) (by grind)
    have u1 : ((a.1 * ka + b.1 * kb : Int) : Rat) ≤ (((2 * K * (Q * 2 ^ d) : Nat) : Int) : Rat) := by rw [hX]; push_cast at hKn ⊢; grind
    have u2 : ((-((2 * K * (Q * 2 ^ d) : Nat) : Int) : Int) : Rat) ≤ ((a.1 * ka + b.1 * kb : Int) : Rat) := by rw [hX]; push_cast at hKn ⊢; grind
    have v1 : a.1 * ka + b.1 * kb ≤ ((2 * K * (Q * 2 ^ d) : Nat) : Int) := by exact_mod_cast u1
    have v2 : -((2 * K * (Q * 2 ^ d) : Nat) : Int) ≤ a.1 * ka + b.1 * kb := by exact_mod_cast u2
    omega
  have hYb : Y.natAbs = Q * 2 ^ d := by rw [← hY]; rfl
  have hB3 : Q * 2 ^ (d + 1) = 2 * (Q * 2 ^ d) := by rw [Nat.pow_succ]; grind
  have hbY : bl Y.natAbs ≤ B := bl_le_of (by rw [hYb]; omega)
  have hbX : bl (a.1 * ka + b.1 * kb).natAbs ≤ B := bl_le_of (by omega)
  obtain ⟨f1, f2, f3, f4, f5, f6⟩ := low_rep hpp hY0 hsum hbX hbY hB
  have hv1 := canc (Int.ne_of_gt hpp) f6 hsum
  have hbY2 : bl (2 * Y).natAbs ≤ B := bl_le_of (by rw [Int.natAbs_mul, hYb]; show 2 * (Q * 2 ^ d) < _; omega)
  have hs2 : rnum (a.1 * b.2 + b.1 * a.2) (a.2 * b.2) * 1 * (2 * Y) = (a.1 * ka + b.1 * kb) * (rden (a.1 * b.2 + b.1 * a.2) (a.2 * b.2) * 2) := by
    rw [Int.mul_one]
    have e1 : rnum (a.1 * b.2 + b.1 * a.2) (a.2 * b.2) * (2 * Y) = 2 * (rnum (a.1 * b.2 + b.1 * a.2) (a.2 * b.2) * Y) := by grind
    rw [e1, hv1]; grind
  have hp2 : 0 < rden (a.1 * b.2 + b.1 * a.2) (a.2 * b.2) * 2 := by omega
  obtain ⟨g1, g2, g3, g4, g5, g6⟩ := low_rep hp2 (by omega : 0 < 2 * Y) hs2 hbX hbY2 hB
  have hv2 := canc (Int.ne_of_gt hp2) g6 hs2
  have hm1 : (smid a b).1 = rnum (rnum (a.1 * b.2 + b.1 * a.2) (a.2 * b.2) * 1) (rden (a.1 * b.2 + b.1 * a.2) (a.2 * b.2) * 2) := rfl
  have hm2 : (smid a b).2 = rden (rnum (a.1 * b.2 + b.1 * a.2) (a.2 * b.2) * 1) (rden (a.1 * b.2 + b.1 * a.2) (a.2 * b.2) * 2) := rfl
  rw [← hm1, ← hm2] at hv2
  rw [← hm2] at g2 g3 g5
  rw [← hm1] at g4
  have hq : qv (smid a b) = (qv a + qv b) / 2 := by
    have h1 : (((smid a b).1 : Int) : Rat) * (2 * (Y : Rat)) = ((a.1 * ka + b.1 * kb : Int) : Rat) * (((smid a b).2 : Int) : Rat) := by
      have : (((smid a b).1 * (2 * Y) : Int) : Rat) = (((a.1 * ka + b.1 * kb) * (smid a b).2 : Int) : Rat) := by rw [hv2]
      push_cast at this ⊢; grind
    rw [hX] at h1
    have rd := rat_pos g3
    unfold qv at *
    generalize (((smid a b).1 : Int) : Rat) = n at *
    generalize (((smid a b).2 : Int) : Rat) = m at *
    generalize (a.1 : Rat) / (a.2 : Rat) = p at *
    generalize (b.1 : Rat) / (b.2 : Rat) = q at *
    generalize (Y : Rat) = y at *
    grind
  refine ⟨⟨f1, g1⟩, ⟨g3, ?_, by rw [hq]; grind, by rw [hq]; grind⟩, hq, g4, g5⟩
  have e : ((Q * 2 ^ (d + 1) : Nat) : Int) = 2 * Y := by rw [hB3, ← hY]; push_cast; rfl
  rw [e]; exact g2
end Go.Sky
namespace Go.Sky
set_option linter.unusedVariables false
def vch (F : Nat) (xs : List Int) (x : Rat) : Int := vat ((chn F xs).map rev) x
theorem cvc_v {F : Nat} {xs : List Int} {z : R2} (h : 0 < z.2) : cvc F xs z = vch F xs (qv z) := cnt_vat h
def Sqn (P : R2 → R2 → Prop) (hi : Rat) : Rat → List (R2 × R2) → Prop
  | lo, [] => lo ≤ hi
  | lo, c :: r => lo ≤ qv c.1 ∧ qv c.1 < qv c.2 ∧ P c.1 c.2 ∧ Sqn P hi (qv c.2) r
theorem Sqn.low {P : R2 → R2 → Prop} {hi : Rat} {lo lo' : Rat} (h1 : lo' ≤ lo) : ∀ {l : List (R2 × R2)}, Sqn P hi lo l → Sqn P hi lo' l
  | [], h => by have h : lo ≤ hi := h; show lo' ≤ hi; grind
  | c :: r, h => ⟨by have := h.1; grind, h.2⟩
theorem Sqn.app {P : R2 → R2 → Prop} {mid hi : Rat} {l2 : List (R2 × R2)} (h2 : Sqn P hi mid l2) : ∀ {lo : Rat} {l1 : List (R2 × R2)}, Sqn P mid lo l1 → Sqn P hi lo (l1 ++ l2)
  | lo, [], h => h2.low h
  | lo, c :: r, h => ⟨h.1, h.2.1, h.2.2.1, Sqn.app h2 h.2.2.2⟩
theorem isp_all {xs : List Int} {F K Q e w B : Nat} {hq : Int} (hx : Tr xs) (h0 : xs ≠ []) (hC : chOK F xs) (hQ : 0 < Q)
    (sep : ∀ u v : Rat, -(K : Rat) ≤ u → u ≤ v → v ≤ (K : Rat) → v - u ≤ 1 / ((2 ^ e : Nat) : Rat) → vch F xs u - vch F xs v ≤ 1) (hD : e + w ≤ 1000) (hh : hq ≤ ((e + w : Nat) : Int))
    (hB1 : Q * 2 ^ (e + w) < 2 ^ B) (hB2 : 2 * K * (Q * 2 ^ (e + w)) < 2 ^ B) (hB : B ≤ 65536) (hev : ∀ z : R2, bl z.1.natAbs ≤ B → bl z.2.natAbs ≤ B → evc F xs z) :
    ∀ (f d : Nat) (a b : R2), e + w + 1 ≤ f + d → d ≤ e + w → En K Q d a → En K Q d b → qv a ≤ qv b → (qv b - qv a) * ((2 ^ d : Nat) : Rat) ≤ ((2 ^ w : Nat) : Rat) →
      ispOK (cvc F xs) (evc F xs) hq f a b (vch F xs (qv a)) (vch F xs (qv b)) d ∧ ((isp (cvc F xs) hq f a b (vch F xs (qv a)) (vch F xs (qv b)) d).length : Int) = vch F xs (qv a) - vch F xs (qv b) ∧
      Sqn (fun x y => En K Q (e + w) x ∧ En K Q (e + w) y ∧ vch F xs (qv x) - vch F xs (qv y) = 1) (qv b) (qv a) (isp (cvc F xs) hq f a b (vch F xs (qv a)) (vch F xs (qv b)) d)
  | 0, d, a, b, hf, hd0, ha, hb, hab, hw => by omega
  | f + 1, d, a, b, hf, hd0, ha, hb, hab, hw => by
    have hmono := chn_mono hx h0 hC hab
    have hm : vch F xs (qv b) ≤ vch F xs (qv a) := hmono
    by_cases h1 : vch F xs (qv a) = vch F xs (qv b)
    · have hi : isp (cvc F xs) hq (f + 1) a b (vch F xs (qv a)) (vch F xs (qv b)) d = [] := by unfold isp; rw [if_pos h1]
      rw [hi]
      exact ⟨.inl h1, by simp; omega, hab⟩
    · by_cases h2 : vch F xs (qv a) - vch F xs (qv b) = 1 ∧ hq ≤ (d : Int)
      · have hi : isp (cvc F xs) hq (f + 1) a b (vch F xs (qv a)) (vch F xs (qv b)) d = [(a, b)] := by unfold isp; rw [if_neg h1, if_pos h2]
        rw [hi]
        have hlt : qv a < qv b := by
          rcases (show qv a < qv b ∨ qv a = qv b by grind) with h | h
          · exact h
          · rw [h] at h1; exact absurd rfl h1
        have hup : ∀ z, En K Q d z → d ≤ e + w → En K Q (e + w) z := fun z hz hd => by
          obtain ⟨k, hk⟩ : ∃ k, e + w = d + k := ⟨e + w - d, by omega⟩
          rw [hk]
          clear hk hd
          induction k with
          | zero => exact hz
          | succ k ih => exact ih.up
        exact ⟨.inr (.inl h2), by simp; omega, Rat.le_refl, hlt, ⟨hup a ha hd0, hup b hb hd0, h2.1⟩, Rat.le_refl⟩
      · -- not yet short
        have hP := two_pow_pos d
        have hd : d < e + w := by
          refine Classical.byContradiction fun h9 => h2 ⟨?_, by omega⟩
          obtain ⟨k, hk⟩ : ∃ k, d = e + w + k := ⟨d - (e + w), by omega⟩
          have hpd : ((2 ^ d : Nat) : Rat) = ((2 ^ e : Nat) : Rat) * ((2 ^ w : Nat) : Rat) * ((2 ^ k : Nat) : Rat) := by rw [hk, Nat.pow_add, Nat.pow_add]; push_cast; rfl
          have he := two_pow_pos e
          have hww := two_pow_pos w
          have hk1 : (1 : Rat) ≤ ((2 ^ k : Nat) : Rat) := by
            have : 1 ≤ 2 ^ k := Nat.pow_pos (by decide)
            exact_mod_cast this
          have hs : qv b - qv a ≤ 1 / ((2 ^ e : Nat) : Rat) := by
            rw [hpd] at hw
            rw [Rat.div_def, Rat.one_mul]
            generalize ((2 ^ e : Nat) : Rat) = E at *
            generalize ((2 ^ w : Nat) : Rat) = W at *
            generalize ((2 ^ k : Nat) : Rat) = L at *
            have hWi := Rat.inv_pos.2 hww
            have hEi := Rat.inv_pos.2 he
            have t1 := Rat.mul_nonneg (a := W⁻¹) (b := W - (qv b - qv a) * (E * W * L)) (by grind) (by grind)
            have t2 : W⁻¹ * (W - (qv b - qv a) * (E * W * L)) = (W * W⁻¹) * (1 - (qv b - qv a) * (E * L)) := by grind
            rw [t2, show W * W⁻¹ = 1 by grind] at t1
            have t3 := Rat.mul_nonneg (a := (qv b - qv a) * E) (b := L - 1) (by have := Rat.mul_nonneg (a := qv b - qv a) (b := E) (by grind) (by grind); grind) (by grind)
            have t4 := Rat.mul_nonneg (a := E⁻¹) (b := 1 - (qv b - qv a) * E) (by grind) (by grind)
            have t5 : E⁻¹ * (1 - (qv b - qv a) * E) = E⁻¹ - (qv b - qv a) * (E * E⁻¹) := by grind
            rw [t5, show E * E⁻¹ = 1 by grind] at t4
            grind
          have := sep (qv a) (qv b) ha.lo hab hb.hi hs
          omega
        have hpw : 2 ^ (d + 1) ≤ 2 ^ (e + w) := Nat.pow_le_pow_right (by decide) (by omega)
        have hpw2 : 2 ^ d ≤ 2 ^ (e + w) := Nat.pow_le_pow_right (by decide) (by omega)
        obtain ⟨m1, m2, m3, m4, m5⟩ := mid_en ha hb hQ (Nat.lt_of_le_of_lt (Nat.mul_le_mul_left _ hpw) hB1) (Nat.lt_of_le_of_lt (Nat.mul_le_mul_left _ (Nat.mul_le_mul_left _ hpw2)) hB2) hB
        have hcm : cvc F xs (smid a b) = vch F xs (qv (smid a b)) := cvc_v m2.pos
        have hpd : ((2 ^ (d + 1) : Nat) : Rat) = ((2 ^ d : Nat) : Rat) * 2 := by rw [Nat.pow_succ]; push_cast; rfl
        have i1 := isp_all hx h0 hC hQ sep hD hh hB1 hB2 hB hev f (d + 1) a (smid a b) (by omega) (by omega) ha.up m2 (by rw [m3]; grind) (by rw [m3, hpd]; grind)
        have i2 := isp_all hx h0 hC hQ sep hD hh hB1 hB2 hB hev f (d + 1) (smid a b) b (by omega) (by omega) m2 hb.up (by rw [m3]; grind) (by rw [m3, hpd]; grind)
        have hi : isp (cvc F xs) hq (f + 1) a b (vch F xs (qv a)) (vch F xs (qv b)) d = isp (cvc F xs) hq f a (smid a b) (vch F xs (qv a)) (cvc F xs (smid a b)) (d + 1) ++ isp (cvc F xs) hq f (smid a b) b (cvc F xs (smid a b)) (vch F xs (qv b)) (d + 1) := by
          conv => lhs; unfold isp
          rw [if_neg h1, if_neg h2]
        rw [hi, hcm]
        refine ⟨.inr (.inr ⟨by omega, m1, hev _ m4 m5, ?_, ?_⟩), ?_, Sqn.app i2.2.2 i1.2.2⟩
        · rw [hcm]; exact i1.1
        · rw [hcm]; exact i2.1
        · rw [List.length_append]; push_cast; rw [i1.2.1, i2.2.1]; omega
end Go.Sky
namespace Go.Sky
set_option linter.unusedVariables false
theorem qv_le {a b : R2} (ha : 0 < a.2) (hb : 0 < b.2) (h : ¬ 0 < a.1 * b.2 - b.1 * a.2) : qv a ≤ qv b := by
  have h1 : ((a.1 * b.2 : Int) : Rat) ≤ ((b.1 * a.2 : Int) : Rat) := by exact_mod_cast (show a.1 * b.2 ≤ b.1 * a.2 by omega)
  have ra := rat_pos ha
  have rb := rat_pos hb
  push_cast at h1
  unfold qv
  have hia := Rat.inv_pos.2 ra
  have hib := Rat.inv_pos.2 rb
  rw [Rat.div_def, Rat.div_def]
  generalize (a.1 : Rat) = x at *
  generalize (a.2 : Rat) = y at *
  generalize (b.1 : Rat) = x2 at *
  generalize (b.2 : Rat) = y2 at *
  have t := Rat.mul_nonneg (a := y⁻¹ * y2⁻¹) (b := x2 * y - x * y2) (by have := Rat.mul_pos hia hib; grind) (by grind)
  have e : y⁻¹ * y2⁻¹ * (x2 * y - x * y2) = x2 * y2⁻¹ * (y * y⁻¹) - x * y⁻¹ * (y2 * y2⁻¹) := by grind
  rw [e, show y * y⁻¹ = 1 by grind, show y2 * y2⁻¹ = 1 by grind] at t
  grind
theorem qv_abs {a : R2} {K : Nat} (ha : 0 < a.2) (h : a.1.natAbs ≤ K) : -(K : Rat) ≤ qv a ∧ qv a ≤ (K : Rat) := by
  obtain ⟨c1, c2⟩ := cf_rat h
  have ra : (1 : Rat) ≤ (a.2 : Rat) := by exact_mod_cast (show 1 ≤ a.2 by omega)
  have hK : (0 : Rat) ≤ (K : Rat) := rat_nat (Nat.zero_le _)
  have hi := Rat.inv_pos.2 (show 0 < (a.2 : Rat) by grind)
  have hm : (a.2 : Rat) * (a.2 : Rat)⁻¹ = 1 := by grind
  unfold qv; rw [Rat.div_def]
  have t1 := Rat.mul_nonneg (a := (a.2 : Rat)⁻¹) (b := (K : Rat) * a.2 - a.1) (by grind) (by have := Rat.mul_nonneg (a := (K : Rat)) (b := (a.2 : Rat) - 1) hK (by grind); grind)
  have t2 := Rat.mul_nonneg (a := (a.2 : Rat)⁻¹) (b := (K : Rat) * a.2 + a.1) (by grind) (by have := Rat.mul_nonneg (a := (K : Rat)) (b := (a.2 : Rat) - 1) hK (by grind); grind)
  have e1 : (a.2 : Rat)⁻¹ * ((K : Rat) * a.2 - a.1) = (K : Rat) * (a.2 * (a.2 : Rat)⁻¹) - a.1 * (a.2 : Rat)⁻¹ := by grind
  have e2 : (a.2 : Rat)⁻¹ * ((K : Rat) * a.2 + a.1) = (K : Rat) * (a.2 * (a.2 : Rat)⁻¹) + a.1 * (a.2 : Rat)⁻¹ := by grind
  rw [e1, hm] at t1
  rw [e2, hm] at t2
  constructor <;> grind
theorem slow_all {a : R2} {n : Nat} (ha : 0 < a.2) (h1 : bl a.1.natAbs ≤ n) (h2 : bl a.2.natAbs ≤ n) (hn : n ≤ 65536) :
    ¬ rfull a.1 a.2 ∧ 0 < (slow a).2 ∧ bl (slow a).1.natAbs ≤ n ∧ bl (slow a).2.natAbs ≤ n ∧ qv (slow a) = qv a := by
  obtain ⟨f1, f2, f3, f4, f5, f6⟩ := low_rep (x := a.1) (y := a.2) (X := a.1) (Y := a.2) ha ha rfl h1 h2 hn
  refine ⟨f1, f3, f4, f5, ?_⟩
  have r1 := rat_pos ha
  have r2 := rat_pos f3
  have h6 : ((rnum a.1 a.2 : Int) : Rat) * (a.2 : Rat) = (a.1 : Rat) * ((rden a.1 a.2 : Int) : Rat) := by exact_mod_cast f6
  show ((rnum a.1 a.2 : Int) : Rat) / ((rden a.1 a.2 : Int) : Rat) = (a.1 : Rat) / (a.2 : Rat)
  generalize ((rnum a.1 a.2 : Int) : Rat) = N at *
  generalize ((rden a.1 a.2 : Int) : Rat) = D at *
  generalize (a.1 : Rat) = x at *
  generalize (a.2 : Rat) = y at *
  have : N / D * (D * y) = x / y * (D * y) := by
    have e1 : N / D * (D * y) = N * y := by grind
    have e2 : x / y * (D * y) = x * D := by grind
    rw [e1, e2, h6]
  have hp := Rat.mul_pos r2 r1
  have e3 : N / D = N / D * (D * y) * (D * y)⁻¹ := by grind
  have e4 : x / y = x / y * (D * y) * (D * y)⁻¹ := by grind
  rw [e3, this, ← e4]
theorem iso_all {xs : List Int} {F n e w B : Nat} {hq : Int} {a b : R2} (hx : Tr xs) (h0 : xs ≠ []) (hC : chOK F xs)
    (sep : ∀ u v : Rat, -((2 ^ n : Nat) : Rat) ≤ u → u ≤ v → v ≤ ((2 ^ n : Nat) : Rat) → v - u ≤ 1 / ((2 ^ e : Nat) : Rat) → vch F xs u - vch F xs v ≤ 1) (hD : e + w ≤ 1000) (hh : hq ≤ ((e + w : Nat) : Int))
    (ha : 0 < a.2) (hb : 0 < b.2) (a1 : bl a.1.natAbs ≤ n) (a2 : bl a.2.natAbs ≤ n) (b1 : bl b.1.natAbs ≤ n) (b2 : bl b.2.natAbs ≤ n) (hab : ¬ 0 < a.1 * b.2 - b.1 * a.2)
    (hw : n + 1 ≤ w) (hBn : 3 * n + 1 + (e + w) ≤ B) (hB : B ≤ 65536) (hev : ∀ z : R2, bl z.1.natAbs ≤ B → bl z.2.natAbs ≤ B → evc F xs z) (hln : (chn F xs).length ≤ 1000) :
    isOK F xs (e + w + 1) a b hq ∧ ((sisol F xs (e + w + 1) a b hq).length : Int) = vch F xs (qv a) - vch F xs (qv b) ∧
      ∃ Q, 0 < Q ∧ Q < 2 ^ (2 * n) ∧ Sqn (fun x y => En (2 ^ n) Q (e + w) x ∧ En (2 ^ n) Q (e + w) y ∧ vch F xs (qv x) - vch F xs (qv y) = 1) (qv b) (qv a) (sisol F xs (e + w + 1) a b hq) := by
  obtain ⟨s1, s2, s3, s4, s5⟩ := slow_all ha a1 a2 (by omega)
  obtain ⟨t1, t2, t3, t4, t5⟩ := slow_all hb b1 b2 (by omega)
  have hle := qv_le ha hb hab
  have pa := (bl_le n _).1 s4
  have pb := (bl_le n _).1 t4
  have qa := qv_abs ha (Nat.le_of_lt ((bl_le n _).1 a1))
  have qb := qv_abs hb (Nat.le_of_lt ((bl_le n _).1 b1))
  have hQ0 : 0 < (slow a).2.natAbs * (slow b).2.natAbs := Nat.mul_pos (by omega) (by omega)
  have hQ1 : (slow a).2.natAbs * (slow b).2.natAbs < 2 ^ (2 * n) := by
    rw [show 2 * n = n + n by omega, Nat.pow_add]
    exact Nat.mul_lt_mul_of_lt_of_le pa (Nat.le_of_lt pb) (Nat.pow_pos (by decide))
  generalize hQ : (slow a).2.natAbs * (slow b).2.natAbs = Q at *
  have hcast : ((Q * 2 ^ 0 : Nat) : Int) = (slow a).2 * (slow b).2 := by
    rw [Nat.pow_zero, Nat.mul_one, ← hQ]; push_cast; rw [Int.natAbs_of_nonneg (by omega), Int.natAbs_of_nonneg (by omega)]
  have ea : En (2 ^ n) Q 0 (slow a) := ⟨s2, by rw [hcast]; exact Int.dvd_mul_right _ _, by rw [s5]; exact qa.1, by rw [s5]; exact qa.2⟩
  have eb : En (2 ^ n) Q 0 (slow b) := ⟨t2, by rw [hcast]; exact Int.dvd_mul_left _ _, by rw [t5]; exact qb.1, by rw [t5]; exact qb.2⟩
  have hpow : ∀ m, m ≤ B → 2 ^ m ≤ 2 ^ B := fun m h => Nat.pow_le_pow_right (by decide) h
  have hPP : 0 < 2 ^ (e + w) := Nat.pow_pos (by decide)
  have hB1 : Q * 2 ^ (e + w) < 2 ^ B := by
    have : Q * 2 ^ (e + w) < 2 ^ (2 * n) * 2 ^ (e + w) := Nat.mul_lt_mul_of_pos_right hQ1 hPP
    rw [← Nat.pow_add] at this
    exact Nat.lt_of_lt_of_le this (hpow _ (by omega))
  have hB2 : 2 * 2 ^ n * (Q * 2 ^ (e + w)) < 2 ^ B := by
    have h1 : Q * 2 ^ (e + w) < 2 ^ (2 * n) * 2 ^ (e + w) := Nat.mul_lt_mul_of_pos_right hQ1 hPP
    have h2 : 2 * 2 ^ n * (Q * 2 ^ (e + w)) < 2 * 2 ^ n * (2 ^ (2 * n) * 2 ^ (e + w)) := Nat.mul_lt_mul_of_pos_left h1 (Nat.mul_pos (by decide) (Nat.pow_pos (by decide)))
    have h3 : 2 * 2 ^ n * (2 ^ (2 * n) * 2 ^ (e + w)) = 2 ^ (3 * n + 1 + (e + w)) := by
      rw [← Nat.pow_add, ← Nat.pow_succ', ← Nat.pow_add]; congr 1; omega
    rw [h3] at h2
    exact Nat.lt_of_lt_of_le h2 (hpow _ (by omega))
  have hwid : (qv (slow b) - qv (slow a)) * ((2 ^ 0 : Nat) : Rat) ≤ ((2 ^ w : Nat) : Rat) := by
    rw [s5, t5, Nat.pow_zero]
    have h1 : ((2 ^ (n + 1) : Nat) : Rat) ≤ ((2 ^ w : Nat) : Rat) := rat_nat (Nat.pow_le_pow_right (by decide) hw)
    have h2 : ((2 ^ (n + 1) : Nat) : Rat) = 2 * ((2 ^ n : Nat) : Rat) := by rw [Nat.pow_succ]; push_cast; grind
    push_cast at h1 h2 qa qb ⊢
    grind
  have h := isp_all (Q := Q) (K := 2 ^ n) (B := B) hx h0 hC hQ0 sep hD hh hB1 hB2 hB hev (e + w + 1) 0 (slow a) (slow b) (by omega) (by omega) ea eb (by rw [s5, t5]; exact hle) hwid
  rw [s5, t5, ← cvc_v ha, ← cvc_v hb] at h
  have hr := chg_range ((chn F xs).map (fat a.1 a.2))
  have hr2 := chg_range ((chn F xs).map (fat b.1 b.2))
  rw [List.length_map] at hr hr2
  have hca : cvc F xs a = chg ((chn F xs).map (fat a.1 a.2)) := rfl
  have hcb : cvc F xs b = chg ((chn F xs).map (fat b.1 b.2)) := rfl
  have hlen : ((sisol F xs (e + w + 1) a b hq).length : Int) = cvc F xs a - cvc F xs b := h.2.1
  refine ⟨⟨hC, hev a (by omega) (by omega), hev b (by omega) (by omega), s1, t1, h.1, by omega⟩, by rw [← cvc_v ha, ← cvc_v hb]; exact hlen, Q, hQ0, hQ1, h.2.2⟩
theorem sep_of {xs : List Int} {F K A e : Nat} (hx : Tr xs) (h0 : xs ≠ []) (hC : chOK F xs) (hK : 0 < K) (hA : 0 < A) (na : ∀ i, (cf (sqf F xs) i).natAbs ≤ A) (nb : ∀ i, (cf (pder (sqf F xs)) i).natAbs ≤ A)
    (hs : 2 ≤ (sqf F xs).length → sepOK K A (sqf F xs).length e = true) (u v : Rat) (h1 : -(K : Rat) ≤ u) (huv : u ≤ v) (h3 : v ≤ (K : Rat)) (hh : v - u ≤ 1 / ((2 ^ e : Nat) : Rat)) : vch F xs u - vch F xs v ≤ 1 := by
  by_cases h2 : 2 ≤ (sqf F xs).length
  · have h := chn_sep hx h0 hC hK hA rfl h2 na nb (hs h2) h1 huv h3 hh
    show vat _ u - vat _ v ≤ 1
    rw [h]; unfold crs; split <;> decide
  · have hl := len_pder' (sqf F xs)
    have hd : pder (sqf F xs) = [] := List.eq_nil_of_length_eq_zero (by omega)
    have hc : chn F xs = [sqf F xs] := by unfold chn; rw [hd, pprim_nil, schain_nil]
    unfold vch vat
    rw [hc]
    have r1 := chg_range (([rev (sqf F xs)]).map fun g => rsg (g u))
    have r2 := chg_range (([rev (sqf F xs)]).map fun g => rsg (g v))
    simp only [List.map_cons, List.map_nil, List.length_cons, List.length_nil] at r1 r2 ⊢
    omega
end Go.Sky
namespace Go.Sky
open Go.RowKit (Below)
set_option linter.unusedVariables false
variable {P : Program} {N : Nat} {sc : Nat → Prop} {env env' : Env} {H H' : Hp} {Q Q' : Exit → Act → World → Prop} {M : Nat → Prop}
def CalM (P : Program) (f : FuncId) (args : Array Value) (pre : List Pc) {G : Type} (φ : G → Prop) (val : G → Value) (it its : G → Pc) : Prop :=
  ∀ w, (∀ p ∈ pre, p.holds w) → Calls P f args w fun e w' => ∃ g, e = .returned (val g) ∧ φ g ∧ Below w.heap.size w w' ∧ (it g).holds w' ∧ (∀ b, (it g).fp b → w.heap.size ≤ b) ∧
    (its g).holds w' ∧ (its g).own = false ∧ (∀ b, (its g).fp b → w.heap.size ≤ b ∨ ∃ q ∈ pre, q.fp b) ∧ ∀ b, (it g).fp b → (its g).fp b → False
def FPostM (P : Program) (fn : Func) (w0 : World) (pre : List Pc) {G : Type} (φ : G → Prop) (val : G → Value) (it its : G → Pc) : Exit → Act → World → Prop :=
  bodyPost P fn fun e w' => ∃ g, e = .returned (val g) ∧ φ g ∧ Below w0.heap.size w0 w' ∧ (it g).holds w' ∧ (∀ b, (it g).fp b → w0.heap.size ≤ b) ∧
    (its g).holds w' ∧ (its g).own = false ∧ (∀ b, (its g).fp b → w0.heap.size ≤ b ∨ ∃ q ∈ pre, q.fp b) ∧ ∀ b, (it g).fp b → (its g).fp b → False
abbrev qD (z : SL × Nat) : Pc := d9p (svv z.1) z.2
abbrev JE := (R2 × R2) × (SL × SL × SL × SL)
abbrev encJ (y : JE) : Value := .agg #[.bool (decide (y.1.1.1 < 0)), svv y.2.1, .bool (decide (y.1.1.2 < 0)), svv y.2.2.1, .bool (decide (y.1.2.1 < 0)), svv y.2.2.2.1, .bool (decide (y.1.2.2 < 0)), svv y.2.2.2.2]
abbrev qJ (y : JE) : Pc := many qD [(y.2.1, y.1.1.1.natAbs), (y.2.2.1, y.1.1.2.natAbs), (y.2.2.2.1, y.1.2.1.natAbs), (y.2.2.2.2, y.1.2.2.natAbs)]
abbrev J0 : JE := (((0, 0), (0, 0)), ((none, 0, 0), (none, 0, 0), (none, 0, 0), (none, 0, 0)))
end Go.Sky
namespace Go.Sky
set_option linter.unusedVariables false
end Go.Sky
namespace Go.Sky
open Go.Proofs
set_option maxRecDepth 20000
set_option maxHeartbeats 4000000
set_option linter.unusedVariables false
set_option linter.unusedSimpArgs false
end Go.Sky
open Go.Proofs
namespace Go.Sky
abbrev cvr (ls : List (SL × List (Int × SL))) (m : R2) : Int := chg ((intsT ls).map (fat m.1 m.2))
end Go.Sky
namespace Go.Sky
open Go.Proofs
set_option maxRecDepth 20000
set_option maxHeartbeats 4000000
set_option linter.unusedVariables false
set_option linter.unusedSimpArgs false
end Go.Sky
namespace Go.Sky
open Go.Proofs
set_option linter.unusedVariables false
end Go.Sky
namespace Go.Sky
open Go.Proofs
set_option maxRecDepth 20000
set_option maxHeartbeats 4000000
set_option linter.unusedVariables false
set_option linter.unusedSimpArgs false
end Go.Sky
namespace Go.Sky
set_option linter.unusedVariables false
theorem Sqn.mem {P : R2 → R2 → Prop} {hi : Rat} : ∀ {lo : Rat} {l : List (R2 × R2)}, Sqn P hi lo l → ∀ c ∈ l, P c.1 c.2
  | _, [], _, c, hc => by cases hc
  | lo, d :: r, h, c, hc => by
    rcases List.mem_cons.1 hc with rfl | hc
    · exact h.2.2.1
    · exact Sqn.mem h.2.2.2 c hc
theorem en_bl {K Q d B : Nat} {z : R2} (h : En K Q d z) (hQ : 0 < Q) (h1 : Q * 2 ^ d < 2 ^ B) (h2 : K * (Q * 2 ^ d) < 2 ^ B) : bl z.1.natAbs ≤ B ∧ bl z.2.natAbs ≤ B := by
  obtain ⟨hp, hd, hl, hu⟩ := h
  have hpos : 0 < Q * 2 ^ d := Nat.mul_pos hQ (Nat.pow_pos (by decide))
  have hz2 : z.2.natAbs ≤ Q * 2 ^ d := by
    have := Int.natAbs_dvd_natAbs.2 hd
    rw [Int.natAbs_natCast] at this
    exact Nat.le_of_dvd hpos this
  have hz1 : z.1.natAbs ≤ K * z.2.natAbs := by
    have r := rat_pos hp
    have e : (z.1 : Rat) = qv z * z.2 := by unfold qv; grind
    have t1 := Rat.mul_nonneg (a := (K : Rat) - qv z) (b := (z.2 : Rat)) (by grind) (by grind)
    have t2 := Rat.mul_nonneg (a := (K : Rat) + qv z) (b := (z.2 : Rat)) (by grind) (by grind)
    have hn : ((K * z.2.natAbs : Nat) : Int) = (K : Int) * z.2 := by push_cast; rw [Int.natAbs_of_nonneg (by omega)]
    have u1 : ((z.1 : Int) : Rat) ≤ (((K : Int) * z.2 : Int) : Rat) := by push_cast; grind
    have u2 : ((-((K : Int) * z.2) : Int) : Rat) ≤ ((z.1 : Int) : Rat) := by push_cast; grind
    have v1 : z.1 ≤ (K : Int) * z.2 := by exact_mod_cast u1
    have v2 : -((K : Int) * z.2) ≤ z.1 := by exact_mod_cast u2
    omega
  have hz3 : K * z.2.natAbs ≤ K * (Q * 2 ^ d) := Nat.mul_le_mul_left _ hz2
  exact ⟨bl_le_of (by omega), bl_le_of (by omega)⟩
theorem en_bl2 {n e w Q B : Nat} {z : R2} (h : En (2 ^ n) Q (e + w) z) (hQ : 0 < Q) (hQ1 : Q < 2 ^ (2 * n)) (hB : 3 * n + 1 + (e + w) ≤ B) : bl z.1.natAbs ≤ B ∧ bl z.2.natAbs ≤ B := by
  have hpow : ∀ m, m ≤ B → 2 ^ m ≤ 2 ^ B := fun m h => Nat.pow_le_pow_right (by decide) h
  have hPP : 0 < 2 ^ (e + w) := Nat.pow_pos (by decide)
  have h1 : Q * 2 ^ (e + w) < 2 ^ (2 * n) * 2 ^ (e + w) := Nat.mul_lt_mul_of_pos_right hQ1 hPP
  have h2 : 2 ^ n * (Q * 2 ^ (e + w)) < 2 ^ n * (2 ^ (2 * n) * 2 ^ (e + w)) := Nat.mul_lt_mul_of_pos_left h1 (Nat.pow_pos (by decide))
  have e1 : 2 ^ (2 * n) * 2 ^ (e + w) = 2 ^ (2 * n + (e + w)) := (Nat.pow_add _ _ _).symm
  have e2 : 2 ^ n * (2 ^ (2 * n) * 2 ^ (e + w)) = 2 ^ (n + (2 * n + (e + w))) := by rw [e1, ← Nat.pow_add]
  rw [e1] at h1
  rw [e2] at h2
  exact en_bl h hQ (Nat.lt_of_lt_of_le h1 (hpow _ (by omega))) (Nat.lt_of_lt_of_le h2 (hpow _ (by omega)))
theorem dec6 {r : RWL} (h6 : r.length ≤ 6) (h2 : ∀ i, i < r.length → (r.getD i (false, ⟨#[]⟩)).2.size ≤ 2) (hok : okP r = true) : Sz 16 (dec r) := by
  obtain ⟨hv, hr⟩ := dec_ok hok
  have hlr := congrArg List.length hr
  rw [List.length_map] at hlr
  refine fun i => ?_
  rcases Nat.lt_or_ge i (dec r).length with hi | hi
  · have h := h2 i (by omega)
    have e : r.getD i (false, ⟨#[]⟩) = wr (cf (dec r) i) := by
      have : r[i]? = some (wr (cf (dec r) i)) := by
        rw [show r[i]? = ((dec r).map wr)[i]? from congrArg (fun l : RWL => l[i]?) hr]; simp [List.getElem?_map, List.getElem?_eq_getElem hi, cf]
      rw [List.getD_eq_getElem?_getD, this]; rfl
    rw [e] at h
    exact bl_pow256 2 h
  · rw [cf_ge hi]; simp [bl_zero]
end Go.Sky
namespace Go.Sky
set_option linter.unusedVariables false
theorem evG_bound (R : Nat) : ∀ (n : Nat) (s : List Int) (A : Nat) (t : Int), s.length ≤ n → (∀ c ∈ s, c.natAbs ≤ A) → t.natAbs ≤ R → (ev1 s t).natAbs ≤ eB R A n
  | n, [], A, t, _, _, _ => by simp [ev1]
  | 0, c :: s, A, t, h, _, _ => by simp at h
  | n + 1, c :: s, A, t, h, hc, h1 => by
    have ih := evG_bound R n s A t (by simpa using h) (fun x hx => hc x (List.mem_cons_of_mem _ hx)) h1
    have h2 := hc c (List.mem_cons_self ..)
    have h3 : (t * ev1 s t).natAbs ≤ R * eB R A n := by rw [Int.natAbs_mul]; exact Nat.mul_le_mul h1 ih
    show (c + t * ev1 s t).natAbs ≤ A + R * eB R A n
    omega
theorem factor5 {xs : List Int} {F : Nat} (hx : Tr xs) (h0 : xs ≠ []) (hok : eok F (gA (nrm xs) (pder (nrm xs))) (gB (nrm xs) (pder (nrm xs)))) (hs : Sz 16 xs) (hl : xs.length ≤ 6) (h5 : (sqf F xs).length ≤ 5) : Sz 40 (sqf F xs) := by
  obtain ⟨f1, f2, f3, f4, f5, f6⟩ := sqf_fac (F := F) hx h0 hok
  have ht : Tr (nrm xs) := tr_gnorm (tr_pprim hx)
  have hn0 := nrm_ne hx h0
  have hnn := sz_nrm hs
  have hln := length_nrm hx
  have hg := tr_pgcd (F := F) ht (tr_pder ht)
  have lu := List.length_pos_iff.2 f3
  generalize hP : ([-4, -3, -2, -1, 0, 1, 2, 3, 4] : List Int) = pts
  have hnp : pts.Nodup := by rw [← hP]; decide
  have h3 : pts.length = 9 := by rw [← hP]; rfl
  have hpr : ∀ t ∈ pts, t.natAbs ≤ 4 := fun t ht => by
    rw [← hP] at ht; simp at ht; omega
  have hsim := (sim_pprim hx).symm.trans (sim_gnorm (pprim xs)).symm
  have h1 := filter_len (fun t => decide (ev1 (nrm xs) t ≠ 0)) pts
  have h2 := roots_le (sqf F xs).length (sqf F xs) (pts.filter fun t => !decide (ev1 (nrm xs) t ≠ 0)) rfl ⟨_, f2.mem f3⟩ (hnp.filter _) fun t ht => by
    have h6 : ev1 (nrm xs) t = 0 := by
      have := (List.mem_filter.1 ht).2
      simpa using this
    have h7 : rev (nrm xs) ((t : Rat) / ((1 : Int) : Rat)) = 0 := by
      rw [show (t : Rat) / ((1 : Int) : Rat) = (t : Rat) by push_cast; grind, ev1_rev, h6]; rfl
    have h8 : rev xs ((t : Rat) / ((1 : Int) : Rat)) = 0 := by
      obtain ⟨m, n, hm, hn, e⟩ := hsim
      have h9 := rev_ext ((t : Rat) / ((1 : Int) : Rat)) (xs.map fun c => m * c) ((nrm xs).map fun c => n * c) fun i => by rw [cf_smul, cf_smul, e]; rfl
      rw [rev_smul, rev_smul, h7] at h9
      have hm' : (m : Rat) ≠ 0 := by exact_mod_cast hm
      grind
    have h10 := sqf_root hx h0 hok (by decide : (1 : Int) ≠ 0) h8
    rw [show (t : Rat) / ((1 : Int) : Rat) = (t : Rat) by push_cast; grind, ev1_rev] at h10
    exact_mod_cast h10
  generalize hT : pts.filter (fun t => decide (ev1 (nrm xs) t ≠ 0)) = T at h1
  have hTl : (sqf F xs).length ≤ T.length := by omega
  have hTm : ∀ t ∈ T.take (sqf F xs).length, t ∈ pts ∧ ev1 (nrm xs) t ≠ 0 := fun t ht => by
    have := List.mem_of_mem_take ht
    rw [← hT, List.mem_filter] at this
    exact ⟨this.1, by simpa using this.2⟩
  have hA : ∀ c ∈ nrm xs, c.natAbs ≤ 2 ^ 16 := fun c hc => Nat.le_of_lt ((bl_le 16 _).1 (hnn.mem hc))
  have hk := interpR 4 (sqf F xs).length (sqf F xs) (T.take (sqf F xs).length) (eB 4 (2 ^ 16) 6) (Nat.le_refl _) (by rw [List.length_take]; omega) ((hT ▸ hnp.filter _ : T.Nodup).sublist (List.take_sublist _ _)) (fun t ht => hpr t (hTm t ht).1) fun t ht' => by
    have hb := evG_bound 4 6 (nrm xs) (2 ^ 16) t (by omega) hA (hpr t (hTm t ht').1)
    have he : ev1 (nrm xs) t = ev1 (sqf F xs) t * ev1 (pgcd F (nrm xs) (pder (nrm xs))) t := by
      have e9 : ev1 (nrm xs) t = ev1 (pmul (sqf F xs) (pgcd F (nrm xs) (pder (nrm xs)))) t := by rw [← f4]
      rw [e9, ev1_pev1, ev1_pev1, ev1_pev1, pev_mul0 f2 hg f3 f5]
    have hd : ev1 (sqf F xs) t ∣ ev1 (nrm xs) t := ⟨_, he⟩
    have hnz := (hTm t ht').2
    exact Nat.le_trans (Nat.le_of_dvd (by omega) (Int.natAbs_dvd_natAbs.2 hd)) hb
  intro i
  rw [bl_le]
  refine Nat.lt_of_le_of_lt (hk i) ?_
  have hkk := kkR_mono 4 h5
  exact Nat.lt_of_le_of_lt (Nat.mul_le_mul_right _ hkk) (by decide +kernel)
theorem factor6 {xs : List Int} {F n : Nat} (hx : Tr xs) (h0 : xs ≠ []) (hok : eok F (gA (nrm xs) (pder (nrm xs))) (gB (nrm xs) (pder (nrm xs)))) (hs : Sz n xs) (h6 : (sqf F xs).length = xs.length) : Sz n (sqf F xs) := by
  obtain ⟨f1, f2, f3, f4, f5, f6⟩ := sqf_fac (F := F) hx h0 hok
  have ht : Tr (nrm xs) := tr_gnorm (tr_pprim hx)
  have hg := tr_pgcd (F := F) ht (tr_pder ht)
  have hlq := length_pmul f2 hg f3 f5
  rw [← f4, length_nrm hx] at hlq
  have lg := List.length_pos_iff.2 f5
  have lq := List.length_pos_iff.2 f3
  have h1 : (pgcd F (nrm xs) (pder (nrm xs))).length = 1 := by omega
  match hgg : pgcd F (nrm xs) (pder (nrm xs)), h1 with
  | [c], _ =>
    have hc : c ≠ 0 := by rw [hgg] at hg; exact hg.mem (by simp)
    intro i
    have e : cf (nrm xs) i = cf ((sqf F xs).map fun a => c * a) i := rev_inj (fun x => by
      have : rev (nrm xs) x = rev (pmul (sqf F xs) (pgcd F (nrm xs) (pder (nrm xs)))) x := by rw [← f4]
      rw [this, rev_pmul, hgg, rev_one, rev_smul]; grind) i
    rw [cf_smul] at e
    have h2 := sz_nrm hs i
    rw [e, Int.natAbs_mul] at h2
    refine Nat.le_trans (bl_mono ?_) h2
    exact Nat.le_mul_of_pos_left _ (by omega)
theorem sepH {xs : List Int} {F : Nat} (hx : Tr xs) (h0 : xs ≠ []) (hs : Sz 16 xs) (hl : xs.length ≤ 6) (hF : 5 ≤ F) (u v : Rat) (h1 : -((2 ^ 16 : Nat) : Rat) ≤ u) (huv : u ≤ v) (h3 : v ≤ ((2 ^ 16 : Nat) : Rat)) (hh : v - u ≤ 1 / ((2 ^ 440 : Nat) : Rat)) : vch F xs u - vch F xs v ≤ 1 := by
  obtain ⟨hC, hq1, hq2, hq3⟩ := chF F hx h0 hs (by omega) (by omega) (by omega)
  by_cases h6 : (sqf F xs).length = 6
  · have hf := factor6 (n := 16) hx h0 hC.1.2.2.1 hs (by omega)
    have hd := sz_pder' hf (by omega)
    have hss : sepOK (2 ^ 16) (2 ^ 21) 6 440 = true := by decide +kernel
    exact sep_of hx h0 hC (Nat.pow_pos (by decide)) (A := 2 ^ 21) (Nat.pow_pos (by decide)) (fun i => Nat.le_trans (sz_pow hf i) (Nat.pow_le_pow_right (by decide) (by omega))) (fun i => sz_pow hd i) (fun _ => by rw [h6]; exact hss) u v h1 huv h3 hh
  · have hf := factor5 hx h0 hC.1.2.2.1 hs hl (by omega)
    have hd := sz_pder' hf (by omega)
    have hss : ∀ n, n ≤ 5 → 2 ≤ n → sepOK (2 ^ 16) (2 ^ 45) n 440 = true := by decide +kernel
    exact sep_of hx h0 hC (Nat.pow_pos (by decide)) (A := 2 ^ 45) (Nat.pow_pos (by decide)) (fun i => Nat.le_trans (sz_pow hf i) (Nat.pow_le_pow_right (by decide) (by omega))) (fun i => sz_pow hd i) (fun h2 => hss _ (by omega) h2) u v h1 huv h3 hh
end Go.Sky
namespace Go.Sky
set_option linter.unusedVariables false
theorem Ed.const {g a : List Int} (h : Ed g a) (hg : Tr g) (ha : Tr a) (h0 : a ≠ []) (hl : g.length = a.length) : ∃ k c : Int, k ≠ 0 ∧ c ≠ 0 ∧ ∀ x : Rat, (k : Rat) * rev a x = (c : Rat) * rev g x := by
  obtain ⟨k, s, hk, h⟩ := h
  obtain ⟨a1, a2, a3⟩ := ed_len hk hg ha h0 h
  have hl1 := List.length_pos_iff.2 a2
  match hs : tzl s, hl1, a3 with
  | [c], _, _ =>
    have hc : c ≠ 0 := by have := (tr_tzl s).mem a2; rw [hs] at this; exact this
    refine ⟨k, c, hk, hc, fun x => ?_⟩
    rw [h x, ← rev_tzl s, hs, rev_one]
  | c :: d :: r, _, h9 => simp at h9; omega
theorem sqf_char {ys s h : List Int} {F : Nat} {c : Int} (hy : Tr ys) (y0 : ys ≠ []) (hok : eok F (gA (nrm ys) (pder (nrm ys))) (gB (nrm ys) (pder (nrm ys)))) (hs : Tr s) (hn : nrm s = s) (hh : Tr h) (h0 : h ≠ []) (hc : c ≠ 0)
    (e : ∀ x : Rat, (c : Rat) * rev (nrm ys) x = rev s x * rev h x) (e1 : Ed h (pgcd F (nrm ys) (pder (nrm ys)))) (e2 : Ed (pgcd F (nrm ys) (pder (nrm ys))) h) : sqf F ys = s := by
  obtain ⟨f1, f2, f3, f4, f5, f6⟩ := sqf_fac (F := F) hy y0 hok
  have ht : Tr (nrm ys) := tr_gnorm (tr_pprim hy)
  have hg := tr_pgcd (F := F) ht (tr_pder ht)
  have hl : h.length = (pgcd F (nrm ys) (pder (nrm ys))).length := Nat.le_antisymm (e1.len hh hg f5).2 (e2.len hg hh h0).2
  obtain ⟨k, c2, hk, hc2, hkc⟩ := e1.const hh hg f5 hl
  have hp : ∀ x : Rat, rev (nrm ys) x = rev (sqf F ys) x * rev (pgcd F (nrm ys) (pder (nrm ys))) x := fun x => by
    have : rev (nrm ys) x = rev (pmul (sqf F ys) (pgcd F (nrm ys) (pder (nrm ys)))) x := by rw [← f4]
    rw [this, rev_pmul]
  generalize pgcd F (nrm ys) (pder (nrm ys)) = g at *
  have hz : ∀ x : Rat, rev (ladd ((sqf F ys).map fun a => (c * c2) * a) (s.map fun a => (-k) * a)) x = 0 := fun x => by
    refine mul_zero_rev (v := g) (by rw [tzl_tr hg]; exact f5) (fun x => ?_) x
    rw [rev_ladd, rev_smul, rev_smul]
    have a1 := e x; have a2 := hkc x; have a3 := hp x
    push_cast
    have : rev g x * (c * c2 * rev (sqf F ys) x + -k * rev s x) = c2 * (c * (rev (sqf F ys) x * rev g x)) - rev s x * (k * rev g x) := by grind
    rw [this, ← a3, a1, a2]; grind
  have hsim : Sim (sqf F ys) s := ⟨c * c2, k, Int.mul_ne_zero hc hc2, hk, fun i => by
    have := rev_inj (p := (sqf F ys).map fun a => (c * c2) * a) (q := s.map fun a => k * a) (fun x => by
      have := hz x
      rw [rev_ladd, rev_smul, rev_smul] at this
      rw [rev_smul, rev_smul]; push_cast at this ⊢; grind) i
    rwa [cf_smul, cf_smul] at this⟩
  have := nrm_sim f2 hs hsim
  rw [f6, hn] at this; exact this
theorem rev_pscale (p : List Int) (c : Int) (x : Rat) : rev (pscale p c) x = (c : Rat) * rev p x := by
  rw [← rev_smul]; exact rev_ext x _ _ fun i => by rw [cf_pscale, cf_smul, Int.mul_comm]
theorem pscale_ne {p : List Int} {c : Int} (hp : Tr p) (h0 : p ≠ []) (hc : c ≠ 0) : pscale p c ≠ [] := fun e => by
  have h1 := cf_pscale p c (p.length - 1)
  rw [e, cf_nil] at h1
  exact Int.mul_ne_zero (hp.mem h0) hc h1.symm
theorem sqf_sqf {xs : List Int} {F : Nat} (hx : Tr xs) (h0 : xs ≠ []) (hok : eok F (gA (nrm xs) (pder (nrm xs))) (gB (nrm xs) (pder (nrm xs))))
    (hok2 : eok F (gA (nrm (sqf F xs)) (pder (nrm (sqf F xs)))) (gB (nrm (sqf F xs)) (pder (nrm (sqf F xs))))) : sqf F (sqf F xs) = sqf F xs := by
  obtain ⟨f1, f2, f3, f4, f5, f6⟩ := sqf_fac (F := F) hx h0 hok
  obtain ⟨q1, q2, q3, q4, q5, q6⟩ := sqf_fac (F := F) f2 f3 hok2
  have ht : Tr (nrm (sqf F xs)) := by rw [f6]; exact f2
  have hd := pgcd_dv ht (tr_pder ht) hok2
  have hg := tr_pgcd (F := F) ht (tr_pder ht)
  have hlen : (pgcd F (nrm (sqf F xs)) (pder (nrm (sqf F xs)))).length ≤ 1 := by
    have d1 := hd.1.ed
    have d2 := hd.2.ed
    rw [f6] at d1 d2 hg ⊢
    exact sqf_cop hx h0 hok hg d1 d2
  have lg := List.length_pos_iff.2 q5
  refine sqf_char (h := [1]) (c := 1) f2 f3 hok2 f2 f6 (.inr (show cf [1] 0 ≠ 0 by decide)) (by simp) (by decide) (fun x => by rw [f6, rev_one]; push_cast; grind) ⟨1, pgcd F (nrm (sqf F xs)) (pder (nrm (sqf F xs))), by decide, fun x => by rw [rev_one]; push_cast; grind⟩ ?_
  match hgg : pgcd F (nrm (sqf F xs)) (pder (nrm (sqf F xs))), lg, hlen with
  | [c], _, _ =>
    have hc : c ≠ 0 := by rw [hgg] at hg; exact hg.mem (by simp)
    exact ⟨c, [1], hc, fun x => by rw [rev_one, rev_one]; push_cast; grind⟩
  | c :: d :: r, _, h9 => simp at h9
theorem sqf_scale {xs : List Int} {F : Nat} {c : Int} (hx : Tr xs) (hc : c ≠ 0) : sqf F (pscale xs c) = sqf F xs := by
  have h : nrm (pscale xs c) = nrm xs := nrm_sim (tr_pscale _ _) hx (sim_pscale xs hc).symm
  unfold sqf; rw [h]
theorem sqf_square {xs : List Int} {F : Nat} (hx : Tr xs) (h0 : xs ≠ []) (hok : eok F (gA (nrm xs) (pder (nrm xs))) (gB (nrm xs) (pder (nrm xs))))
    (hok2 : eok F (gA (nrm (pmul xs xs)) (pder (nrm (pmul xs xs)))) (gB (nrm (pmul xs xs)) (pder (nrm (pmul xs xs))))) : sqf F (pmul xs xs) = sqf F xs := by
  obtain ⟨f1, f2, f3, f4, f5, f6⟩ := sqf_fac (F := F) hx h0 hok
  have ht : Tr (nrm xs) := tr_gnorm (tr_pprim hx)
  have hn0 := nrm_ne hx h0
  have hg := tr_pgcd (F := F) ht (tr_pder ht)
  have hgd := pgcd_dv ht (tr_pder ht) hok
  have hty : Tr (pmul xs xs) := tr_pmul _ _
  have hy0 : pmul xs xs ≠ [] := fun e => by
    have := length_pmul hx hx h0 h0
    rw [e] at this
    have := List.length_pos_iff.2 h0
    simp at *; omega
  have htn : Tr (nrm (pmul xs xs)) := tr_gnorm (tr_pprim hty)
  have hgd2 := pgcd_dv htn (tr_pder htn) hok2
  obtain ⟨m, n, hm, hn, es⟩ := (sim_pprim hx).symm.trans (sim_gnorm (pprim xs)).symm
  obtain ⟨m2, n2, hm2, hn2, es2⟩ := (sim_gnorm (pprim (pmul xs xs))).trans (sim_pprim hty)
  have r1 : ∀ x : Rat, (m : Rat) * rev xs x = (n : Rat) * rev (nrm xs) x := fun x => by
    have := rev_ext x (xs.map fun a => m * a) ((nrm xs).map fun a => n * a) fun i => by rw [cf_smul, cf_smul]; exact es i
    rwa [rev_smul, rev_smul] at this
  have r2 : ∀ x : Rat, (m2 : Rat) * rev (nrm (pmul xs xs)) x = (n2 : Rat) * (rev xs x * rev xs x) := fun x => by
    have := rev_ext x ((nrm (pmul xs xs)).map fun a => m2 * a) ((pmul xs xs).map fun a => n2 * a) fun i => by rw [cf_smul, cf_smul]; exact es2 i
    rwa [rev_smul, rev_smul, rev_pmul] at this
  have hM : m * m * m2 ≠ 0 := Int.mul_ne_zero (Int.mul_ne_zero hm hm) hm2
  have hN : n * n * n2 ≠ 0 := Int.mul_ne_zero (Int.mul_ne_zero hn hn) hn2
  have r3 : ∀ x : Rat, ((m * m * m2 : Int) : Rat) * rev (nrm (pmul xs xs)) x = ((n * n * n2 : Int) : Rat) * (rev (nrm xs) x * rev (nrm xs) x) := fun x => by
    have a1 := r1 x; have a2 := r2 x
    push_cast
    have : (m : Rat) * m * m2 * rev (nrm (pmul xs xs)) x = m * m * (m2 * rev (nrm (pmul xs xs)) x) := by grind
    rw [this, a2]
    have : (m : Rat) * m * (n2 * (rev xs x * rev xs x)) = n2 * ((m * rev xs x) * (m * rev xs x)) := by grind
    rw [this, a1]; grind
  generalize m * m * m2 = M at hM r3
  generalize n * n * n2 = N at hN r3
  have r4 : ∀ x : Rat, (M : Rat) * rev (ld (nrm (pmul xs xs))) x = (N : Rat) * (2 * (rev (nrm xs) x * rev (ld (nrm xs)) x)) := fun x => by
    have := rd_congr (p := (nrm (pmul xs xs)).map fun a => M * a) (q := (lmul (nrm xs) (nrm xs)).map fun a => N * a) (fun y => by rw [rev_smul, rev_smul, rev_lmul]; exact r3 y) x
    rw [rd_smul, rd_smul, rd_lmul] at this
    rw [this]; grind
  have hp : ∀ x : Rat, rev (nrm xs) x = rev (sqf F xs) x * rev (pgcd F (nrm xs) (pder (nrm xs))) x := fun x => by
    have : rev (nrm xs) x = rev (pmul (sqf F xs) (pgcd F (nrm xs) (pder (nrm xs)))) x := by rw [← f4]
    rw [this, rev_pmul]
  obtain ⟨k, t, hk, ek⟩ := hgd.2.ed.congr fun x => Qq (nrm xs) x
  obtain ⟨g0, A, B, b1, b2, b3, b4⟩ := bezout _ (nrm xs) (pder (nrm xs)) ht (tr_pder ht) (Nat.le_refl _)
  obtain ⟨k0, u, hk0, eu⟩ := pgcd_great (F := F) ht (tr_pder ht) b2 b3
  obtain ⟨k1, v1, hk1, ev1⟩ := hgd2.1.ed
  obtain ⟨k2, v2, hk2, ev2⟩ := hgd2.2.ed.congr fun x => Qq (nrm (pmul xs xs)) x
  have hgp : pmul (pgcd F (nrm xs) (pder (nrm xs))) (nrm xs) ≠ [] := fun e => by
    have h1 := length_pmul hg ht f5 hn0
    rw [e] at h1
    have := List.length_pos_iff.2 f5
    have := List.length_pos_iff.2 hn0
    simp at h1; omega
  have rh : ∀ x : Rat, rev (pscale (pmul (pgcd F (nrm xs) (pder (nrm xs))) (nrm xs)) N) x = (N : Rat) * (rev (pgcd F (nrm xs) (pder (nrm xs))) x * rev (nrm xs) x) := fun x => by rw [rev_pscale, rev_pmul]
  refine sqf_char (h := pscale (pmul (pgcd F (nrm xs) (pder (nrm xs))) (nrm xs)) N) (c := M) hty hy0 hok2 f2 f6 (tr_pscale _ _) (pscale_ne (tr_pmul _ _) hgp hN) hM (fun x => ?_) ?_ ?_
  · rw [r3 x, rh x]; have := hp x; grind
  · refine pgcd_great htn (tr_pder htn) ⟨M, sqf F xs, hM, fun x => by rw [r3 x, rh x]; have := hp x; grind⟩ (Ed.congr (a := ld (nrm (pmul xs xs))) ⟨k * M, t.map fun a => 2 * a, Int.mul_ne_zero hk hM, fun x => ?_⟩ fun x => (Qq _ x).symm)
    rw [rh x, rev_smul]
    have a1 := r4 x; have a2 := ek x
    push_cast
    have : (k : Rat) * M * rev (ld (nrm (pmul xs xs))) x = k * (M * rev (ld (nrm (pmul xs xs))) x) := by grind
    rw [this, a1]
    have : (k : Rat) * (N * (2 * (rev (nrm xs) x * rev (ld (nrm xs)) x))) = 2 * N * rev (nrm xs) x * (k * rev (ld (nrm xs)) x) := by grind
    rw [this, a2]; grind
  · refine ⟨2 * (k1 * k2) * k0, (ladd ((lmul (lmul u A) v1).map fun a => (2 * k2) * a) ((lmul (lmul u B) v2).map fun a => k1 * a)).map fun a => M * a, Int.mul_ne_zero (Int.mul_ne_zero (by decide) (Int.mul_ne_zero hk1 hk2)) hk0, fun x => ?_⟩
    rw [rh x, rev_smul, rev_ladd, rev_smul, rev_smul, rev_lmul, rev_lmul, rev_lmul, rev_lmul]
    have a1 := r3 x; have a2 := r4 x; have a3 := eu x; have a4 := b4 x; have a5 := ev1 x; have a6 := ev2 x
    rw [Qq] at a4
    push_cast
    generalize rev (pgcd F (nrm xs) (pder (nrm xs))) x = g at *
    generalize rev (pgcd F (nrm (pmul xs xs)) (pder (nrm (pmul xs xs)))) x = g' at *
    generalize rev (nrm (pmul xs xs)) x = Y at *
    generalize rev (ld (nrm (pmul xs xs))) x = Y' at *
    generalize rev (nrm xs) x = p at *
    generalize rev (ld (nrm xs)) x = p' at *
    have s1 : (2 : Rat) * (k1 * k2) * k0 * (N * (g * p)) = 2 * k1 * k2 * N * p * (k0 * g) := by grind
    rw [s1, a3, a4]
    have s2 : (2 : Rat) * k1 * k2 * N * p * (rev u x * (rev A x * p + rev B x * p')) = 2 * k1 * k2 * rev u x * rev A x * (N * (p * p)) + k1 * k2 * rev u x * rev B x * (N * (2 * (p * p'))) := by grind
    rw [s2, ← a1, ← a2]
    have s3 : (2 : Rat) * k1 * k2 * rev u x * rev A x * (M * Y) + k1 * k2 * rev u x * rev B x * (M * Y') = M * (2 * k2 * rev u x * rev A x * (k1 * Y) + k1 * rev u x * rev B x * (k2 * Y')) := by grind
    rw [s3, a5, a6]; grind
end Go.Sky
namespace Go.Sky
set_option linter.unusedVariables false
theorem away_right {xs : List Int} (hx : Tr xs) (h0 : xs ≠ []) (T : Rat) : Away ((sbound xs : Int) : Rat) T (rev xs) := by
  have hlx := hx.mem h0
  by_cases hT : ((sbound xs : Int) : Rat) ≤ T
  · have h1 := (right_big h0 hlx hT).1
    obtain ⟨ε, e1, e2, e3⟩ := ex_small (show (0 : Rat) < 1 by decide) (show (0 : Rat) < T by grind) (show (0 : Rat) < 1 by decide)
    exact ⟨ε, e1, fun x h1 h2 => by
      obtain ⟨a, b, c⟩ := right_big h0 hlx h1
      exact lowb a h2 e1 e3 c⟩
  · exact ⟨1, by decide, fun x h1 h2 => absurd (Rat.le_trans h1 h2) hT⟩
theorem away_left {xs : List Int} (hx : Tr xs) (h0 : xs ≠ []) (T : Rat) : Away (-T) (-((sbound xs : Int) : Rat)) (rev xs) := by
  have hlx := hx.mem h0
  by_cases hT : ((sbound xs : Int) : Rat) ≤ T
  · have h1 := (right_big h0 hlx hT).1
    obtain ⟨ε, e1, e2, e3⟩ := ex_small (show (0 : Rat) < 1 by decide) (show (0 : Rat) < T by grind) (show (0 : Rat) < 1 by decide)
    exact ⟨ε, e1, fun x h1 h2 => by
      obtain ⟨a, b, c⟩ := left_big (x := -x) h0 hlx (by grind)
      rw [show - -x = x by grind] at c
      exact lowb a (T := T) (by grind) e1 e3 c⟩
  · exact ⟨1, by decide, fun x h1 h2 => absurd (show ((sbound xs : Int) : Rat) ≤ T by grind) hT⟩
theorem vch_mono {xs : List Int} {F : Nat} (hx : Tr xs) (h0 : xs ≠ []) (hC : chOK F xs) {s t : Rat} (hst : s ≤ t) : vch F xs t ≤ vch F xs s := chn_mono hx h0 hC hst
theorem far_right {xs : List Int} {F : Nat} (hx : Tr xs) (h0 : xs ≠ []) (hC : chOK F xs) (u : Rat) : vch F xs ((sbound xs : Int) : Rat) ≤ vch F xs u := by
  by_cases h : u ≤ ((sbound xs : Int) : Rat)
  · exact vch_mono hx h0 hC h
  · have := chn_const hx h0 hC (s := ((sbound xs : Int) : Rat)) (t := u) (by grind) (away_right hx h0 u)
    exact Int.le_of_eq this
theorem far_left {xs : List Int} {F : Nat} (hx : Tr xs) (h0 : xs ≠ []) (hC : chOK F xs) (u : Rat) : vch F xs u ≤ vch F xs (-((sbound xs : Int) : Rat)) := by
  by_cases h : -((sbound xs : Int) : Rat) ≤ u
  · exact vch_mono hx h0 hC h
  · have := away_left hx h0 (-u)
    rw [show - -u = u by grind] at this
    exact Int.le_of_eq (chn_const hx h0 hC (by grind) this)
theorem Sqn.imp {P P' : R2 → R2 → Prop} {hi : Rat} (hp : ∀ x y, P x y → P' x y) : ∀ {lo : Rat} {l : List (R2 × R2)}, Sqn P hi lo l → Sqn P' hi lo l
  | _, [], h => h
  | _, _ :: _, h => ⟨h.1, h.2.1, hp _ _ h.2.2.1, Sqn.imp hp h.2.2.2⟩
theorem isoH {xs : List Int} {a b : R2} {hq : Int} (hx : Tr xs) (h0 : xs ≠ []) (hs : Sz 16 xs) (hl : xs.length ≤ 6) (h12 : hq ≤ 12) (ha : 0 < a.2) (hb : 0 < b.2) (a1 : bl a.1.natAbs ≤ 16) (a2 : bl a.2.natAbs ≤ 16) (b1 : bl b.1.natAbs ≤ 16) (b2 : bl b.2.natAbs ≤ 16) (hab : ¬ 0 < a.1 * b.2 - b.1 * a.2) :
    isOK 13 xs 458 a b hq ∧ (∀ z : R2, bl z.1.natAbs ≤ 520 → bl z.2.natAbs ≤ 520 → evc 13 xs z) ∧ ((sisol 13 xs 458 a b hq).length : Int) = cvc 13 xs a - cvc 13 xs b ∧
      Sqn (fun x y => (0 < x.2 ∧ bl x.1.natAbs ≤ 506 ∧ bl x.2.natAbs ≤ 506) ∧ (0 < y.2 ∧ bl y.1.natAbs ≤ 506 ∧ bl y.2.natAbs ≤ 506) ∧ cvc 13 xs x - cvc 13 xs y = 1) (qv b) (qv a) (sisol 13 xs 458 a b hq) := by
  obtain ⟨hC, hq1, hq2, hq3⟩ := chF 13 hx h0 hs (by omega) (by omega) (by omega)
  have hev : ∀ z : R2, bl z.1.natAbs ≤ 520 → bl z.2.natAbs ≤ 520 → evc 13 xs z := fun z z1 z2 p hp h => by
    obtain ⟨p1, p2⟩ := hq3 p hp
    have h4 : msz [z.1, z.2] ≤ 520 := msz_le (Sz.of_mem fun y hy => by
      rcases List.mem_cons.1 hy with rfl | hy
      · exact z1
      · rw [List.mem_singleton.1 hy]; exact z2)
    have h5 : (p.length - 1) * msz [z.1, z.2] ≤ 5 * 520 := Nat.mul_le_mul (by omega) h4
    have := h.2
    omega
  have hll := length_schain 13 (sqf 13 xs) (pprim (pder (sqf 13 xs)))
  have h := iso_all (n := 16) (e := 440) (w := 17) (B := 506) (hq := hq) (a := a) (b := b) hx h0 hC (fun u v => sepH hx h0 hs hl (by omega) u v) (by omega) (by omega) ha hb a1 a2 b1 b2 hab (by omega) (by omega) (by omega) (fun z z1 z2 => hev z (by omega) (by omega)) (by show (schain 13 _ _).length ≤ 1000; omega)
  obtain ⟨g1, g2, Q, hQ, hQ2, hS⟩ := h
  rw [← cvc_v ha, ← cvc_v hb] at g2
  refine ⟨g1, hev, g2, Sqn.imp (fun x y ⟨u, v, w⟩ => ?_) hS⟩
  obtain ⟨e1, e2⟩ := en_bl2 (n := 16) (e := 440) (w := 17) (B := 506) u hQ hQ2 (by decide)
  obtain ⟨e3, e4⟩ := en_bl2 (n := 16) (e := 440) (w := 17) (B := 506) v hQ hQ2 (by decide)
  exact ⟨⟨u.1, e1, e2⟩, ⟨v.1, e3, e4⟩, by rw [cvc_v u.1, cvc_v v.1]; exact w⟩
end Go.Sky
namespace Go.Sky
set_option linter.unusedVariables false
def oe (f : Nat → Int) : Nat → Int
  | 0 => 0
  | k + 1 => err (oe f k) (f k)
end Go.Sky
namespace Go.Sky
set_option linter.unusedVariables false
def mon (d n : Nat) : List Int := mono d ((2 : Int) ^ n)
variable {P : Program} {N : Nat} {sc : Nat → Prop} {env : Env} {H : Hp}
end Go.Sky
namespace Go.Sky
set_option linter.unusedVariables false
theorem sz_pmul9 {p q : List Int} {A B : Nat} (hp : Sz A p) (hq : Sz B q) (hl : p.length ≤ 31) : Sz (A + B + 5) (pmul p q) := fun i => by
  rw [cf_pmul, ← acc_conv]; exact bl_acc hp hq hl
theorem sz_pscale9 {p : List Int} {c : Int} {n m : Nat} (hp : Sz n p) (hc : bl c.natAbs ≤ m) : Sz (n + m) (pscale p c) := fun i => by
  rw [cf_pscale]; have h1 := bl_imul (cf p i) c; have h2 := hp i; omega
theorem len_pscale9 (p : List Int) (c : Int) : (pscale p c).length ≤ p.length := by
  unfold pscale; exact Nat.le_trans (tzl_le _) (by simp)
theorem pmul_ne9 {p q : List Int} (hp : Tr p) (hq : Tr q) (h1 : p ≠ []) (h2 : q ≠ []) : pmul p q ≠ [] := fun e => by
  have := length_pmul hp hq h1 h2
  have l1 := List.length_pos_iff.2 h1
  have l2 := List.length_pos_iff.2 h2
  rw [e] at this
  simp only [List.length_nil] at this
  omega
def HD (xs ys : List Int) : Prop := Vp ys ∧ ys ≠ [] ∧ sfits ys ∧ chOK 13 ys ∧ chn 13 ys = chn 13 xs
theorem hd_mk {xs ys : List Int} {n : Nat} (h1 : Tr ys) (h2 : ys ≠ []) (h3 : Sz n ys) (hn : n ≤ 150) (h4 : ys.length ≤ 11) (h5 : chOK 13 ys → sqf 13 ys = sqf 13 xs) : HD xs ys := by
  obtain ⟨hC, -⟩ := ch13 h1 h2 h3 (by omega) (by omega)
  refine ⟨⟨h3.mono (by omega), h1, by omega⟩, h2, .inr ?_, hC, by unfold chn; rw [h5 hC]⟩
  have := msz_le h3
  have g1 : (ys.length + 2) * (ys.length + 2) ≤ 13 * 13 := Nat.mul_le_mul (by omega) (by omega)
  have g2 : (ys.length + 2) * (ys.length + 2) * (msz ys + 16) ≤ 13 * 13 * 166 := Nat.mul_le_mul g1 (by omega)
  omega
theorem hd_all {xs : List Int} (hx : Tr xs) (h0 : xs ≠ []) (hs : Sz 16 xs) (hl : xs.length ≤ 6) : HD xs xs ∧ HD xs (sqf 13 xs) ∧ HD xs (pscale xs (-6)) ∧ HD xs (pmul xs xs) := by
  obtain ⟨hC, hq1, hq2, -⟩ := chF 13 hx h0 hs (by omega) (by omega) (by omega)
  have hok := hC.1.2.2.1
  obtain ⟨f1, f2, f3, f4, f5, f6⟩ := sqf_fac (F := 13) hx h0 hok
  have hlm := length_pmul hx hx h0 h0
  refine ⟨hd_mk hx h0 hs (by omega) (by omega) (fun _ => rfl), hd_mk f2 f3 hq1 (by omega) (by omega) (fun h => sqf_sqf hx h0 hok h.1.2.2.1), hd_mk (tr_pscale _ _) (pscale_ne hx h0 (by decide)) (sz_pscale9 (m := 3) hs (by decide)) (by omega) (by have := len_pscale9 xs (-6); omega) (fun _ => sqf_scale hx (by decide)), hd_mk (tr_pmul _ _) (pmul_ne9 hx hx h0 h0) (sz_pmul9 hs hs (by omega)) (by omega) (by omega) (fun h => sqf_square hx h0 hok h.1.2.2.1)⟩
theorem hd_chk {xs ys : List Int} (h : HD xs ys) {x y x2 y2 : Int} (hx : bl x.natAbs ≤ 512) (hy : bl y.natAbs ≤ 512) (hx2 : bl x2.natAbs ≤ 512) (hy2 : bl y2.natAbs ≤ 512) (hc : ¬ 0 < x * y2 - x2 * y) : chk2r ys x y x2 y2 = 0 := by
  unfold chk2r
  rw [if_neg (fun e => h.2.1 (List.eq_nil_of_length_eq_zero e)), if_neg hc, if_pos ⟨h.2.2.1, by unfold ef; simp; omega, by unfold ef; simp; omega⟩]
theorem hd_ev {xs ys : List Int} (h : HD xs ys) {z : R2} (he : evc 13 xs z) : ∀ p ∈ chn 13 ys, ¬ evfull p z.1 z.2 := by rw [h.2.2.2.2]; exact he
theorem hd_cnt {xs ys : List Int} (h : HD xs ys) (x y : Int) : cnt 13 ys x y = cnt 13 xs x y := by unfold cnt; rw [h.2.2.2.2]
theorem cvc1 {F : Nat} {xs : List Int} (c : Int) : cnt F xs c 1 = vch F xs (c : Rat) := by
  have := cvc_v (F := F) (xs := xs) (z := (c, 1)) Int.one_pos
  rw [show qv (c, 1) = (c : Rat) by unfold qv; push_cast; grind] at this
  exact this
theorem holds_cnt {xs : List Int} {a b c : R2} (hv : Vp xs) (h0 : xs ≠ []) (hC : chOK 13 xs) (ha : 0 < a.2) (hb : 0 < b.2) (hc : 0 < c.2) (hab : ¬ 0 < a.1 * b.2 - b.1 * a.2) (hbc : ¬ 0 < b.1 * c.2 - c.1 * b.2) :
    0 ≤ cnt 13 xs a.1 a.2 - cnt 13 xs b.1 b.2 ∧ 0 ≤ cnt 13 xs b.1 b.2 - cnt 13 xs c.1 c.2 ∧ cnt 13 xs a.1 a.2 - cnt 13 xs c.1 c.2 ≤ sleft 13 xs - sright 13 xs ∧ sleft 13 xs - sright 13 xs = cnt 13 xs (-sbound xs) 1 - cnt 13 xs (sbound xs) 1 := by
  have g1 := vch_mono hv.tr h0 hC (qv_le ha hb hab)
  have g2 := vch_mono hv.tr h0 hC (qv_le hb hc hbc)
  have g3 := total_eq hv h0 hC
  have g4 := far_left hv.tr h0 hC (qv a)
  have g5 := far_right hv.tr h0 hC (qv c)
  have c1 : cnt 13 xs a.1 a.2 = _ := cvc_v ha
  have c2 : cnt 13 xs b.1 b.2 = _ := cvc_v hb
  have c3 : cnt 13 xs c.1 c.2 = _ := cvc_v hc
  have c4 := cvc1 (F := 13) (xs := xs) (sbound xs)
  have c5 := cvc1 (F := 13) (xs := xs) (-sbound xs)
  rw [show ((-sbound xs : Int) : Rat) = -((sbound xs : Int) : Rat) by push_cast; rfl] at c5
  omega
theorem cmp_trans {a b c : R2} (ha : 0 < a.2) (hb : 0 < b.2) (hc : 0 < c.2) (hab : ¬ 0 < a.1 * b.2 - b.1 * a.2) (hbc : ¬ 0 < b.1 * c.2 - c.1 * b.2) : ¬ 0 < a.1 * c.2 - c.1 * a.2 := fun h => by
  have h1 : (a.1 * c.2 - c.1 * a.2) * b.2 = (a.1 * b.2 - b.1 * a.2) * c.2 + (b.1 * c.2 - c.1 * b.2) * a.2 := by grind
  have h2 := Int.mul_pos h hb
  have h3 := Int.mul_nonneg (a := -(a.1 * b.2 - b.1 * a.2)) (b := c.2) (by omega) (by omega)
  have h4 := Int.mul_nonneg (a := -(b.1 * c.2 - c.1 * b.2)) (b := a.2) (by omega) (by omega)
  rw [Int.neg_mul] at h3 h4
  omega
theorem bl_sbound {xs : List Int} (hx : Tr xs) (h0 : xs ≠ []) (hs : Sz 16 xs) : bl (sbound xs).natAbs ≤ 18 := sbound_b hs
end Go.Sky
namespace Go.Sky
set_option linter.unusedVariables false
theorem le_qv {a b : R2} (ha : 0 < a.2) (hb : 0 < b.2) (h : qv a ≤ qv b) : ¬ 0 < a.1 * b.2 - b.1 * a.2 := fun h2 => by
  have ra := rat_pos ha
  have rb := rat_pos hb
  have e1 : (a.1 : Rat) = qv a * a.2 := by unfold qv; grind
  have e2 : (b.1 : Rat) = qv b * b.2 := by unfold qv; grind
  have h3 := rat_pos h2
  have h4 : ((a.1 * b.2 - b.1 * a.2 : Int) : Rat) = (qv a - qv b) * (a.2 * b.2) := by push_cast; rw [e1, e2]; grind
  rw [h4] at h3
  have h5 := Rat.mul_nonneg (a := qv b - qv a) (b := (a.2 : Rat) * b.2) (by grind) (Rat.le_of_lt (Rat.mul_pos ra rb))
  grind
theorem lt_qv {a b : R2} (ha : 0 < a.2) (hb : 0 < b.2) (h : qv a < qv b) : a.1 * b.2 - b.1 * a.2 < 0 := by
  rcases Int.lt_or_le (a.1 * b.2 - b.1 * a.2) 0 with h2 | h2
  · exact h2
  · exfalso
    have h3 : ¬ 0 < b.1 * a.2 - a.1 * b.2 := by omega
    have h4 := qv_le hb ha h3
    grind
theorem sgn_le {z : Int} (h : ¬ 0 < z) : z.sign ≤ 0 := by
  rcases Int.lt_trichotomy z 0 with h2 | h2 | h2
  · rw [Int.sign_eq_neg_one_of_neg h2]; decide
  · subst h2; decide
  · exact absurd h2 h
theorem sgn_pos {z : Int} (h : 0 < z) : 0 < z.sign := by rw [Int.sign_eq_one_of_pos h]; decide
theorem sgn_neg9 {z : Int} (h : z < 0) : z.sign < 0 := by rw [Int.sign_eq_neg_one_of_neg h]; decide
def PH (xs : List Int) (x y : R2) : Prop := (0 < x.2 ∧ bl x.1.natAbs ≤ 506 ∧ bl x.2.natAbs ≤ 506) ∧ (0 < y.2 ∧ bl y.1.natAbs ≤ 506 ∧ bl y.2.natAbs ≤ 506) ∧ cvc 13 xs x - cvc 13 xs y = 1
def DR : R2 × R2 := ((0, 0), (0, 0))
theorem dropG {α : Type} {L : List α} {i : Nat} (d : α) (h : i < L.length) : L.drop i = L.getD i d :: L.drop (i + 1) := by
  rw [List.drop_eq_getElem_cons h]; simp [List.getD_eq_getElem?_getD, h]
theorem hold_step {xs : List Int} {L : List (R2 × R2)} {i : Nat} {hi : Rat} {lx ly : Int} (hl : 0 < ly) (hil : i < L.length) (h : Sqn (PH xs) hi (qv (lx, ly)) (L.drop i)) :
    PH xs (L.getD i DR).1 (L.getD i DR).2 ∧ (lx * (L.getD i DR).1.2 - (L.getD i DR).1.1 * ly).sign ≤ 0 ∧ (L.getD i DR).1.1 * (L.getD i DR).2.2 - (L.getD i DR).2.1 * (L.getD i DR).1.2 < 0 ∧ Sqn (PH xs) hi (qv ((L.getD i DR).2.1, (L.getD i DR).2.2)) (L.drop (i + 1)) := by
  rw [dropG DR hil] at h
  obtain ⟨a, b, c, d⟩ := h
  exact ⟨c, sgn_le (le_qv (a := (lx, ly)) hl c.1.1 a), lt_qv c.1.1 c.2.1.1 b, d⟩
theorem hold_end {xs : List Int} {L : List (R2 × R2)} {i : Nat} {lx ly x3 y3 : Int} (hl : 0 < ly) (h3 : 0 < y3) (hil : L.length ≤ i) (h : Sqn (PH xs) (qv (x3, y3)) (qv (lx, ly)) (L.drop i)) : (lx * y3 - x3 * ly).sign ≤ 0 := by
  rw [List.drop_eq_nil_of_le hil] at h
  exact sgn_le (le_qv (a := (lx, ly)) (b := (x3, y3)) hl h3 h)
theorem cnt_rg (F : Nat) (xs : List Int) (x y : Int) : 0 ≤ cnt F xs x y ∧ cnt F xs x y ≤ (F : Int) + 1 := by
  have h1 := chg_range ((chn F xs).map (fat x y))
  have h2 := length_schain F (sqf F xs) (pprim (pder (sqf F xs)))
  rw [List.length_map] at h1
  have h3 : (chn F xs).length ≤ F + 1 := h2
  unfold cnt
  omega
theorem sb_ord (xs : List Int) : ¬ 0 < -sbound xs * 1 - sbound xs * 1 := by
  have h : 0 ≤ sbound xs := by unfold sbound; exact Int.add_nonneg (Int.natCast_nonneg _) (by decide)
  omega
end Go.Sky

