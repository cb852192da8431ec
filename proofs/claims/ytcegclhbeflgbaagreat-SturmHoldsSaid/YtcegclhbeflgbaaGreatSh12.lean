/- rules, arithmetic and contracts: part 13
   Proved without conditions of its own: each theorem bears its own. -/
import Derived.Test.YtcegclhbeflgbaaGreatSh02
import Derived.Test.YtcegclhbeflgbaaGreatSh01
import Derived.Test.YtcegclhbeflgbaaGreatSh03
import Derived.Test.YtcegclhbeflgbaaGreatSh11
set_option linter.all false
namespace Go.Sky
open Go.Proofs
set_option maxRecDepth 20000
set_option maxHeartbeats 4000000
set_option linter.unusedVariables false
set_option linter.unusedSimpArgs false
end Go.Sky
namespace Go.Sky
open Go.Proofs
end Go.Sky
namespace Go.Sky
open Go.Proofs
set_option maxRecDepth 20000
set_option maxHeartbeats 4000000
set_option linter.unusedVariables false
set_option linter.unusedSimpArgs false
end Go.Sky
namespace Go.Sky
open Go.Proofs
set_option maxRecDepth 20000
set_option maxHeartbeats 4000000
set_option linter.unusedVariables false
set_option linter.unusedSimpArgs false
end Go.Sky
namespace Go.Sky
open Go.Proofs
set_option maxRecDepth 20000
set_option maxHeartbeats 4000000
set_option linter.unusedVariables false
set_option linter.unusedSimpArgs false
end Go.Sky
namespace Go.Sky
set_option linter.unusedVariables false
end Go.Sky
namespace Go.Sky
open Go.Proofs
set_option maxRecDepth 20000
set_option maxHeartbeats 4000000
set_option linter.unusedVariables false
set_option linter.unusedSimpArgs false
end Go.Sky
namespace Go.Sky
set_option linter.unusedVariables false
def chke : Nat → Nat → Nat → Nat → Nat → Bool
  | 0, la, _, A, _ => Nat.ble (A + la * 64) 65500
  | f + 1, la, lb, A, B => Nat.ble (A + la * 64) 65500 && (Nat.beq lb 0 || (List.range lb).all fun l => chke f lb l B (bif Nat.ble l 1 then 2 else A + (la - lb + 1) * B))
end Go.Sky
namespace Go.Sky
set_option linter.unusedVariables false
inductive SV : List Int → List Int → Prop
  | one (a : Int) : SV [a] [a]
  | step (a : Int) (r t : List Int) : SV r t → SV (a :: r) (a :: t)
  | skip (a u w : Int) (r t : List Int) : (a = 1 ∨ a = -1) → (-1 ≤ u ∧ u ≤ 1) → (-1 ≤ w ∧ w ≤ 1) → SV (-a :: r) (-a :: t) → SV (a :: u :: -a :: r) (a :: w :: -a :: t)
theorem chg1_skip {s : Int × Int} {a u : Int} (ha : a = 1 ∨ a = -1) (hu : -1 ≤ u ∧ u ≤ 1) : chg1 (chg1 (chg1 s a) u) (-a) = chg1 (chg1 s a) (-a) := by
  obtain ⟨n, l⟩ := s
  have h3 : u = -1 ∨ u = 0 ∨ u = 1 := by omega
  rcases ha with rfl | rfl <;> rcases h3 with rfl | rfl | rfl <;> simp [chg1]
theorem SV.fold {a b : List Int} (h : SV a b) : ∀ s, a.foldl chg1 s = b.foldl chg1 s := by
  induction h with
  | one a => intro s; rfl
  | step a r t _ ih => intro s; exact ih (chg1 s a)
  | skip a u w r t ha hu hw _ ih =>
    intro s
    show (r.foldl chg1 (chg1 (chg1 (chg1 s a) u) (-a))) = (t.foldl chg1 (chg1 (chg1 (chg1 s a) w) (-a)))
    rw [chg1_skip ha hu, chg1_skip ha hw]
    exact ih (chg1 s a)
theorem SV.chg {a b : List Int} (h : SV a b) : chg a = chg b := congrArg Prod.fst (h.fold (0, 0))
def rsg (x : Rat) : Int := if x < 0 then -1 else if x = 0 then 0 else 1
theorem rsg_r (x : Rat) : -1 ≤ rsg x ∧ rsg x ≤ 1 := by unfold rsg; split; decide; split <;> decide
theorem rsg_pos {x : Rat} (h : 0 < x) : rsg x = 1 := by unfold rsg; rw [if_neg (by grind), if_neg (by grind)]
theorem rsg_neg {x : Rat} (h : x < 0) : rsg x = -1 := by unfold rsg; rw [if_pos h]
def Big (η x : Rat) (f : Rat → Rat) : Prop := η < f x ∨ f x < -η
def Tri (η x : Rat) : (Rat → Rat) → List (Rat → Rat) → Prop
  | _, [] => True
  | _, [g] => Big η x g
  | f, g :: k :: r => (Big η x g ∧ Tri η x g (k :: r)) ∨ (Big η x k ∧ f x * k x < 0 ∧ Tri η x k r)
def Near (η x y : Rat) (f : Rat → Rat) : Prop := f x - f y ≤ η ∧ f y - f x ≤ η
theorem big_sg {η x y : Rat} {f : Rat → Rat} (h0 : 0 ≤ η) (h : Big η x f) (hn : Near η x y f) : rsg (f x) = rsg (f y) ∧ (rsg (f x) = 1 ∨ rsg (f x) = -1) := by
  obtain ⟨h1, h2⟩ := hn
  rcases h with h | h
  · rw [rsg_pos (by grind), rsg_pos (by grind)]; exact ⟨rfl, .inl rfl⟩
  · rw [rsg_neg (by grind), rsg_neg (by grind)]; exact ⟨rfl, .inr rfl⟩
theorem opp_sg {a b : Rat} (h : a * b < 0) : rsg b = - rsg a := by
  rcases (show a < 0 ∨ a = 0 ∨ 0 < a by grind) with h1 | h1 | h1
  · rw [rsg_neg h1, rsg_pos (by
      rcases (show b ≤ 0 ∨ 0 < b by grind) with h2 | h2
      · have := Rat.mul_nonneg (a := -a) (b := -b) (by grind) (by grind); grind
      · exact h2)]; rfl
  · subst h1; grind
  · rw [rsg_pos h1, rsg_neg (by
      rcases (show 0 ≤ b ∨ b < 0 by grind) with h2 | h2
      · have := Rat.mul_nonneg (a := a) (b := b) (by grind) h2; grind
      · exact h2)]
end Go.Sky
namespace Go.Sky
set_option linter.unusedVariables false
theorem tri_sv {η x y : Rat} (h0 : 0 ≤ η) : ∀ (n : Nat) (f : Rat → Rat) (fs : List (Rat → Rat)), fs.length ≤ n → Big η x f → (∀ g ∈ f :: fs, Near η x y g) → Tri η x f fs →
    SV ((f :: fs).map fun g => rsg (g x)) ((f :: fs).map fun g => rsg (g y))
  | _, f, [], _, hb, hn, _ => by
    have := (big_sg h0 hb (hn f (List.mem_cons_self ..))).1
    simp only [List.map_cons, List.map_nil, this]
    exact SV.one _
  | 0, f, g :: r, hl, _, _, _ => absurd hl (by simp)
  | n + 1, f, [g], hl, hb, hn, ht => by
    have h1 := (big_sg h0 hb (hn f (List.mem_cons_self ..))).1
    have h2 := tri_sv h0 n g [] (by simp) ht (fun k hk => hn k (List.mem_cons_of_mem _ hk)) trivial
    rw [List.map_cons, List.map_cons, h1]
    exact SV.step _ _ _ h2
  | n + 1, f, g :: k :: r, hl, hb, hn, ht => by
    have h1 := big_sg h0 hb (hn f (List.mem_cons_self ..))
    rcases ht with ⟨hg, ht⟩ | ⟨hk, ho, ht⟩
    · have h2 := tri_sv h0 n g (k :: r) (by simp at hl ⊢; omega) hg (fun k hk => hn k (List.mem_cons_of_mem _ hk)) ht
      rw [List.map_cons (l := g :: k :: r), List.map_cons (l := g :: k :: r), h1.1]
      exact SV.step _ _ _ h2
    · have h2 := tri_sv h0 n k r (by simp at hl ⊢; omega) hk (fun j hj => hn j (List.mem_cons_of_mem _ (List.mem_cons_of_mem _ hj))) ht
      have h3 := (big_sg h0 hk (hn k (by simp))).1
      have h4 := opp_sg ho
      rw [List.map_cons (l := r), List.map_cons (l := r)] at h2
      simp only [List.map_cons]
      rw [← h3] at h2 ⊢
      rw [h4] at h2 ⊢
      rw [← h1.1]
      exact SV.skip _ _ _ _ _ h1.2 (rsg_r _) (rsg_r _) h2
structure Lnk (η x : Rat) (f g k : Rat → Rat) : Prop where
  big : ¬ Big η x g → Big η x k
  opp : ¬ Big η x g → f x * k x < 0
def Lnks (η x : Rat) : (Rat → Rat) → List (Rat → Rat) → Prop
  | _, [] => True
  | _, [g] => Big η x g
  | f, g :: k :: r => Lnk η x f g k ∧ Lnks η x g (k :: r)
theorem lnks_tri {η x : Rat} : ∀ (n : Nat) (f : Rat → Rat) (fs : List (Rat → Rat)), fs.length ≤ n → Lnks η x f fs → Tri η x f fs
  | _, f, [], _, _ => trivial
  | 0, f, g :: r, hl, _ => absurd hl (by simp)
  | n + 1, f, [g], _, h => h
  | n + 1, f, [g, k], hl, h => by
    by_cases hg : Big η x g
    · exact .inl ⟨hg, h.2⟩
    · exact .inr ⟨h.1.big hg, h.1.opp hg, trivial⟩
  | n + 1, f, g :: k :: j :: r, hl, h => by
    by_cases hg : Big η x g
    · exact .inl ⟨hg, lnks_tri n g (k :: j :: r) (by simp at hl ⊢; omega) h.2⟩
    · exact .inr ⟨h.1.big hg, h.1.opp hg, lnks_tri n k (j :: r) (by simp at hl ⊢; omega) h.2.2⟩
end Go.Sky
namespace Go.Sky
set_option linter.unusedVariables false
def Rl3 (s t : Rat) (f g k : Rat → Rat) : Prop := ∃ m n Q : Rat, 0 < m ∧ 0 < n ∧ 0 < Q ∧ ∀ x, s ≤ x → x ≤ t → ∃ q, -Q ≤ q ∧ q ≤ Q ∧ m * f x = q * g x - n * k x
def Rl2 (s t : Rat) (f g : Rat → Rat) : Prop := ∃ m Q : Rat, 0 < m ∧ 0 < Q ∧ ∀ x, s ≤ x → x ≤ t → ∃ q, -Q ≤ q ∧ q ≤ Q ∧ m * f x = q * g x
def Rls (s t : Rat) : (Rat → Rat) → List (Rat → Rat) → Prop
  | _, [] => True
  | f, [g] => Rl2 s t f g
  | f, g :: k :: r => Rl3 s t f g k ∧ Rls s t g (k :: r)
theorem qg_le {q Q g e : Rat} (h1 : -Q ≤ q) (h2 : q ≤ Q) (h3 : -e ≤ g) (h4 : g ≤ e) (hQ : 0 ≤ Q) : q * g ≤ Q * e ∧ -(Q * e) ≤ q * g := by
  have a := Rat.mul_nonneg (a := Q - q) (b := e + g) (by grind) (by grind)
  have b := Rat.mul_nonneg (a := Q + q) (b := e - g) (by grind) (by grind)
  have c := Rat.mul_nonneg (a := Q - q) (b := e - g) (by grind) (by grind)
  have d := Rat.mul_nonneg (a := Q + q) (b := e + g) (by grind) (by grind)
  constructor <;> grind
theorem not_big {η x : Rat} {g : Rat → Rat} (h : ¬ Big η x g) : -η ≤ g x ∧ g x ≤ η := by
  unfold Big at h; constructor <;> grind
theorem big_le {η ε x : Rat} {g : Rat → Rat} (h : η ≤ ε) (hb : Big ε x g) : Big η x g := by
  unfold Big at *; grind
theorem ex_small {ε a b : Rat} (h : 0 < ε) (ha : 0 < a) (hb : 0 < b) : ∃ e : Rat, 0 < e ∧ e ≤ ε ∧ e * a ≤ b := by
  have h1 : 0 < b * a⁻¹ := Rat.mul_pos hb (Rat.inv_pos.2 ha)
  have h2 : b * a⁻¹ * a = b := by grind
  rcases (show ε ≤ b * a⁻¹ ∨ b * a⁻¹ ≤ ε by grind) with h3 | h3
  · exact ⟨ε, h, by grind, by have := Rat.mul_le_mul_of_nonneg_right h3 (show 0 ≤ a by grind); grind⟩
  · exact ⟨b * a⁻¹, h1, h3, by grind⟩
theorem pair3 {s t ε : Rat} {f g k : Rat → Rat} (h : Rl3 s t f g k) (he : 0 < ε) (hp : ∀ x, s ≤ x → x ≤ t → Big ε x f ∨ Big ε x g) :
    ∃ e, 0 < e ∧ (∀ x, s ≤ x → x ≤ t → Big e x g ∨ Big e x k) ∧ ∀ η, 0 < η → η ≤ e → ∀ x, s ≤ x → x ≤ t → Lnk η x f g k := by
  obtain ⟨m, n, Q, hm, hn, hQ, hr⟩ := h
  obtain ⟨e, e1, e2, e3⟩ := ex_small he (show 0 < Q + n by grind) (Rat.mul_pos hm he)
  have key : ∀ η, 0 < η → η ≤ e → ∀ x, s ≤ x → x ≤ t → ¬ Big η x g → Big η x k ∧ f x * k x < 0 := fun η h1 h2 x hs ht hg => by
    obtain ⟨q, q1, q2, q3⟩ := hr x hs ht
    obtain ⟨g1, g2⟩ := not_big hg
    obtain ⟨p1, p2⟩ := qg_le q1 q2 g1 g2 (by grind)
    have hf : Big ε x f := (hp x hs ht).resolve_right fun h => hg (big_le (by grind) h)
    have c1 : η * (Q + n) ≤ m * ε := by
      have := Rat.mul_le_mul_of_nonneg_right h2 (show 0 ≤ Q + n by grind); grind
    have c2 : 0 < η * n := Rat.mul_pos h1 hn
    rcases hf with hf | hf
    · have d1 : m * ε < m * f x := by have := Rat.mul_pos hm (show 0 < f x - ε by grind); grind
      have d2 : n * k x < - (n * η) := by grind
      have d3 : k x < -η := by
        rcases (show k x < -η ∨ -η ≤ k x by grind) with h9 | h9
        · exact h9
        · have := Rat.mul_nonneg (a := n) (b := k x + η) (by grind) (by grind); grind
      refine ⟨.inr d3, ?_⟩
      have := Rat.mul_pos (a := f x) (b := - k x) (by grind) (by grind); grind
    · have d1 : m * f x < - (m * ε) := by have := Rat.mul_pos hm (show 0 < -ε - f x by grind); grind
      have d2 : n * η < n * k x := by grind
      have d3 : η < k x := by
        rcases (show η < k x ∨ k x ≤ η by grind) with h9 | h9
        · exact h9
        · have := Rat.mul_nonneg (a := n) (b := η - k x) (by grind) (by grind); grind
      refine ⟨.inl d3, ?_⟩
      have := Rat.mul_pos (a := - f x) (b := k x) (by grind) (by grind); grind
  refine ⟨e, e1, fun x hs ht => ?_, fun η h1 h2 x hs ht => ⟨fun hg => (key η h1 h2 x hs ht hg).1, fun hg => (key η h1 h2 x hs ht hg).2⟩⟩
  by_cases hg : Big e x g
  · exact .inl hg
  · exact .inr (key e e1 (by grind) x hs ht hg).1
theorem pair2 {s t ε : Rat} {f g : Rat → Rat} (h : Rl2 s t f g) (he : 0 < ε) (hp : ∀ x, s ≤ x → x ≤ t → Big ε x f ∨ Big ε x g) :
    ∃ e, 0 < e ∧ ∀ η, 0 < η → η ≤ e → ∀ x, s ≤ x → x ≤ t → Big η x g := by
  obtain ⟨m, Q, hm, hQ, hr⟩ := h
  obtain ⟨e, e1, e2, e3⟩ := ex_small he hQ (Rat.mul_pos hm he)
  refine ⟨e, e1, fun η h1 h2 x hs ht => ?_⟩
  by_cases hg : Big η x g
  · exact hg
  · exfalso
    obtain ⟨q, q1, q2, q3⟩ := hr x hs ht
    obtain ⟨g1, g2⟩ := not_big hg
    obtain ⟨p1, p2⟩ := qg_le q1 q2 g1 g2 (by grind)
    have hf : Big ε x f := (hp x hs ht).resolve_right fun h => hg (big_le (by grind) h)
    have c1 : η * Q ≤ m * ε := by
      have := Rat.mul_le_mul_of_nonneg_right h2 (show 0 ≤ Q by grind); grind
    rcases hf with hf | hf
    · have := Rat.mul_pos hm (show 0 < f x - ε by grind); grind
    · have := Rat.mul_pos hm (show 0 < -ε - f x by grind); grind
theorem lnks_all {s t : Rat} : ∀ (n : Nat) (f : Rat → Rat) (fs : List (Rat → Rat)) (ε : Rat), fs.length ≤ n → Rls s t f fs → 0 < ε → (∀ g r, fs = g :: r → ∀ x, s ≤ x → x ≤ t → Big ε x f ∨ Big ε x g) →
    ∃ e, 0 < e ∧ ∀ η, 0 < η → η ≤ e → ∀ x, s ≤ x → x ≤ t → Lnks η x f fs
  | _, f, [], ε, _, _, he, _ => ⟨ε, he, fun _ _ _ _ _ _ => trivial⟩
  | 0, f, g :: r, ε, hl, _, _, _ => absurd hl (by simp)
  | n + 1, f, [g], ε, _, h, he, hp => pair2 h he (hp g [] rfl)
  | n + 1, f, g :: k :: r, ε, hl, h, he, hp => by
    obtain ⟨e, e1, e2, e3⟩ := pair3 h.1 he (hp g (k :: r) rfl)
    obtain ⟨e', e1', e2'⟩ := lnks_all n g (k :: r) e (by simp at hl ⊢; omega) h.2 e1 (fun k' r' heq => by
      injection heq with h1 h2; subst h1; exact e2)
    rcases (show e ≤ e' ∨ e' ≤ e by grind) with h9 | h9
    · exact ⟨e, e1, fun η h1 h2 x hs ht => ⟨e3 η h1 h2 x hs ht, e2' η h1 (by grind) x hs ht⟩⟩
    · exact ⟨e', e1', fun η h1 h2 x hs ht => ⟨e3 η h1 (by grind) x hs ht, e2' η h1 h2 x hs ht⟩⟩
def Lip (s t L : Rat) (f : Rat → Rat) : Prop := ∀ x y, s ≤ x → x ≤ y → y ≤ t → f x - f y ≤ L * (y - x) ∧ f y - f x ≤ L * (y - x)
def vat (fs : List (Rat → Rat)) (x : Rat) : Int := chg (fs.map fun g => rsg (g x))
theorem step_eq {s t L δ : Rat} {f : Rat → Rat} {fs : List (Rat → Rat)} (hL : 0 < L) (hl : ∀ g ∈ f :: fs, Lip s t L g) (hd : 0 < δ) (hb : ∀ x, s ≤ x → x ≤ t → Big δ x f) (hr : Rls s t f fs) :
    ∃ h, 0 < h ∧ ∀ x y, s ≤ x → x ≤ y → y ≤ t → y - x ≤ h → vat (f :: fs) x = vat (f :: fs) y := by
  obtain ⟨e, e1, e2⟩ := lnks_all fs.length f fs δ (Nat.le_refl _) hr hd (fun g r _ x hs ht => .inl (hb x hs ht))
  obtain ⟨η, n1, n2, n3⟩ := ex_small hd (show (0 : Rat) < 1 by decide) e1
  obtain ⟨h, h1, h2, h3⟩ := ex_small n1 hL n1
  refine ⟨h, h1, fun x y hx hxy hy hh => SV.chg ?_⟩
  refine tri_sv (by grind) fs.length f fs (Nat.le_refl _) (big_le (by grind) (hb x hx (by grind))) (fun g hg => ?_) (lnks_tri _ _ _ (Nat.le_refl _) (e2 η n1 (by grind) x hx (by grind)))
  obtain ⟨a, b⟩ := hl g hg x y hx hxy hy
  have := Rat.mul_le_mul_of_nonneg_right hh (show 0 ≤ L by grind)
  exact ⟨by grind, by grind⟩
end Go.Sky
namespace Go.Sky
set_option linter.unusedVariables false
theorem vat_const {s t L δ : Rat} {f : Rat → Rat} {fs : List (Rat → Rat)} (hL : 0 < L) (hl : ∀ g ∈ f :: fs, Lip s t L g) (hd : 0 < δ) (hb : ∀ x, s ≤ x → x ≤ t → Big δ x f) (hr : Rls s t f fs) (hst : s ≤ t) :
    vat (f :: fs) s = vat (f :: fs) t := by
  obtain ⟨h, h1, h2⟩ := step_eq hL hl hd hb hr
  have key : ∀ n : Nat, ∀ y, s ≤ y → y ≤ t → y - s ≤ (n : Rat) * h → vat (f :: fs) s = vat (f :: fs) y := fun n => by
    induction n with
    | zero => intro y h3 h4 h5; have : y = s := by simp at h5; grind
              rw [this]
    | succ n ih =>
      intro y h3 h4 h5
      have h6 : ((n + 1 : Nat) : Rat) * h = (n : Rat) * h + h := by push_cast; grind
      rcases (show y - s ≤ (n : Rat) * h ∨ (n : Rat) * h < y - s by grind) with h7 | h7
      · exact ih y h3 h4 h7
      · have h8 : (0 : Rat) ≤ (n : Rat) * h := Rat.mul_nonneg (by exact_mod_cast Nat.zero_le n) (by grind)
        rcases (show s ≤ y - h ∨ y - h < s by grind) with h9 | h9
        · rw [ih (y - h) h9 (by grind) (by grind)]
          exact h2 (y - h) y h9 (by grind) h4 (by grind)
        · exact h2 s y (by grind) h3 h4 (by grind)
  have h3 : ∃ n : Nat, t - s ≤ (n : Rat) * h := by
    have h4 : 0 < h⁻¹ := Rat.inv_pos.2 h1
    refine ⟨((t - s) * h⁻¹).ceil.toNat, ?_⟩
    have h5 := @Rat.le_ceil ((t - s) * h⁻¹)
    have h6 : ((((t - s) * h⁻¹).ceil : Int) : Rat) ≤ ((((t - s) * h⁻¹).ceil.toNat : Nat) : Rat) := by
      have : ((t - s) * h⁻¹).ceil ≤ ((((t - s) * h⁻¹).ceil.toNat : Nat) : Int) := Int.self_le_toNat _
      exact_mod_cast this
    have h7 := Rat.mul_le_mul_of_nonneg_right (Rat.le_trans h5 h6) (show 0 ≤ h by grind)
    have h8 : (t - s) * h⁻¹ * h = t - s := by grind
    grind
  obtain ⟨n, hn⟩ := h3
  exact key n t hst (by grind) hn
end Go.Sky
namespace Go.Sky
set_option linter.unusedVariables false
def rev : List Int → Rat → Rat
  | [], _ => 0
  | c :: p, x => (c : Rat) + x * rev p x
theorem ex_K (s t : Rat) : ∃ K : Rat, 0 < K ∧ ∀ x, s ≤ x → x ≤ t → -K ≤ x ∧ x ≤ K := by
  rcases (show (0 ≤ s ∨ s < 0) by grind) with h | h <;> rcases (show (0 ≤ t ∨ t < 0) by grind) with h' | h'
  · exact ⟨t + 1, by grind, fun x _ _ => by grind⟩
  · exact ⟨1, by grind, fun x _ _ => by grind⟩
  · exact ⟨t - s + 1, by grind, fun x _ _ => by grind⟩
  · exact ⟨-s + 1, by grind, fun x _ _ => by grind⟩
theorem rev_b (s t : Rat) : ∀ p : List Int, ∃ B : Rat, 0 < B ∧ ∀ x, s ≤ x → x ≤ t → -B ≤ rev p x ∧ rev p x ≤ B
  | [] => ⟨1, by decide, fun x _ _ => by unfold rev; grind⟩
  | c :: p => by
    obtain ⟨B, b1, b2⟩ := rev_b s t p
    obtain ⟨K, k1, k2⟩ := ex_K s t
    obtain ⟨C, c1, c2⟩ := ex_K (c : Rat) (c : Rat)
    have hc := c2 (c : Rat) (by grind) (by grind)
    refine ⟨C + K * B, by have := Rat.mul_pos k1 b1; grind, fun x hs ht => ?_⟩
    obtain ⟨d1, d2⟩ := b2 x hs ht
    obtain ⟨e1, e2⟩ := k2 x hs ht
    obtain ⟨f1, f2⟩ := qg_le e1 e2 d1 d2 (by grind)
    unfold rev
    constructor <;> grind
theorem rev_lip (s t : Rat) : ∀ p : List Int, ∃ L : Rat, 0 < L ∧ Lip s t L (rev p)
  | [] => ⟨1, by decide, fun x y _ _ _ => by unfold rev; constructor <;> grind⟩
  | c :: p => by
    obtain ⟨L, l1, l2⟩ := rev_lip s t p
    obtain ⟨B, b1, b2⟩ := rev_b s t p
    obtain ⟨K, k1, k2⟩ := ex_K s t
    refine ⟨K * L + B, by have := Rat.mul_pos k1 l1; grind, fun x y hs hxy ht => ?_⟩
    obtain ⟨a1, a2⟩ := l2 x y hs hxy ht
    obtain ⟨d1, d2⟩ := b2 y (by grind) ht
    obtain ⟨e1, e2⟩ := k2 x hs (by grind)
    obtain ⟨f1, f2⟩ := qg_le (q := x) (g := rev p x - rev p y) (e := L * (y - x)) e1 e2 (by grind) (by grind) (by grind)
    have g1 := Rat.mul_nonneg (a := B - rev p y) (b := y - x) (by grind) (by grind)
    have g2 := Rat.mul_nonneg (a := B + rev p y) (b := y - x) (by grind) (by grind)
    unfold rev
    constructor <;> grind
end Go.Sky
namespace Go.Sky
set_option linter.unusedVariables false
theorem rev_zero (x : Rat) : ∀ q : List Int, (∀ i, cf q i = 0) → rev q x = 0
  | [], _ => rfl
  | c :: q, h => by
    have h0 : c = 0 := h 0
    have h1 := rev_zero x q fun i => h (i + 1)
    unfold rev; rw [h1, h0]; grind
theorem rev_ext (x : Rat) : ∀ p q : List Int, (∀ i, cf p i = cf q i) → rev p x = rev q x
  | [], q, h => by rw [rev_zero x q fun i => (h i).symm.trans (cf_ge (Nat.zero_le _))]; rfl
  | c :: p, [], h => by rw [rev_zero x (c :: p) fun i => (h i).trans (cf_ge (Nat.zero_le _))]; rfl
  | c :: p, d :: q, h => by
    have h0 : c = d := h 0
    have h1 := rev_ext x p q fun i => h (i + 1)
    unfold rev; rw [h1, h0]
def ladd : List Int → List Int → List Int
  | [], q => q
  | p, [] => p
  | a :: p, b :: q => (a + b) :: ladd p q
theorem ladd_nil (p : List Int) : ladd p [] = p := by cases p <;> rfl
theorem rev_ladd (x : Rat) : ∀ p q : List Int, rev (ladd p q) x = rev p x + rev q x
  | [], q => by unfold ladd; show rev q x = 0 + rev q x; grind
  | a :: p, [] => by rw [ladd_nil]; show rev (a :: p) x = rev (a :: p) x + 0; grind
  | a :: p, b :: q => by
    have h := rev_ladd x p q
    unfold ladd rev; rw [h]; push_cast; grind
theorem cf_ladd : ∀ (p q : List Int) (i : Nat), cf (ladd p q) i = cf p i + cf q i
  | [], q, i => by unfold ladd; rw [show cf [] i = 0 from cf_ge (Nat.zero_le _)]; omega
  | a :: p, [], i => by rw [ladd_nil, show cf [] i = 0 from cf_ge (Nat.zero_le _)]; omega
  | a :: p, b :: q, 0 => rfl
  | a :: p, b :: q, i + 1 => cf_ladd p q i
theorem rev_smul (x : Rat) (c : Int) : ∀ p : List Int, rev (p.map fun a => c * a) x = (c : Rat) * rev p x
  | [] => by show (0 : Rat) = c * 0; grind
  | a :: p => by
    have h := rev_smul x c p
    simp only [List.map_cons]; unfold rev; rw [h]; push_cast; grind
theorem cf_smul (c : Int) : ∀ (p : List Int) (i : Nat), cf (p.map fun a => c * a) i = c * cf p i
  | [], i => by simp [cf]
  | a :: p, 0 => rfl
  | a :: p, i + 1 => cf_smul c p i
def lmul : List Int → List Int → List Int
  | [], _ => []
  | c :: p, q => ladd (q.map fun a => c * a) (0 :: lmul p q)
theorem rev_lmul (x : Rat) : ∀ p q : List Int, rev (lmul p q) x = rev p x * rev q x
  | [], q => by show (0 : Rat) = 0 * rev q x; grind
  | c :: p, q => by
    have h := rev_lmul x p q
    unfold lmul; rw [rev_ladd, rev_smul]
    show (c : Rat) * rev q x + (((0 : Int) : Rat) + x * rev (lmul p q) x) = ((c : Rat) + x * rev p x) * rev q x
    rw [h]; grind
end Go.Sky
namespace Go.Sky
set_option linter.unusedVariables false
theorem cf_lmul : ∀ (p q : List Int) (i : Nat), cf (lmul p q) i = sumTo (fun k => cf p k * cf q (i - k)) (i + 1)
  | [], q, i => by
    rw [show cf (lmul [] q) i = 0 from cf_ge (Nat.zero_le _)]
    exact (sumTo_z fun k _ => by rw [show cf [] k = 0 from cf_ge (Nat.zero_le _), Int.zero_mul]).symm
  | c :: p, q, 0 => by
    unfold lmul; rw [cf_ladd, cf_smul, sumTo_succ, sumTo_zero]
    show c * cf q 0 + 0 = 0 + c * cf q 0
    omega
  | c :: p, q, i + 1 => by
    have h := cf_lmul p q i
    unfold lmul; rw [cf_ladd, cf_smul, sumTo_first]
    show c * cf q (i + 1) + cf (lmul p q) i = c * cf q (i + 1) + _
    rw [h]
    congr 1
    refine sumTo_congr fun k hk => ?_
    show cf p k * cf q (i - k) = cf p k * cf q (i + 1 - (k + 1))
    rw [show i + 1 - (k + 1) = i - k by omega]
theorem rel_rev {a c : Int} {x s y z : List Int} (h : ∀ t, a * cf x t = (ps s * ps y).c t - c * cf z t) (q : Rat) : (a : Rat) * rev x q = rev s q * rev y q - (c : Rat) * rev z q := by
  have h1 : ∀ t, cf (ladd (x.map fun b => a * b) (z.map fun b => c * b)) t = cf (lmul s y) t := fun t => by
    rw [cf_ladd, cf_smul, cf_smul, cf_lmul, h t, PS.mul_c]
    show sumTo (fun k => cf s k * cf y (t - k)) (t + 1) - c * cf z t + c * cf z t = _
    omega
  have h2 := rev_ext q _ _ h1
  rw [rev_ladd, rev_smul, rev_smul, rev_lmul] at h2
  grind
end Go.Sky
namespace Go.Sky
set_option linter.unusedVariables false
theorem rl3_snext {s t : Rat} {x y : List Int} (hx : Tr x) (hy : Tr y) (h0 : y ≠ []) (hl : y.length ≤ x.length) : Rl3 s t (rev x) (rev y) (rev (snext x y)) := by
  have l0 := List.length_pos_iff.2 h0
  obtain ⟨r1, r2, k, u, hk⟩ := rrem_id hy h0 x.length x hx (by omega)
  have hs := snext_ref (f := x.length) hx hy h0 hl (by omega)
  have htn : Tr (pneg (rrem x.length x y)) := tr_pscale _ _
  obtain ⟨m, n, hm, hn, hp⟩ := psim_pprim htn
  rw [hs] at hp
  have hK : 0 < rabs y ^ k := Int.pow_pos (rabs_pos hy h0)
  obtain ⟨B, b1, b2⟩ := rev_b s t u
  have hm' : (0 : Rat) < (m : Rat) := by exact_mod_cast hm
  have hn' : (0 : Rat) < (n : Rat) := by exact_mod_cast hn
  have hK' : (0 : Rat) < ((rabs y ^ k : Int) : Rat) := by exact_mod_cast hK
  refine ⟨(n : Rat) * ((rabs y ^ k : Int) : Rat), (m : Rat), (n : Rat) * B, Rat.mul_pos hn' hK', hm', Rat.mul_pos hn' b1, fun q hq1 hq2 => ⟨(n : Rat) * rev u q, ?_, ?_, ?_⟩⟩
  · have := Rat.mul_nonneg (a := (n : Rat)) (b := rev u q + B) (by grind) (by have := b2 q hq1 hq2; grind); grind
  · have := Rat.mul_nonneg (a := (n : Rat)) (b := B - rev u q) (by grind) (by have := b2 q hq1 hq2; grind); grind
  · have e1 := rel_rev (a := rabs y ^ k) (c := -1) (x := x) (s := u) (y := y) (z := rrem x.length x y) (fun t => by rw [hk t]; omega) q
    have e2 : rev ((snext x y).map fun b => m * b) q = rev ((rrem x.length x y).map fun b => (-n) * b) q := rev_ext q _ _ fun i => by
      rw [cf_smul, cf_smul, hp i, cf_pneg, Int.mul_neg, Int.neg_mul]
    rw [rev_smul, rev_smul] at e2
    push_cast at e1 e2 ⊢
    grind
end Go.Sky
namespace Go.Sky
set_option linter.unusedVariables false
theorem rl2_of {s t : Rat} {f g : Rat → Rat} (h : Rl3 s t f g (rev [])) : Rl2 s t f g := by
  obtain ⟨m, n, Q, hm, hn, hQ, hr⟩ := h
  refine ⟨m, Q, hm, hQ, fun x h1 h2 => ?_⟩
  obtain ⟨q, q1, q2, q3⟩ := hr x h1 h2
  refine ⟨q, q1, q2, ?_⟩
  have : rev [] x = 0 := rfl
  rw [this] at q3; grind
theorem rls_chain {s t : Rat} : ∀ (f : Nat) (a b : List Int), Tr a → Tr b → cok f a b → ∃ r, schain f a b = a :: r ∧ Rls s t (rev a) (r.map rev) ∧ (b = [] → r = []) ∧ (b ≠ [] → ∃ r', r = b :: r') := fun f => by
  induction f with
  | zero =>
    intro a b ha hb h
    have h0 : b = [] := h
    subst h0
    exact ⟨[], rfl, trivial, fun _ => rfl, fun h => absurd rfl h⟩
  | succ f ih =>
    intro a b ha hb h
    by_cases h0 : b = []
    · subst h0
      exact ⟨[], schain_nil _ _, trivial, fun _ => rfl, fun h => absurd rfl h⟩
    · obtain ⟨g, hg, hd, hle, hc, hs⟩ := cok_step h h0
      obtain rfl : f = g := by omega
      obtain ⟨r, h1, h2, h3, h4⟩ := ih b (snext a b) hb (tr_snext ha) hc
      have hR := rl3_snext (s := s) (t := t) ha hb h0 hle
      refine ⟨b :: r, by rw [hs, h1], ?_, fun h => absurd h h0, fun _ => ⟨r, rfl⟩⟩
      by_cases hz : snext a b = []
      · rw [h3 hz]
        rw [hz] at hR
        exact rl2_of hR
      · obtain ⟨r', rfl⟩ := h4 hz
        exact ⟨hR, h2⟩
end Go.Sky
namespace Go.Sky
set_option linter.unusedVariables false
theorem lip_mono {s t L M : Rat} {f : Rat → Rat} (h : L ≤ M) (hf : Lip s t L f) : Lip s t M f := fun x y h1 h2 h3 => by
  obtain ⟨a, b⟩ := hf x y h1 h2 h3
  have := Rat.mul_le_mul_of_nonneg_right h (show 0 ≤ y - x by grind)
  constructor <;> grind
theorem lip_all (s t : Rat) : ∀ ls : List (List Int), ∃ L : Rat, 0 < L ∧ ∀ g ∈ ls.map rev, Lip s t L g
  | [] => ⟨1, by decide, fun g hg => by cases hg⟩
  | p :: ls => by
    obtain ⟨L, l1, l2⟩ := lip_all s t ls
    obtain ⟨M, m1, m2⟩ := rev_lip s t p
    refine ⟨L + M, by grind, fun g hg => ?_⟩
    rw [List.map_cons] at hg
    rcases List.mem_cons.1 hg with rfl | hg
    · exact lip_mono (by grind) m2
    · exact lip_mono (by grind) (l2 g hg)
theorem schain_const {s t δ : Rat} {f : Nat} {a b : List Int} (ha : Tr a) (hb : Tr b) (hc : cok f a b) (hst : s ≤ t) (hd : 0 < δ) (hB : ∀ x, s ≤ x → x ≤ t → Big δ x (rev a)) :
    vat ((schain f a b).map rev) s = vat ((schain f a b).map rev) t := by
  obtain ⟨r, h1, h2, _, _⟩ := rls_chain (s := s) (t := t) f a b ha hb hc
  obtain ⟨L, l1, l2⟩ := lip_all s t (schain f a b)
  rw [h1] at l2 ⊢
  exact vat_const l1 l2 hd hB h2 hst
end Go.Sky
namespace Go.Sky
set_option linter.unusedVariables false
theorem rev_abs {K x : Rat} (hK : 0 ≤ K) (hx : 1 < x) : ∀ p : List Int, (∀ c ∈ p, -K ≤ (c : Rat) ∧ (c : Rat) ≤ K) → -(K * (x ^ p.length - 1)) ≤ (x - 1) * rev p x ∧ (x - 1) * rev p x ≤ K * (x ^ p.length - 1)
  | [], _ => by simp only [List.length_nil]; show _ ≤ (x - 1) * 0 ∧ (x - 1) * 0 ≤ _; constructor <;> grind
  | c :: p, h => by
    obtain ⟨a, b⟩ := rev_abs hK hx p fun d hd => h d (List.mem_cons_of_mem _ hd)
    obtain ⟨c1, c2⟩ := h c (List.mem_cons_self ..)
    have e1 := Rat.mul_nonneg (a := x - 1) (b := K - c) (by grind) (by grind)
    have e2 := Rat.mul_nonneg (a := x - 1) (b := K + c) (by grind) (by grind)
    have e3 := Rat.mul_nonneg (a := x) (b := K * (x ^ p.length - 1) - (x - 1) * rev p x) (by grind) (by grind)
    have e4 := Rat.mul_nonneg (a := x) (b := K * (x ^ p.length - 1) + (x - 1) * rev p x) (by grind) (by grind)
    rw [List.length_cons, Rat.pow_succ]
    unfold rev
    clear h a b
    generalize x ^ p.length = P at *
    generalize rev p x = R at *
    generalize (c : Rat) = C at *
    constructor <;> grind
end Go.Sky
namespace Go.Sky
set_option linter.unusedVariables false
theorem rev_snoc (x : Rat) (l : Int) : ∀ p : List Int, rev (p ++ [l]) x = rev p x + (l : Rat) * x ^ p.length
  | [] => by show (l : Rat) + x * 0 = 0 + l * x ^ 0; rw [Rat.pow_zero]; grind
  | c :: p => by
    have h := rev_snoc x l p
    rw [List.cons_append, List.length_cons, Rat.pow_succ]
    unfold rev; rw [h]; grind
theorem pow_ge1 {x : Rat} (hx : 1 ≤ x) : ∀ n : Nat, 1 ≤ x ^ n
  | 0 => by rw [Rat.pow_zero]; decide
  | n + 1 => by
    have h := pow_ge1 hx n
    rw [Rat.pow_succ]
    have := Rat.mul_nonneg (a := x ^ n - 1) (b := x - 1) (by grind) (by grind)
    grind
theorem rev_lead {K x : Rat} {l : Int} {p : List Int} (hK : 0 ≤ K) (hx : 1 < x) (h : ∀ c ∈ p, -K ≤ (c : Rat) ∧ (c : Rat) ≤ K) (hl : K + 1 ≤ (x - 1) * (l : Rat)) : 1 ≤ (x - 1) * rev (p ++ [l]) x := by
  obtain ⟨a, b⟩ := rev_abs hK hx p h
  have h1 := pow_ge1 (show 1 ≤ x by grind) p.length
  rw [rev_snoc]
  clear h b
  generalize x ^ p.length = P at *
  generalize rev p x = R at *
  generalize (l : Rat) = C at *
  have := Rat.mul_nonneg (a := (x - 1) * C - K - 1) (b := P) (by grind) (by grind)
  grind
end Go.Sky
namespace Go.Sky
set_option linter.unusedVariables false
def alt : List Int → List Int
  | [] => []
  | c :: p => c :: (alt p).map fun a => -1 * a
theorem length_alt : ∀ p : List Int, (alt p).length = p.length
  | [] => rfl
  | c :: p => by unfold alt; rw [List.length_cons, List.length_map, length_alt p, List.length_cons]
theorem rev_alt (x : Rat) : ∀ p : List Int, rev (alt p) x = rev p (-x)
  | [] => rfl
  | c :: p => by
    have h := rev_alt x p
    unfold alt rev; rw [rev_smul, h]; push_cast; grind
theorem cf_alt : ∀ (p : List Int) (i : Nat), cf (alt p) i = (if i % 2 = 0 then cf p i else - cf p i)
  | [], i => by rw [show cf (alt []) i = 0 from cf_ge (Nat.zero_le _), show cf [] i = 0 from cf_ge (Nat.zero_le _)]; split <;> rfl
  | c :: p, 0 => rfl
  | c :: p, i + 1 => by
    have h := cf_alt p i
    show cf ((alt p).map fun a => -1 * a) i = if (i + 1) % 2 = 0 then cf p i else - cf p i
    rw [cf_smul, h]
    split <;> split <;> omega
end Go.Sky
namespace Go.Sky
set_option linter.unusedVariables false
theorem smost_ge : ∀ (l : List Int) (m : Nat), m ≤ l.foldl (fun m c => max m c.natAbs) m ∧ ∀ c ∈ l, c.natAbs ≤ l.foldl (fun m c => max m c.natAbs) m
  | [], m => ⟨Nat.le_refl _, fun c hc => by cases hc⟩
  | a :: l, m => by
    obtain ⟨h1, h2⟩ := smost_ge l (max m a.natAbs)
    refine ⟨Nat.le_trans (Nat.le_max_left _ _) h1, fun c hc => ?_⟩
    rcases List.mem_cons.1 hc with rfl | hc
    · exact Nat.le_trans (Nat.le_max_right _ _) h1
    · exact h2 c hc
theorem split_last {xs : List Int} (h : xs ≠ []) : xs = xs.take (xs.length - 1) ++ [cf xs (xs.length - 1)] := by
  have hl := List.length_pos_iff.2 h
  have := take_snoc 0 xs (xs.length - 1) (by omega)
  rw [show xs.length - 1 + 1 = xs.length by omega, List.take_length] at this
  exact this
theorem beyond {xs : List Int} (h0 : xs ≠ []) (hl : 0 < cf xs (xs.length - 1)) {x : Rat} (hx : ((sbound xs : Int) : Rat) ≤ x) : 1 < x ∧ 1 ≤ (x - 1) * rev xs x := by
  have hk : ∀ c ∈ xs.take (xs.length - 1), c.natAbs ≤ smost xs := (smost_ge _ 0).2
  have hb : ((smost xs : Nat) : Int) + 1 ≤ (sbound xs - 1) * cf xs (xs.length - 1) := by
    unfold sbound
    have h1 : ((cf xs (xs.length - 1)).natAbs : Int) = cf xs (xs.length - 1) := by omega
    generalize cf xs (xs.length - 1) = l at *
    obtain ⟨n, rfl⟩ := Int.eq_ofNat_of_zero_le (Int.le_of_lt hl)
    have h2 : (Int.natAbs (n : Int)) = n := by omega
    rw [h2]
    have h3 := Nat.lt_mul_div_succ (smost xs) (show 0 < n by omega)
    have h4 : ((smost xs / n : Nat) : Int) + 2 - 1 = ((smost xs / n + 1 : Nat) : Int) := by omega
    rw [h4, ← Int.natCast_mul, Nat.mul_comm]
    omega
  have hb1 : 2 ≤ sbound xs := by
    unfold sbound
    generalize smost xs / (cf xs (xs.length - 1)).natAbs = q
    omega
  have hb2 : (2 : Rat) ≤ ((sbound xs : Int) : Rat) := by exact_mod_cast hb1
  have hl' : (0 : Rat) < ((cf xs (xs.length - 1) : Int) : Rat) := by exact_mod_cast hl
  have hb3 : ((smost xs : Nat) : Rat) + 1 ≤ (((sbound xs : Int) : Rat) - 1) * ((cf xs (xs.length - 1) : Int) : Rat) := by exact_mod_cast hb
  have hb4 : ((smost xs : Nat) : Rat) + 1 ≤ (x - 1) * ((cf xs (xs.length - 1) : Int) : Rat) := by
    have := Rat.mul_nonneg (a := x - ((sbound xs : Int) : Rat)) (b := ((cf xs (xs.length - 1) : Int) : Rat)) (by grind) (by grind)
    grind
  refine ⟨by grind, ?_⟩
  rw [split_last h0]
  refine rev_lead (K := ((smost xs : Nat) : Rat)) (by exact_mod_cast Nat.zero_le _) (by grind) (fun c hc => ?_) hb4
  have h5 := hk c hc
  constructor
  · have : -c ≤ ((smost xs : Nat) : Int) := by omega
    have h6 : -(c : Rat) ≤ ((smost xs : Nat) : Rat) := by exact_mod_cast this
    grind
  · have : c ≤ ((smost xs : Nat) : Int) := by omega
    exact_mod_cast this
end Go.Sky
namespace Go.Sky
set_option linter.unusedVariables false
theorem pev_cons (c : Int) (p : List Int) (X Y : Int) (h : p ≠ []) : pev (c :: p) X Y = c * Y ^ p.length + X * pev p X Y := by
  have hl := List.length_pos_iff.2 h
  unfold pev
  rw [List.length_cons, sumTo_first, ← sumTo_mul]
  congr 1
  · show c * (X ^ 0 * Y ^ (p.length + 1 - 1 - 0)) = _
    rw [Int.pow_zero, Int.one_mul, show p.length + 1 - 1 - 0 = p.length by omega]
  · refine sumTo_congr fun i hi => ?_
    show cf p i * (X ^ (i + 1) * Y ^ (p.length + 1 - 1 - (i + 1))) = X * (cf p i * (X ^ i * Y ^ (p.length - 1 - i)))
    rw [show p.length + 1 - 1 - (i + 1) = p.length - 1 - i by omega, Int.pow_succ]
    grind
theorem pev_rev {X Y : Int} (hY : 0 < Y) : ∀ p : List Int, ((pev p X Y : Int) : Rat) = rev p ((X : Rat) / (Y : Rat)) * (Y : Rat) ^ (p.length - 1)
  | [] => by show (0 : Rat) = 0 * _; grind
  | [c] => by
    have : pev [c] X Y = c := by unfold pev; show 0 + c * (X ^ 0 * Y ^ 0) = c; rw [Int.pow_zero, Int.pow_zero]; omega
    rw [this]; show (c : Rat) = (c + X / Y * 0) * (Y : Rat) ^ 0; rw [Rat.pow_zero]; grind
  | c :: d :: p => by
    have h := pev_rev (X := X) hY (d :: p)
    rw [pev_cons c (d :: p) X Y (by simp)]
    have hy : (Y : Rat) ≠ 0 := by have : (0 : Rat) < (Y : Rat) := by exact_mod_cast hY
                                  grind
    push_cast
    rw [h]
    show (c : Rat) * (Y : Rat) ^ (p.length + 1) + X * (rev (d :: p) (X / Y) * (Y : Rat) ^ (p.length + 1 - 1)) = ((c : Rat) + X / Y * rev (d :: p) (X / Y)) * (Y : Rat) ^ (p.length + 1 + 1 - 1)
    rw [show p.length + 1 - 1 = p.length by omega, show p.length + 1 + 1 - 1 = p.length + 1 by omega, Rat.pow_succ]
    generalize rev (d :: p) (X / Y) = R
    generalize (Y : Rat) ^ p.length = P
    have : (X : Rat) / Y * Y = X := by grind
    grind
theorem sign_rsg {z : Int} {r q : Rat} (hq : 0 < q) (h : (z : Rat) = r * q) : z.sign = rsg r := by
  rcases (show r < 0 ∨ r = 0 ∨ 0 < r by grind) with h1 | h1 | h1
  · rw [rsg_neg h1]
    have := Rat.mul_pos (a := -r) (b := q) (by grind) hq
    have h2 : (z : Rat) < 0 := by grind
    have h3 : z < 0 := by exact_mod_cast h2
    exact Int.sign_eq_neg_one_of_neg h3
  · subst h1
    have h2 : (z : Rat) = 0 := by grind
    have h3 : z = 0 := by exact_mod_cast h2
    subst h3; rfl
  · rw [rsg_pos h1]
    have := Rat.mul_pos h1 hq
    have h2 : (0 : Rat) < z := by grind
    have h3 : 0 < z := by exact_mod_cast h2
    exact Int.sign_eq_one_of_pos h3
theorem fat_rsg {X Y : Int} (hY : 0 < Y) (p : List Int) : fat X Y p = rsg (rev p ((X : Rat) / (Y : Rat))) := by
  have : (0 : Rat) < (Y : Rat) := by exact_mod_cast hY
  exact sign_rsg (Rat.pow_pos this) (pev_rev hY p)
end Go.Sky
namespace Go.Sky
set_option linter.unusedVariables false
theorem sm_congr {p q : List Int} (hl : p.length = q.length) (h : ∀ i, (cf p i).natAbs = (cf q i).natAbs) : ∀ i, i ≤ p.length → sm p i = sm q i
  | 0, _ => rfl
  | i + 1, hi => by rw [sm_succ (by omega), sm_succ (by omega), sm_congr hl h i (by omega), h i]
theorem sbound_congr {p q : List Int} (hl : p.length = q.length) (h : ∀ i, (cf p i).natAbs = (cf q i).natAbs) : sbound p = sbound q := by
  have h1 : smost p = smost q := by
    show sm p (p.length - 1) = sm q (q.length - 1)
    rw [← hl]; exact sm_congr hl h _ (by omega)
  unfold sbound; rw [h1, ← hl, h]
theorem right_big {p : List Int} (h0 : p ≠ []) (hl : cf p (p.length - 1) ≠ 0) {x : Rat} (hx : ((sbound p : Int) : Rat) ≤ x) : 1 < x ∧ rsg (rev p x) = fr p ∧ (1 ≤ (x - 1) * rev p x ∨ (x - 1) * rev p x ≤ -1) := by
  rcases (show 0 < cf p (p.length - 1) ∨ cf p (p.length - 1) < 0 by omega) with h | h
  · obtain ⟨h1, h2⟩ := beyond h0 h hx
    have h3 : 0 < rev p x := by
      rcases (show 0 < rev p x ∨ rev p x ≤ 0 by grind) with h9 | h9
      · exact h9
      · have := Rat.mul_nonneg (a := x - 1) (b := -rev p x) (by grind) (by grind); grind
    exact ⟨h1, by rw [rsg_pos h3]; unfold fr; rw [Int.sign_eq_one_of_pos h], .inl h2⟩
  · have hlm : (p.map fun a => -1 * a).length = p.length := by simp
    have hb : sbound (p.map fun a => -1 * a) = sbound p := sbound_congr hlm fun i => by rw [cf_smul]; omega
    have hx2 : ((sbound (p.map fun a => -1 * a) : Int) : Rat) ≤ x := by rw [hb]; exact hx
    obtain ⟨h1, h2⟩ := beyond (xs := p.map fun a => -1 * a) (fun e => h0 (List.map_eq_nil_iff.1 e)) (by rw [hlm, cf_smul]; omega) hx2
    rw [rev_smul] at h2
    push_cast at h2
    have h3 : rev p x < 0 := by
      rcases (show rev p x < 0 ∨ 0 ≤ rev p x by grind) with h9 | h9
      · exact h9
      · have := Rat.mul_nonneg (a := x - 1) (b := rev p x) (by grind) (by grind); grind
    exact ⟨h1, by rw [rsg_neg h3]; unfold fr; rw [Int.sign_eq_neg_one_of_neg h], .inr (by grind)⟩
theorem left_big {p : List Int} (h0 : p ≠ []) (hl : cf p (p.length - 1) ≠ 0) {x : Rat} (hx : ((sbound p : Int) : Rat) ≤ x) : 1 < x ∧ rsg (rev p (-x)) = fl p ∧ (1 ≤ (x - 1) * rev p (-x) ∨ (x - 1) * rev p (-x) ≤ -1) := by
  have hla := length_alt p
  have l0 := List.length_pos_iff.2 h0
  have hb : sbound (alt p) = sbound p := sbound_congr hla fun i => by rw [cf_alt]; split <;> omega
  have hx2 : ((sbound (alt p) : Int) : Rat) ≤ x := by rw [hb]; exact hx
  obtain ⟨h1, h2, h3⟩ := right_big (p := alt p) (fun e => h0 (List.eq_nil_of_length_eq_zero (by rw [← hla, e]; rfl))) (by rw [hla, cf_alt]; split <;> omega) hx2
  rw [rev_alt] at h2 h3
  refine ⟨h1, ?_, h3⟩
  rw [h2]
  unfold fr fl
  rw [hla, cf_alt]
  by_cases hp : p.length % 2 = 0
  · rw [if_pos hp, if_neg (by omega), Int.sign_neg]
  · rw [if_neg hp, if_pos (by omega)]
end Go.Sky
namespace Go.Sky
set_option linter.unusedVariables false
theorem schain_ne : ∀ (f : Nat) (a b : List Int), a ≠ [] → ∀ p ∈ schain f a b, p ≠ []
  | 0, a, b, h, p, hp => by
    have : p = a := by unfold schain at hp; simpa using hp
    rwa [this]
  | f + 1, a, b, h, p, hp => by
    by_cases h0 : b = []
    · rw [h0, schain_nil] at hp
      have : p = a := by simpa using hp
      rwa [this]
    · unfold schain at hp
      rw [if_neg h0] at hp
      rcases List.mem_cons.1 hp with rfl | hp
      · exact h
      · exact schain_ne f b _ h0 p hp
theorem ex_T (b : Int) : ∀ ls : List (List Int), ∃ T : Int, b ≤ T ∧ ∀ p ∈ ls, sbound p ≤ T
  | [] => ⟨b, Int.le_refl _, fun p hp => by cases hp⟩
  | q :: ls => by
    obtain ⟨T, h1, h2⟩ := ex_T b ls
    refine ⟨max T (sbound q), by omega, fun p hp => ?_⟩
    rcases List.mem_cons.1 hp with rfl | hp
    · omega
    · have := h2 p hp; omega
theorem rev_sqf {xs : List Int} {F : Nat} (hx : Tr xs) (h0 : xs ≠ []) (hok : eok F (gA (nrm xs) (pder (nrm xs))) (gB (nrm xs) (pder (nrm xs)))) : ∃ g : List Int, ∀ x, rev xs x = rev (sqf F xs) x * rev g x := by
  obtain ⟨f1, f2, f3, f4, f5, f6⟩ := sqf_fac (F := F) hx h0 hok
  have hk : ∃ k : Int, ∀ i, cf xs i = k * cf (nrm xs) i := by
    unfold nrm gnorm
    split
    · refine ⟨-pcont xs, fun i => ?_⟩
      rw [cf_pscale, ← pprim_mul xs i]; grind
    · refine ⟨pcont xs, fun i => ?_⟩
      rw [← pprim_mul xs i]; grind
  obtain ⟨k, hk⟩ := hk
  refine ⟨(pgcd F (nrm xs) (pder (nrm xs))).map fun a => k * a, fun x => ?_⟩
  have h1 : rev (nrm xs) x = rev (sqf F xs) x * rev (pgcd F (nrm xs) (pder (nrm xs))) x := by
    have := rel_rev (a := 1) (c := 0) (x := nrm xs) (s := sqf F xs) (y := pgcd F (nrm xs) (pder (nrm xs))) (z := []) (fun t => by
      have h2 := cf_pmul (sqf F xs) (pgcd F (nrm xs) (pder (nrm xs))) t
      rw [← f4] at h2
      rw [h2]; omega) x
    push_cast at this
    grind
  have h2 : rev xs x = rev ((nrm xs).map fun a => k * a) x := rev_ext x _ _ fun i => by rw [cf_smul]; exact hk i
  rw [h2, rev_smul, rev_smul, h1]; grind
theorem big_fac {s t : Rat} {f g h : Rat → Rat} {ε : Rat} (he : 0 < ε) (hb : ∀ x, s ≤ x → x ≤ t → ε ≤ f x ∨ f x ≤ -ε) (hf : ∀ x, f x = g x * h x) (hB : ∃ B : Rat, 0 < B ∧ ∀ x, s ≤ x → x ≤ t → -B ≤ h x ∧ h x ≤ B) : ∃ δ, 0 < δ ∧ ∀ x, s ≤ x → x ≤ t → Big δ x g := by
  obtain ⟨B, b1, b2⟩ := hB
  obtain ⟨δ, d1, d2, d3⟩ := ex_small (show (0 : Rat) < 1 by decide) (show 0 < B + B by grind) he
  refine ⟨δ, d1, fun x hs ht => ?_⟩
  by_cases hg : Big δ x g
  · exact hg
  · exfalso
    obtain ⟨g1, g2⟩ := not_big hg
    obtain ⟨h1, h2⟩ := b2 x hs ht
    obtain ⟨p1, p2⟩ := qg_le h1 h2 g1 g2 (by grind)
    have := Rat.mul_pos b1 d1
    have := hf x
    rcases hb x hs ht with h9 | h9 <;> grind
end Go.Sky
namespace Go.Sky
set_option linter.unusedVariables false
theorem lowb {x T ε r : Rat} (h1 : 1 < x) (h2 : x ≤ T) (he : 0 < ε) (h3 : ε * T ≤ 1) (h : 1 ≤ (x - 1) * r ∨ (x - 1) * r ≤ -1) : ε ≤ r ∨ r ≤ -ε := by
  have a := Rat.mul_nonneg (a := ε) (b := T - x) (by grind) (by grind)
  rcases h with h | h
  · left
    rcases (show ε ≤ r ∨ r < ε by grind) with h9 | h9
    · exact h9
    · have := Rat.mul_pos (a := x - 1) (b := ε - r) (by grind) (by grind); grind
  · right
    rcases (show r ≤ -ε ∨ -ε < r by grind) with h9 | h9
    · exact h9
    · have := Rat.mul_pos (a := x - 1) (b := r + ε) (by grind) (by grind); grind
theorem vat_map {ls : List (List Int)} {x : Rat} {f : List Int → Int} (h : ∀ p ∈ ls, rsg (rev p x) = f p) : vat (ls.map rev) x = chg (ls.map f) := by
  unfold vat
  rw [List.map_map]
  exact congrArg chg (List.map_congr_left fun p hp => h p hp)
theorem cnt_vat {F : Nat} {xs : List Int} {X Y : Int} (hY : 0 < Y) : cnt F xs X Y = vat ((chn F xs).map rev) ((X : Rat) / (Y : Rat)) :=
  (vat_map fun p _ => (fat_rsg hY p).symm).symm
theorem total_eq {xs : List Int} {F : Nat} (hv : Vp xs) (h0 : xs ≠ []) (hC : chOK F xs) : cnt F xs (-sbound xs) 1 - cnt F xs (sbound xs) 1 = sleft F xs - sright F xs := by
  have hok := hC.1.2.2.1
  have hx := hv.tr
  obtain ⟨f1, f2, f3, f4, f5, f6⟩ := sqf_fac (F := F) hx h0 hok
  obtain ⟨g, hg⟩ := rev_sqf hx h0 hok
  obtain ⟨T, t1, t2⟩ := ex_T (sbound xs) (chn F xs)
  have t1' : ((sbound xs : Int) : Rat) ≤ (T : Rat) := by exact_mod_cast t1
  have hne : ∀ p ∈ chn F xs, p ≠ [] := schain_ne F _ _ f3
  have hld : ∀ p ∈ chn F xs, cf p (p.length - 1) ≠ 0 := fun p hp => (vp_chn hv h0 hC p hp).tr.mem (hne p hp)
  have hlx := hx.mem h0
  have t2' : ∀ p ∈ chn F xs, ((sbound p : Int) : Rat) ≤ (T : Rat) := fun p hp => by exact_mod_cast t2 p hp
  have hT := (right_big h0 hlx t1').1
  obtain ⟨ε, e1, e2, e3⟩ := ex_small (show (0 : Rat) < 1 by decide) (show (0 : Rat) < (T : Rat) by grind) (show (0 : Rat) < 1 by decide)
  have hR : vat ((chn F xs).map rev) ((sbound xs : Int) : Rat) = vat ((chn F xs).map rev) (T : Rat) := by
    obtain ⟨δ, d1, d2⟩ := big_fac (s := ((sbound xs : Int) : Rat)) (t := (T : Rat)) e1 (fun x h1 h2 => by
      obtain ⟨a, b, c⟩ := right_big h0 hlx h1
      exact lowb a h2 e1 e3 c) hg (rev_b _ _ g)
    exact schain_const f2 (tr_pprim (tr_pder f2)) hC.2.2 t1' d1 d2
  have hL : vat ((chn F xs).map rev) (-(T : Rat)) = vat ((chn F xs).map rev) (-((sbound xs : Int) : Rat)) := by
    obtain ⟨δ, d1, d2⟩ := big_fac (s := -(T : Rat)) (t := -((sbound xs : Int) : Rat)) e1 (fun x h1 h2 => by
      obtain ⟨a, b, c⟩ := left_big (x := -x) h0 hlx (by grind)
      rw [show - -x = x by grind] at c
      exact lowb a (T := T) (by grind) e1 e3 c) hg (rev_b _ _ g)
    exact schain_const f2 (tr_pprim (tr_pder f2)) hC.2.2 (by grind) d1 d2
  have h1 : cnt F xs (sbound xs) 1 = sright F xs := by
    rw [cnt_vat (by decide), show ((sbound xs : Int) : Rat) / ((1 : Int) : Rat) = ((sbound xs : Int) : Rat) by push_cast; grind, hR]
    exact vat_map fun p hp => (right_big (hne p hp) (hld p hp) (t2' p hp)).2.1
  have h2 : cnt F xs (-sbound xs) 1 = sleft F xs := by
    rw [cnt_vat (by decide), show ((-sbound xs : Int) : Rat) / ((1 : Int) : Rat) = -((sbound xs : Int) : Rat) by push_cast; grind, ← hL]
    exact vat_map fun p hp => (left_big (hne p hp) (hld p hp) (t2' p hp)).2.1
  rw [h1, h2]
end Go.Sky

