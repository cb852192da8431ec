/- rules, arithmetic and contracts: part 14
   Proved without conditions of its own: each theorem bears its own. -/
import Derived.Test.YtcegclhbeflgbaaGreatSh12
import Derived.Test.YtcegclhbeflgbaaGreatSh02
import Derived.Test.YtcegclhbeflgbaaGreatSh01
import Derived.Test.YtcegclhbeflgbaaGreatSh03
set_option linter.all false
open Go.Proofs
namespace Go.Sky
abbrev RZ := (Bool × ByteArray) × (Bool × ByteArray)
abbrev Q0 : RZ := ((false, ⟨#[]⟩), (false, ⟨#[]⟩))
def qOK (z : RZ) : Bool := okR z.1.1 z.1.2 z.2.1 z.2.2
noncomputable def qx (z : RZ) : Int := if h : okR z.1.1 z.1.2 z.2.1 z.2.2 = true then (okR_ex h).choose else 0
noncomputable def qy (z : RZ) : Int := if h : okR z.1.1 z.1.2 z.2.1 z.2.2 = true then (okR_ex h).choose_spec.choose else 0
theorem q_ok {z : RZ} (h : qOK z = true) : bl (qx z).natAbs ≤ 65536 ∧ bl (qy z).natAbs ≤ 65536 ∧ 0 < qy z ∧ z = ((decide (qx z < 0), bstr (qx z).natAbs), (decide (qy z < 0), bstr (qy z).natAbs)) := by
  have h' : okR z.1.1 z.1.2 z.2.1 z.2.2 = true := h
  unfold qx qy
  rw [dif_pos h', dif_pos h']
  obtain ⟨h1, h2, h3, e1, e2, e3, e4⟩ := (okR_ex h').choose_spec.choose_spec
  exact ⟨h1, h2, h3, Prod.ext (Prod.ext e1 e2) (Prod.ext e3 e4)⟩
noncomputable def firstR (r : RWL) (z1 z2 : RZ) : Int := if (okP r && qOK z1 && qOK z2) = true then firstE r (qx z1) (qy z1) (qx z2) (qy z2) else 2
noncomputable def cN (r : RWL) (z1 z2 : RZ) : Int := if firstR r z1 z2 = 0 then cnt 12 (dec r) (qx z1) (qy z1) - cnt 12 (dec r) (qx z2) (qy z2) else 0
noncomputable def tN (r : RWL) : Int := if firstE r 0 1 0 1 = 0 then sleft 12 (dec r) - sright 12 (dec r) else 0
def endR (z : RZ) : Bool := decide (z.1.2.size ≤ 8) && decide (z.2.2.size ≤ 8)
theorem notf {b : Bool} (h : (!b) = false) : b = true := by cases b <;> simp_all
end Go.Sky
namespace Go.Sky
open Go.Proofs
set_option maxRecDepth 20000
set_option maxHeartbeats 4000000
set_option linter.unusedVariables false
set_option linter.unusedSimpArgs false
end Go.Sky
open Go.Proofs
namespace Go.Sky
end Go.Sky
namespace Go.Sky
open Go.Proofs
set_option maxRecDepth 20000
set_option maxHeartbeats 4000000
set_option linter.unusedVariables false
set_option linter.unusedSimpArgs false
end Go.Sky
namespace Go.Sky
set_option linter.unusedVariables false
theorem ev1_rev (t : Int) : ∀ p : List Int, rev p (t : Rat) = ((ev1 p t : Int) : Rat)
  | [] => rfl
  | c :: p => by
    have h := ev1_rev t p
    rw [show rev (c :: p) (t : Rat) = (c : Rat) + (t : Rat) * rev p (t : Rat) from rfl, show ev1 (c :: p) t = c + t * ev1 p t from rfl, h]; push_cast; rfl
theorem rev_cf0 {p : List Int} (h : ∀ x : Rat, rev p x = 0) (i : Nat) : cf p i = 0 := by
  by_cases h0 : cf p i = 0
  · exact h0
  · exfalso
    have := roots_le p.length p ((List.range p.length).map fun n : Nat => (n : Int)) rfl ⟨i, h0⟩ (by
      refine List.Pairwise.map _ (fun a b hab => ?_) List.nodup_range
      intro e; exact hab (by exact_mod_cast e)) (fun t ht => by
      have h1 := ev1_rev t p
      rw [h] at h1
      exact_mod_cast h1.symm)
    simp at this
theorem rev_inj {p q : List Int} (h : ∀ x : Rat, rev p x = rev q x) (i : Nat) : cf p i = cf q i := by
  have h1 := rev_cf0 (p := ladd p (q.map fun a => (-1) * a)) (fun x => by rw [rev_ladd, rev_smul, h x]; push_cast; grind) i
  rw [cf_ladd, cf_smul] at h1; omega
theorem rev_tzl (p : List Int) (x : Rat) : rev (tzl p) x = rev p x := rev_ext x _ _ fun i => cf_tzl p i
theorem rev_pmul (p q : List Int) (x : Rat) : rev (pmul p q) x = rev p x * rev q x := by
  rw [← rev_lmul]; exact rev_ext x _ _ fun i => by rw [cf_pmul, cf_lmul, PS.mul_c]; rfl
theorem rev_one (c : Int) (x : Rat) : rev [c] x = (c : Rat) := by show (c : Rat) + x * 0 = c; grind
def ld : List Int → List Int
  | [] => []
  | _ :: p => ladd p (0 :: ld p)
theorem rd_cons (c : Int) (p : List Int) (x : Rat) : rev (ld (c :: p)) x = rev p x + x * rev (ld p) x := by
  rw [show ld (c :: p) = ladd p (0 :: ld p) from rfl, rev_ladd]; show rev p x + (((0 : Int) : Rat) + x * rev (ld p) x) = _; push_cast; grind
theorem cf_ld : ∀ (p : List Int) (i : Nat), cf (ld p) i = cf p (i + 1) * ((i : Int) + 1)
  | [], i => by rw [cf_nil, show ld [] = [] from rfl, cf_nil, Int.zero_mul]
  | c :: p, 0 => by
    rw [show ld (c :: p) = ladd p (0 :: ld p) from rfl, cf_ladd]; show cf p 0 + 0 = cf p 0 * _; simp
  | c :: p, i + 1 => by
    have h := cf_ld p i
    rw [show ld (c :: p) = ladd p (0 :: ld p) from rfl, cf_ladd]; show cf p (i + 1) + cf (ld p) i = cf p (i + 1) * _
    rw [h]; push_cast; grind
theorem Qq (p : List Int) (x : Rat) : rev (pder p) x = rev (ld p) x := rev_ext x _ _ fun i => by rw [cf_pder', cf_ld]
theorem rd_congr {p q : List Int} (h : ∀ x, rev p x = rev q x) (x : Rat) : rev (ld p) x = rev (ld q) x := rev_ext x _ _ fun i => by rw [cf_ld, cf_ld, rev_inj h]
theorem rd_ladd (p q : List Int) (x : Rat) : rev (ld (ladd p q)) x = rev (ld p) x + rev (ld q) x := by
  rw [← rev_ladd]; exact rev_ext x _ _ fun i => by rw [cf_ld, cf_ladd, cf_ladd, cf_ld, cf_ld]; grind
theorem rd_smul (c : Int) (p : List Int) (x : Rat) : rev (ld (p.map fun a => c * a)) x = (c : Rat) * rev (ld p) x := by
  rw [← rev_smul]; exact rev_ext x _ _ fun i => by rw [cf_ld, cf_smul, cf_smul, cf_ld]; grind
theorem rd_lmul (x : Rat) : ∀ p q : List Int, rev (ld (lmul p q)) x = rev (ld p) x * rev q x + rev p x * rev (ld q) x
  | [], q => by show (0 : Rat) = 0 * rev q x + 0 * rev (ld q) x; grind
  | c :: p, q => by
    have h := rd_lmul x p q
    rw [show lmul (c :: p) q = ladd (q.map fun a => c * a) (0 :: lmul p q) from rfl, rd_ladd, rd_smul, rd_cons, rd_cons, h, rev_lmul, show rev (c :: p) x = (c : Rat) + x * rev p x from rfl]
    grind
def Ed (g a : List Int) : Prop := ∃ (k : Int) (s : List Int), k ≠ 0 ∧ ∀ x : Rat, (k : Rat) * rev a x = rev s x * rev g x
theorem Ed.refl (a : List Int) : Ed a a := ⟨1, [1], by decide, fun x => by rw [rev_one]⟩
theorem Ed.nil (g : List Int) : Ed g [] := ⟨1, [], by decide, fun x => by show (((1 : Int)) : Rat) * 0 = 0 * rev g x; grind⟩
theorem Ed.trans {a b c : List Int} : Ed a b → Ed b c → Ed a c := fun ⟨k, s, hk, h⟩ ⟨m, u, hm, e⟩ =>
  ⟨k * m, lmul u s, Int.mul_ne_zero hk hm, fun x => by
    have h1 := h x
    have h2 := e x
    rw [rev_lmul]; push_cast
    have : (k : Rat) * m * rev c x = k * (m * rev c x) := by grind
    rw [this, h2]; grind⟩
theorem Ed.congr {g a b : List Int} (h : Ed g a) (e : ∀ x, rev a x = rev b x) : Ed g b := by
  obtain ⟨k, s, hk, h⟩ := h
  exact ⟨k, s, hk, fun x => by rw [← e x]; exact h x⟩
theorem Ed.congr_l {g g' a : List Int} (h : Ed g a) (e : ∀ x, rev g x = rev g' x) : Ed g' a := by
  obtain ⟨k, s, hk, h⟩ := h
  exact ⟨k, s, hk, fun x => by rw [← e x]; exact h x⟩
theorem Ed.sim {g a b : List Int} (h : Ed g a) (e : Sim a b) : Ed g b := by
  obtain ⟨k, s, hk, h⟩ := h
  obtain ⟨m, n, hm, hn, e⟩ := e
  refine ⟨k * n, s.map fun c => m * c, Int.mul_ne_zero hk hn, fun x => ?_⟩
  have h1 : rev (a.map fun c => m * c) x = rev (b.map fun c => n * c) x := rev_ext x _ _ fun i => by rw [cf_smul, cf_smul, e]
  rw [rev_smul, rev_smul] at h1
  rw [rev_smul]
  have := h x
  push_cast
  have e2 : (k : Rat) * n * rev b x = k * (n * rev b x) := by grind
  rw [e2, ← h1]; grind
theorem Ed.lin {g a b c : List Int} (ha : Ed g a) (hb : Ed g b) (s : List Int) (L : Int) (hL : L ≠ 0) (h : ∀ x, (L : Rat) * rev c x = rev s x * rev a x + rev b x) : Ed g c := by
  obtain ⟨k, u, hk, h1⟩ := ha
  obtain ⟨m, v, hm, h2⟩ := hb
  refine ⟨L * (k * m), ladd ((lmul s u).map fun c => m * c) (v.map fun c => k * c), Int.mul_ne_zero hL (Int.mul_ne_zero hk hm), fun x => ?_⟩
  have h1 := h1 x
  have h2 := h2 x
  have h := h x
  rw [rev_ladd, rev_smul, rev_smul, rev_lmul]
  push_cast
  have e : (L : Rat) * (k * m) * rev c x = k * m * (L * rev c x) := by grind
  rw [e, h]
  have e2 : (k : Rat) * m * (rev s x * rev a x + rev b x) = m * rev s x * (k * rev a x) + k * (m * rev b x) := by grind
  rw [e2, h1, h2]; grind
theorem ed_len {g a s : List Int} {k : Int} (hk : k ≠ 0) (hg : Tr g) (ha : Tr a) (h0 : a ≠ []) (h : ∀ x : Rat, (k : Rat) * rev a x = rev s x * rev g x) : g ≠ [] ∧ tzl s ≠ [] ∧ (tzl s).length + g.length ≤ a.length + 1 := by
  have hc : ∀ i, k * cf a i = (ps (tzl s) * ps g).c i := fun i => by
    have h1 := rev_inj (p := a.map fun c => k * c) (q := lmul (tzl s) g) (fun x => by rw [rev_smul, rev_lmul, rev_tzl]; exact h x) i
    rw [cf_smul, cf_lmul] at h1
    rw [h1, PS.mul_c]; rfl
  have hz : ∀ i, k * cf a i = 0 → cf a i = 0 := fun i hi => (Int.mul_eq_zero.1 hi).resolve_left hk
  have hla := ha.mem h0
  have h1 : tzl s ≠ [] := fun e => hla (hz _ (by rw [hc, e, mul_zero_l (fun t => cf_ge (Nat.zero_le _))]))
  have h2 : g ≠ [] := fun e => hla (hz _ (by rw [hc, e, PS.mul_comm', mul_zero_l (fun t => cf_ge (Nat.zero_le _))]))
  refine ⟨h2, h1, ?_⟩
  have l1 := List.length_pos_iff.2 h1
  have l2 := List.length_pos_iff.2 h2
  have ht := conv_top (p := tzl s) (q := g) (a := (tzl s).length - 1) (b := g.length - 1) (fun i hi => cf_ge (by omega)) (fun i hi => cf_ge (by omega))
  rw [← hc] at ht
  have hne := Int.mul_ne_zero ((tr_tzl s).mem h1) (hg.mem h2)
  rcases Nat.lt_or_ge ((tzl s).length - 1 + (g.length - 1)) a.length with h9 | h9
  · omega
  · rw [cf_ge h9, Int.mul_zero] at ht; exact absurd ht.symm hne
theorem Ed.len {g a : List Int} (h : Ed g a) (hg : Tr g) (ha : Tr a) (h0 : a ≠ []) : g ≠ [] ∧ g.length ≤ a.length := by
  obtain ⟨k, s, hk, h⟩ := h
  obtain ⟨a1, a2, a3⟩ := ed_len hk hg ha h0 h
  have := List.length_pos_iff.2 a2
  exact ⟨a1, by omega⟩
theorem Ed.same {g a : List Int} (h : Ed g a) (hg : Tr g) (ha : Tr a) (h0 : a ≠ []) (hl : g.length = a.length) : Ed a g := by
  obtain ⟨k, s, hk, h⟩ := h
  obtain ⟨a1, a2, a3⟩ := ed_len hk hg ha h0 h
  have hl1 := List.length_pos_iff.2 a2
  match hs : tzl s, hl1, a3 with
  | [c], _, _ =>
    have hc : c ≠ 0 := by have := (tr_tzl s).mem a2; rw [hs] at this; exact this
    refine ⟨c, [k], hc, fun x => ?_⟩
    have h1 := h x
    rw [← rev_tzl s, hs, rev_one] at h1
    rw [rev_one]; exact h1.symm
  | c :: d :: r, _, h9 => simp at h9; omega
theorem bezout : ∀ (n : Nat) (a b : List Int), Tr a → Tr b → b.length ≤ n → ∃ g A B : List Int, Tr g ∧ Ed g a ∧ Ed g b ∧ ∀ x, rev g x = rev A x * rev a x + rev B x * rev b x
  | n, a, [], ha, hb, _ => ⟨a, [1], [], ha, Ed.refl a, Ed.nil a, fun x => by rw [rev_one]; show _ = _ + 0 * (0 : Rat); push_cast; grind⟩
  | 0, a, c :: r, _, _, hl => absurd hl (by simp)
  | n + 1, a, c :: b', ha, hb, hl => by
    have h0 : (c :: b') ≠ [] := by simp
    generalize c :: b' = b at *
    obtain ⟨k, s, hs⟩ := prest_id a h0
    have hL := int_pow_ne (hb.mem h0) k
    generalize cf b (b.length - 1) ^ k = L at hs hL
    have hlt := length_prest_lt a h0
    obtain ⟨g, A, B, g1, g2, g3, g4⟩ := bezout n b (prest a b) hb (tr_prest ha) (by omega)
    have he : ∀ x, (L : Rat) * rev a x = rev s x * rev b x + rev (prest a b) x := fun x => by
      have := rel_rev (a := L) (c := -1) (x := a) (s := s) (y := b) (z := prest a b) (fun t => by rw [hs t]; omega) x
      push_cast at this; grind
    refine ⟨g, B.map fun c => L * c, ladd A ((lmul B s).map fun c => (-1) * c), g1, g2.lin g3 s L hL he, g2, fun x => ?_⟩
    rw [rev_smul, rev_ladd, rev_smul, rev_lmul, g4 x]
    have := he x
    have e : rev (prest a b) x = L * rev a x - rev s x * rev b x := by grind
    rw [e]; push_cast; grind
end Go.Sky
namespace Go.Sky
set_option linter.unusedVariables false
def Irr (q : List Int) : Prop := Tr q ∧ 2 ≤ q.length ∧ ∀ d, Tr d → Ed d q → d.length ≤ 1 ∨ d.length = q.length
theorem ne_of_len {q : List Int} (h : 2 ≤ q.length) : q ≠ [] := fun e => by rw [e] at h; simp at h
theorem irr_ex : ∀ (n : Nat) (q : List Int), q.length ≤ n → Tr q → 2 ≤ q.length → ∃ p, Irr p ∧ Ed p q
  | 0, q, hl, _, h2 => by omega
  | n + 1, q, hl, ht, h2 => by
    by_cases h : Irr q
    · exact ⟨q, h, Ed.refl q⟩
    · have : ∃ d, Tr d ∧ Ed d q ∧ ¬ (d.length ≤ 1 ∨ d.length = q.length) := by
        refine Classical.byContradiction fun h9 => h ⟨ht, h2, fun d hd he => Classical.byContradiction fun h8 => h9 ⟨d, hd, he, h8⟩⟩
      obtain ⟨d, hd, he, hn⟩ := this
      have hle := (he.len hd ht (ne_of_len h2)).2
      obtain ⟨p, hp, hp2⟩ := irr_ex n d (by omega) hd (by omega)
      exact ⟨p, hp, hp2.trans he⟩
theorem irr_prime {q f h m : List Int} {k : Int} (hq : Irr q) (hk : k ≠ 0) (e : ∀ x : Rat, (k : Rat) * (rev f x * rev h x) = rev m x * rev q x) : Ed q f ∨ Ed q h := by
  obtain ⟨hq1, hq2, hq3⟩ := hq
  obtain ⟨g, A, B, g1, g2, g3, g4⟩ := bezout _ q (tzl f) hq1 (tr_tzl f) (Nat.le_refl _)
  have hg := (g2.len g1 hq1 (ne_of_len hq2)).1
  rcases hq3 g g1 g2 with h1 | h1
  · right
    match g, hg, h1, g1, g4 with
    | [c], _, _, g1, g4 =>
      have hc : c ≠ 0 := g1.mem (by simp)
      refine ⟨c * k, ladd ((lmul A h).map fun c => k * c) (lmul B m), Int.mul_ne_zero hc hk, fun x => ?_⟩
      have h4 := g4 x
      have h5 := e x
      rw [rev_one, rev_tzl] at h4
      rw [rev_ladd, rev_smul, rev_lmul, rev_lmul]
      push_cast
      rw [h4]
      have : (rev A x * rev q x + rev B x * rev f x) * k * rev h x = k * rev A x * rev q x * rev h x + rev B x * (k * (rev f x * rev h x)) := by grind
      rw [this, h5]; grind
    | c :: d :: r, _, h9, _, _ => simp at h9
  · left
    have h2 := g2.same g1 hq1 (ne_of_len hq2) h1
    exact (h2.trans g3).congr fun x => rev_tzl f x
def ppow (q : List Int) : Nat → List Int
  | 0 => [1]
  | n + 1 => pmul q (ppow q n)
theorem ppow_len {q : List Int} (hq : Tr q) (h2 : 2 ≤ q.length) : ∀ n, Tr (ppow q n) ∧ n + 1 ≤ (ppow q n).length
  | 0 => ⟨.inr (show cf [1] 0 ≠ 0 by decide), Nat.le_refl _⟩
  | n + 1 => by
    obtain ⟨h1, h3⟩ := ppow_len hq h2 n
    refine ⟨tr_pmul _ _, ?_⟩
    show n + 1 + 1 ≤ (pmul q (ppow q n)).length
    rw [length_pmul hq h1 (ne_of_len h2) (fun e => by rw [e] at h3; simp at h3)]
    omega
theorem rev_ppow (q : List Int) (n : Nat) (x : Rat) : rev (ppow q (n + 1)) x = rev q x * rev (ppow q n) x := rev_pmul _ _ _
theorem rd_ppow (q : List Int) : ∀ (n : Nat) (x : Rat), rev (ld (ppow q (n + 1))) x = ((n : Rat) + 1) * (rev (ppow q n) x * rev (ld q) x)
  | n, x => by
    have h1 : rev (ld (ppow q (n + 1))) x = rev (ld (lmul q (ppow q n))) x := rd_congr (fun y => by rw [rev_ppow, rev_lmul]) x
    rw [h1, rd_lmul]
    match n with
    | 0 =>
      rw [show rev (ld (ppow q 0)) x = 0 from by rw [show ppow q 0 = [1] from rfl, rd_cons]; show (0 : Rat) + x * 0 = 0; grind]
      simp; grind
    | n + 1 =>
      rw [rd_ppow q n x, rev_ppow]; push_cast; grind
theorem sqf_step {p s g q u : List Int} {c : Int} {k : Nat} (hps : ∀ x : Rat, rev p x = rev s x * rev g x) (hgr : ∀ d, Tr d → Ed d p → Ed d (ld p) → Ed d g) (hq : Irr q) (h1 : Ed q s) (h2 : Ed q (ld s)) (hk : Ed (ppow q k) g) : Ed (ppow q (k + 1)) g := by
  obtain ⟨hq1, hq2, hq3⟩ := hq
  obtain ⟨c1, s1, k1, e1⟩ := h1
  obtain ⟨c2, s2, k2, e2⟩ := h2
  have d1 : ∀ x : Rat, (c1 : Rat) * rev (ld s) x = rev (ld s1) x * rev q x + rev s1 x * rev (ld q) x := fun x => by
    have := rd_congr (p := s.map fun a => c1 * a) (q := lmul s1 q) (fun y => by rw [rev_smul, rev_lmul]; exact e1 y) x
    rwa [rd_smul, rd_lmul] at this
  have h3 : Ed q s1 := by
    rcases irr_prime (f := s1) (h := ld q) (m := ladd (s2.map fun a => c1 * a) ((ld s1).map fun a => (-c2) * a)) ⟨hq1, hq2, hq3⟩ k2 (fun x => by
      have a1 := d1 x
      have a2 := e2 x
      rw [rev_ladd, rev_smul, rev_smul]; push_cast
      have : (c2 : Rat) * (rev s1 x * rev (ld q) x) = c1 * (c2 * rev (ld s) x) - c2 * (rev (ld s1) x * rev q x) := by grind
      rw [this, a2]; grind) with h9 | h9
    · exact h9
    · exfalso
      have h8 : Ed q (pder q) := h9.congr fun x => (Qq q x).symm
      have hl := len_pder' q
      have := (h8.len hq1 (tr_pder hq1) (fun e => by rw [e] at hl; simp at hl; omega)).2
      omega
  obtain ⟨c3, s3, k3, e3⟩ := h3
  obtain ⟨c, u, kc, eu⟩ := hk
  have hP : ∀ x : Rat, ((c1 * c3 * c : Int) : Rat) * rev p x = rev (lmul s3 u) x * rev (ppow q (k + 1 + 1)) x := fun x => by
    rw [hps x, rev_lmul, rev_ppow, rev_ppow]; push_cast
    have a1 := e1 x
    have a3 := e3 x
    have a4 := eu x
    have : (c1 : Rat) * c3 * c * (rev s x * rev g x) = c3 * (c1 * rev s x) * (c * rev g x) := by grind
    rw [this, a1, a4]
    have : (c3 : Rat) * (rev s1 x * rev q x) * (rev u x * rev (ppow q k) x) = (c3 * rev s1 x) * rev q x * (rev u x * rev (ppow q k) x) := by grind
    rw [this, a3]; grind
  have hC : c1 * c3 * c ≠ 0 := Int.mul_ne_zero (Int.mul_ne_zero k1 k3) kc
  generalize c1 * c3 * c = C at hP hC
  have hD : ∀ x : Rat, (C : Rat) * rev (ld p) x = rev (ld (lmul s3 u)) x * rev (ppow q (k + 1 + 1)) x + rev (lmul s3 u) x * ((((k + 1 : Nat) : Rat) + 1) * (rev (ppow q (k + 1)) x * rev (ld q) x)) := fun x => by
    have := rd_congr (p := p.map fun a => C * a) (q := lmul (lmul s3 u) (ppow q (k + 1 + 1))) (fun y => by rw [rev_smul, rev_lmul]; exact hP y) x
    rwa [rd_smul, rd_lmul, rd_ppow] at this
  refine hgr _ (ppow_len hq1 hq2 _).1 ⟨C, lmul (lmul s3 u) q, hC, fun x => ?_⟩ ⟨C, ladd (lmul (ld (lmul s3 u)) q) ((lmul (lmul s3 u) (ld q)).map fun a => ((k + 2 : Nat) : Int) * a), hC, fun x => ?_⟩
  · rw [hP x, rev_lmul _ (lmul s3 u), rev_ppow q (k + 1)]; grind
  · rw [hD x, rev_ladd, rev_smul, rev_lmul _ (ld (lmul s3 u)), rev_lmul _ (lmul s3 u), rev_ppow q (k + 1)]; push_cast; grind
theorem sqf_free {p s g q : List Int} (hps : ∀ x : Rat, rev p x = rev s x * rev g x) (hg : Tr g) (g0 : g ≠ []) (hgr : ∀ d, Tr d → Ed d p → Ed d (ld p) → Ed d g) (hq : Tr q) (h1 : Ed q s) (h2 : Ed q (ld s)) : q.length ≤ 1 := by
  refine Classical.byContradiction fun h => ?_
  obtain ⟨r, hr, hr2⟩ := irr_ex _ q (Nat.le_refl _) hq (by omega)
  have key : ∀ k, Ed (ppow r k) g := fun k => by
    induction k with
    | zero => exact ⟨1, g, by decide, fun x => by rw [show ppow r 0 = [1] from rfl, rev_one]; push_cast; grind⟩
    | succ k ih => exact sqf_step (u := []) (c := 0) hps hgr hr (hr2.trans h1) (hr2.trans h2) ih
  obtain ⟨a1, a2⟩ := ppow_len hr.1 hr.2.1 g.length
  have := ((key g.length).len a1 hg g0).2
  omega
end Go.Sky
namespace Go.Sky
set_option linter.unusedVariables false
theorem ed_rest {d a b : List Int} (hb : Tr b) (h0 : b ≠ []) (h1 : Ed d a) (h2 : Ed d b) : Ed d (prest a b) := by
  obtain ⟨k, s, hs⟩ := prest_id a h0
  have hL := int_pow_ne (hb.mem h0) k
  generalize cf b (b.length - 1) ^ k = L at hs hL
  have he : ∀ x, (L : Rat) * rev a x = rev s x * rev b x + rev (prest a b) x := fun x => by
    have := rel_rev (a := L) (c := -1) (x := a) (s := s) (y := b) (z := prest a b) (fun t => by rw [hs t]; omega) x
    push_cast at this; grind
  have h3 : Ed d (a.map fun c => L * c) := by
    obtain ⟨k, u, hk, e⟩ := h1
    exact ⟨k, u.map fun c => L * c, hk, fun x => by rw [rev_smul, rev_smul]; have := e x; grind⟩
  exact h2.lin h3 (s.map fun c => (-1) * c) 1 (by decide) fun x => by
    rw [rev_smul, rev_smul]; push_cast; have := he x; grind
theorem eu_great {d : List Int} : ∀ (f : Nat) {a b : List Int}, Tr a → Tr b → Ed d a → Ed d b → Ed d (eu f a b)
  | 0, a, b, _, _, h1, _ => h1
  | f + 1, a, b, ha, hb, h1, h2 => by
    by_cases h0 : b = []
    · rw [h0, eu_nil]; exact h1
    · rw [show eu (f + 1) a b = eu f b (pprim (prest a b)) by conv => lhs; unfold eu
                                                              rw [if_neg h0]]
      have t1 := tr_prest (q := b) ha
      exact eu_great f hb (tr_pprim t1) h2 ((ed_rest hb h0 h1 h2).sim (sim_pprim t1).symm)
theorem pgcd_great {F : Nat} {d p q : List Int} (hp : Tr p) (hq : Tr q) (h1 : Ed d p) (h2 : Ed d q) : Ed d (pgcd F p q) := by
  have a1 := h1.sim (sim_pprim hp).symm
  have a2 := h2.sim (sim_pprim hq).symm
  unfold pgcd
  refine Ed.sim ?_ (sim_gnorm _).symm
  refine eu_great F (tr_gA hp hq) (tr_gB hp hq) ?_ ?_
  · unfold gA; split <;> assumption
  · unfold gB; split <;> assumption
theorem sqf_cop {xs : List Int} {F : Nat} (hx : Tr xs) (h0 : xs ≠ []) (hok : eok F (gA (nrm xs) (pder (nrm xs))) (gB (nrm xs) (pder (nrm xs)))) {q : List Int} (hq : Tr q) (h1 : Ed q (sqf F xs)) (h2 : Ed q (pder (sqf F xs))) : q.length ≤ 1 := by
  obtain ⟨f1, f2, f3, f4, f5, f6⟩ := sqf_fac (F := F) hx h0 hok
  have hs : Tr (nrm xs) := tr_gnorm (tr_pprim hx)
  have hd : Tr (pder (nrm xs)) := tr_pder hs
  refine sqf_free (p := nrm xs) (s := sqf F xs) (g := pgcd F (nrm xs) (pder (nrm xs))) (fun x => ?_) (tr_pgcd hs hd) f5 (fun d _ a b => ?_) hq h1 (h2.congr fun x => Qq _ x)
  · have : rev (nrm xs) x = rev (pmul (sqf F xs) (pgcd F (nrm xs) (pder (nrm xs)))) x := by rw [← f4]
    rw [this, rev_pmul]
  · exact pgcd_great hs hd a (b.congr fun x => (Qq _ x).symm)
end Go.Sky
namespace Go.Sky
set_option linter.unusedVariables false
theorem chg_shift : ∀ (l : List Int) (n z : Int), (l.foldl chg1 (n, z)).1 = n + (l.foldl chg1 (0, z)).1
  | [], n, z => by simp
  | x :: l, n, z => by
    simp only [List.foldl_cons]
    by_cases h : x = 0
    · have e : ∀ n, chg1 (n, z) x = (n, z) := fun n => by unfold chg1; rw [if_pos h]
      rw [e, e]; exact chg_shift l n z
    · by_cases h2 : x = -z
      · have e : ∀ n, chg1 (n, z) x = (n + 1, x) := fun n => by unfold chg1; rw [if_neg h, if_pos (by dsimp only; exact h2)]
        rw [e, e, chg_shift l (n + 1) x, chg_shift l (0 + 1) x]; omega
      · have e : ∀ n, chg1 (n, z) x = (n, x) := fun n => by unfold chg1; rw [if_neg h, if_neg (by dsimp only; exact h2)]
        rw [e, e]; exact chg_shift l n x
theorem chg_two {x y : Int} (l : List Int) (hy : y ≠ 0) : chg (x :: y :: l) = chg (y :: l) + (if x = -y then 1 else 0) := by
  unfold chg
  simp only [List.foldl_cons]
  have h1 : chg1 (0, 0) y = (0, y) := by unfold chg1; rw [if_neg hy, if_neg (by dsimp only; omega)]
  rw [h1]
  by_cases hx : x = 0
  · have h2 : chg1 (0, 0) x = (0, 0) := by unfold chg1; rw [if_pos hx]
    rw [h2, h1, if_neg (by omega)]; omega
  · have h2 : chg1 (0, 0) x = (0, x) := by unfold chg1; rw [if_neg hx, if_neg (by dsimp only; omega)]
    rw [h2]
    have h3 : chg1 (0, x) y = (if x = -y then 1 else 0, y) := by
      unfold chg1; rw [if_neg hy]
      by_cases h : x = -y
      · rw [if_pos (by dsimp only; omega), if_pos h]; rfl
      · rw [if_neg (by dsimp only; omega), if_neg h]
    rw [h3, chg_shift]; omega
def crs (f : Rat → Rat) (u v : Rat) : Int := if f u ≠ 0 ∧ f u * f v ≤ 0 then 1 else 0
theorem rev_tay (s t : Rat) : ∀ p : List Int, ∃ M : Rat, 0 < M ∧ ∀ x y, s ≤ x → x ≤ y → y ≤ t →
    -(M * (y - x) * (y - x)) ≤ rev p y - rev p x - (y - x) * rev (ld p) x ∧ rev p y - rev p x - (y - x) * rev (ld p) x ≤ M * (y - x) * (y - x)
  | [] => ⟨1, by decide, fun x y h1 h2 h3 => by
      have := Rat.mul_nonneg (a := y - x) (b := y - x) (by grind) (by grind)
      show -(1 * (y - x) * (y - x)) ≤ (0 : Rat) - 0 - (y - x) * 0 ∧ (0 : Rat) - 0 - (y - x) * 0 ≤ 1 * (y - x) * (y - x)
      constructor <;> grind⟩
  | c :: p => by
    obtain ⟨M, m1, m2⟩ := rev_tay s t p
    obtain ⟨L, l1, l2⟩ := rev_lip s t p
    obtain ⟨K, k1, k2⟩ := ex_K s t
    refine ⟨L + K * M, by have := Rat.mul_pos k1 m1; grind, fun x y hs hxy ht => ?_⟩
    obtain ⟨a1, a2⟩ := m2 x y hs hxy ht
    obtain ⟨b1, b2⟩ := l2 x y hs hxy ht
    obtain ⟨e1, e2⟩ := k2 x hs (by grind)
    have hd : 0 ≤ y - x := by grind
    obtain ⟨f1, f2⟩ := qg_le (q := x) (Q := K) (g := rev p y - rev p x - (y - x) * rev (ld p) x) (e := M * (y - x) * (y - x)) e1 e2 a1 a2 (by grind)
    have g1 := Rat.mul_nonneg (a := y - x) (b := L * (y - x) - (rev p y - rev p x)) hd (by grind)
    have g2 := Rat.mul_nonneg (a := y - x) (b := L * (y - x) + (rev p y - rev p x)) hd (by grind)
    rw [rd_cons, show rev (c :: p) y = (c : Rat) + y * rev p y from rfl, show rev (c :: p) x = (c : Rat) + x * rev p x from rfl]
    constructor <;> grind
theorem cop_big {a b : List Int} (ha : Tr a) (hb : Tr b) (h0 : a ≠ []) (hc : ∀ q, Tr q → Ed q a → Ed q b → q.length ≤ 1) (s t : Rat) : ∃ ε : Rat, 0 < ε ∧ ∀ x, s ≤ x → x ≤ t → Big ε x (rev a) ∨ Big ε x (rev b) := by
  obtain ⟨g, A, B, g1, g2, g3, g4⟩ := bezout _ a b ha hb (Nat.le_refl _)
  have hl := hc g g1 g2 g3
  have hg := (g2.len g1 ha h0).1
  match g, hg, hl, g1, g4 with
  | [c], _, _, g1, g4 =>
    have hc0 : c ≠ 0 := g1.mem (by simp)
    obtain ⟨P, p1, p2⟩ := rev_b s t A
    obtain ⟨Q, q1, q2⟩ := rev_b s t B
    obtain ⟨ε, e1, e2, e3⟩ := ex_small (show (0 : Rat) < 1 by decide) (show 0 < (P + Q) + (P + Q) by grind) (show (0 : Rat) < 1 by decide)
    refine ⟨ε, e1, fun x hs ht => ?_⟩
    by_cases h1 : Big ε x (rev a)
    · exact .inl h1
    · by_cases h2 : Big ε x (rev b)
      · exact .inr h2
      · exfalso
        obtain ⟨a1, a2⟩ := not_big h1
        obtain ⟨b1, b2⟩ := not_big h2
        obtain ⟨c1, c2⟩ := p2 x hs ht
        obtain ⟨d1, d2⟩ := q2 x hs ht
        obtain ⟨u1, u2⟩ := qg_le c1 c2 a1 a2 (by grind)
        obtain ⟨v1, v2⟩ := qg_le d1 d2 b1 b2 (by grind)
        have h4 := g4 x
        rw [rev_one] at h4
        have h5 : (c : Rat) ≤ -1 ∨ 1 ≤ (c : Rat) := by
          rcases Int.lt_or_gt_of_ne hc0 with h | h
          · left; have : ((c : Int) : Rat) ≤ ((-1 : Int) : Rat) := by exact_mod_cast (show c ≤ -1 by omega)
            rwa [show (((-1 : Int)) : Rat) = -1 from rfl] at this
          · right; have : 1 ≤ c := by omega
            exact_mod_cast this
        rcases h5 with h5 | h5 <;> grind
  | c :: d :: r, _, h9, _, _ => simp at h9
theorem Big.near {ε x y : Rat} {f : Rat → Rat} (h : Big ε x f) (h1 : f x - f y ≤ ε / 2) (h2 : f y - f x ≤ ε / 2) : Big (ε / 2) y f := by
  unfold Big at *; grind
end Go.Sky
namespace Go.Sky
set_option linter.unusedVariables false
theorem rsg_neg_iff (x : Rat) : rsg x = -1 ↔ x < 0 := by
  unfold rsg
  by_cases h : x < 0
  · rw [if_pos h]; simp [h]
  · rw [if_neg h]
    by_cases h2 : x = 0
    · rw [if_pos h2]; simp [h]
    · rw [if_neg h2]; simp [h]
theorem rsg_neg' (x : Rat) : rsg (-x) = - rsg x := by
  unfold rsg
  by_cases h : x < 0
  · rw [if_pos h, if_neg (by grind), if_neg (by grind)]; rfl
  · rw [if_neg h]
    by_cases h2 : x = 0
    · rw [if_pos h2, if_neg (by grind), if_pos (by grind)]; rfl
    · rw [if_neg h2, if_pos (by grind)]
theorem vat_cons2 {f g : Rat → Rat} (r : List (Rat → Rat)) {x : Rat} (h : rsg (g x) ≠ 0) : vat (f :: g :: r) x = vat (g :: r) x + (if rsg (f x) = - rsg (g x) then 1 else 0) := by
  unfold vat
  simp only [List.map_cons]
  exact chg_two _ h
def Tay (s t M : Rat) (p : List Int) : Prop := ∀ x y, s ≤ x → x ≤ y → y ≤ t → -(M * (y - x) * (y - x)) ≤ rev p y - rev p x - (y - x) * rev (ld p) x ∧ rev p y - rev p x - (y - x) * rev (ld p) x ≤ M * (y - x) * (y - x)
theorem sturm_step0 {s t : Rat} {f : Nat} {a b : List Int} (ha : Tr a) (hb : Tr b) (hok : cok f a b) {κ : Rat} (hκ : 0 < κ) (hder : ∀ x, rev (ld a) x = κ * rev b x)
    {ε L L' M h : Rat} (e1 : 0 < ε) (e2 : ∀ x, s ≤ x → x ≤ t → Big ε x (rev a) ∨ Big ε x (rev b)) (l1 : 0 ≤ L) (l2 : Lip s t L (rev a)) (l1' : 0 ≤ L') (l2' : Lip s t L' (rev b)) (m1 : 0 ≤ M) (m2 : Tay s t M a)
    (h5 : 0 < h) (h3 : h * (L + L') ≤ ε / 2) (h7 : h * M ≤ κ * ε / 2) {u v : Rat} (hs : s ≤ u) (huv : u ≤ v) (ht : v ≤ t) (hh : v - u ≤ h) :
    vat ((schain f a b).map rev) u - vat ((schain f a b).map rev) v = crs (rev a) u v := by
  have hL : ∀ w, u ≤ w → w ≤ v → L * (w - u) ≤ ε / 2 ∧ L' * (w - u) ≤ ε / 2 := fun w q1 q2 => by
    have p1 := Rat.mul_nonneg (a := L) (b := h - (w - u)) (by grind) (by grind)
    have p2 := Rat.mul_nonneg (a := L') (b := h - (w - u)) (by grind) (by grind)
    have p3 := Rat.mul_nonneg (a := L) (b := h) (by grind) (by grind)
    have p4 := Rat.mul_nonneg (a := L') (b := h) (by grind) (by grind)
    constructor <;> grind
  by_cases hba : Big ε u (rev a)
  · have hB : ∀ w, u ≤ w → w ≤ v → Big (ε / 2) w (rev a) := fun w q1 q2 => by
      obtain ⟨x1, x2⟩ := l2 u w hs q1 (by grind)
      have := hL w q1 q2
      exact hba.near (by grind) (by grind)
    rw [schain_const ha hb hok huv (show 0 < ε / 2 by grind) hB]
    have hv := hB v huv (by grind)
    have : crs (rev a) u v = 0 := by
      unfold crs
      refine if_neg fun ⟨_, h9⟩ => ?_
      obtain ⟨x1, x2⟩ := l2 u v hs huv ht
      have hLv := hL v huv (by grind)
      unfold Big at hba hv
      rcases hba with hp | hp
      · have : 0 < rev a v := by grind
        have := Rat.mul_pos (show 0 < rev a u by grind) this
        grind
      · have : 0 < - rev a v := by grind
        have := Rat.mul_pos (show 0 < - rev a u by grind) this
        grind
    omega
  · have hbb : Big ε u (rev b) := (e2 u hs (by grind)).resolve_left hba
    have hB : ∀ w, u ≤ w → w ≤ v → Big (ε / 2) w (rev b) := fun w q1 q2 => by
      obtain ⟨x1, x2⟩ := l2' u w hs q1 (by grind)
      have := hL w q1 q2
      exact hbb.near (by grind) (by grind)
    have hb0 : b ≠ [] := fun e => by
      rw [e] at hbb; unfold Big at hbb
      have : rev [] u = 0 := rfl
      rw [this] at hbb; grind
    obtain ⟨g, hg, hd, hle, hcg, hsc⟩ := cok_step hok hb0
    have hT := schain_const hb (tr_snext ha) hcg huv (show 0 < ε / 2 by grind) hB
    obtain ⟨r, hr, _, _, _⟩ := rls_chain (s := u) (t := v) g b (snext a b) hb (tr_snext ha) hcg
    rw [hsc, hr]
    rw [hr] at hT
    simp only [List.map_cons] at hT ⊢
    have hsg : ∃ σ : Rat, (σ = 1 ∨ σ = -1) ∧ ε < σ * rev b u ∧ ∀ w, u ≤ w → w ≤ v → 0 < σ * rev b w := by
      unfold Big at hbb
      rcases hbb with hp | hp
      · refine ⟨1, .inl rfl, by grind, fun w q1 q2 => ?_⟩
        obtain ⟨x1, x2⟩ := l2' u w hs q1 (by grind)
        have := hL w q1 q2
        grind
      · refine ⟨-1, .inr rfl, by grind, fun w q1 q2 => ?_⟩
        obtain ⟨x1, x2⟩ := l2' u w hs q1 (by grind)
        have := hL w q1 q2
        grind
    obtain ⟨σ, hσ, hbu, hbw⟩ := hsg
    have hmono : u < v → σ * rev a u < σ * rev a v := fun hlt => by
      obtain ⟨y1, y2⟩ := m2 u v hs huv ht
      rw [hder u] at y1 y2
      have hd : 0 < v - u := by grind
      have z1 : M * (v - u) ≤ κ * ε / 2 := by
        have := Rat.mul_nonneg (a := M) (b := h - (v - u)) (by grind) (by grind)
        grind
      have z2 : 0 < κ * (σ * rev b u) - M * (v - u) := by
        have := Rat.mul_pos hκ (show 0 < σ * rev b u - ε by grind)
        have := Rat.mul_pos hκ e1
        grind
      have z3 := Rat.mul_pos hd z2
      rcases hσ with rfl | rfl <;> grind
    have hne : ∀ w, u ≤ w → w ≤ v → rsg (rev b w) ≠ 0 := fun w q1 q2 => by
      have := hbw w q1 q2
      rcases hσ with rfl | rfl
      · rw [rsg_pos (by grind)]; decide
      · rw [rsg_neg (by grind)]; decide
    rw [vat_cons2 _ (hne u (by grind) huv), vat_cons2 _ (hne v huv (by grind)), hT]
    have hite : ∀ w, u ≤ w → w ≤ v → (rsg (rev a w) = - rsg (rev b w) ↔ σ * rev a w < 0) := fun w q1 q2 => by
      have := hbw w q1 q2
      rcases hσ with rfl | rfl
      · rw [rsg_pos (x := rev b w) (by grind), rsg_neg_iff]
        constructor <;> intro <;> grind
      · rw [rsg_neg (x := rev b w) (by grind), show (-(-1 : Int)) = - -1 from rfl]
        have h9 := rsg_neg_iff (-(rev a w))
        rw [rsg_neg'] at h9
        constructor
        · intro h8
          have := h9.1 (by omega)
          grind
        · intro h8
          have := h9.2 (by grind)
          omega
    rw [show (if rsg (rev a u) = - rsg (rev b u) then (1 : Int) else 0) = if σ * rev a u < 0 then 1 else 0 from by simp only [hite u (by grind) huv]]
    rw [show (if rsg (rev a v) = - rsg (rev b v) then (1 : Int) else 0) = if σ * rev a v < 0 then 1 else 0 from by simp only [hite v huv (by grind)]]
    have hcrs : crs (rev a) u v = if σ * rev a u < 0 ∧ ¬ σ * rev a v < 0 then 1 else 0 := by
      unfold crs
      have hpp : rev a u * rev a v = (σ * rev a u) * (σ * rev a v) := by rcases hσ with rfl | rfl <;> grind
      have hz : rev a u ≠ 0 ↔ σ * rev a u ≠ 0 := by rcases hσ with rfl | rfl <;> constructor <;> intro h9 h8 <;> exact h9 (by grind)
      have hiff : (rev a u ≠ 0 ∧ rev a u * rev a v ≤ 0) ↔ (σ * rev a u < 0 ∧ ¬ σ * rev a v < 0) := by
        rw [hpp, hz]
        generalize hp : σ * rev a u = p at *
        generalize hq : σ * rev a v = q at *
        constructor
        · intro ⟨n1, n2⟩
          rcases (show u < v ∨ u = v by grind) with hlt | heq
          · have := hmono hlt
            rcases (show p < 0 ∨ 0 < p by grind) with n3 | n3
            · refine ⟨n3, fun n4 => ?_⟩
              have := Rat.mul_pos (show 0 < -p by grind) (show 0 < -q by grind)
              grind
            · have := Rat.mul_pos n3 (show 0 < q by grind)
              grind
          · exfalso
            have : q = p := by rw [← hp, ← hq, heq]
            rw [this] at n2
            rcases (show p < 0 ∨ 0 < p by grind) with n3 | n3
            · have := Rat.mul_pos (show 0 < -p by grind) (show 0 < -p by grind)
              grind
            · have := Rat.mul_pos n3 n3
              grind
        · intro ⟨n1, n2⟩
          refine ⟨by grind, ?_⟩
          have := Rat.mul_nonneg (show 0 ≤ -p by grind) (show 0 ≤ q by grind)
          grind
      simp only [hiff]
    rw [hcrs]
    by_cases k1 : σ * rev a u < 0 <;> by_cases k2 : σ * rev a v < 0
    · simp [k1, k2]
    · simp [k1, k2]
      omega
    · exfalso
      rcases (show u < v ∨ u = v by grind) with hlt | heq
      · have := hmono hlt; grind
      · rw [heq] at k1; exact k1 k2
    · simp [k1, k2]
theorem sturm_step {s t : Rat} {f : Nat} {a b : List Int} (ha : Tr a) (hb : Tr b) (h0 : a ≠ []) (hok : cok f a b) {κ : Rat} (hκ : 0 < κ) (hder : ∀ x, rev (ld a) x = κ * rev b x) (hc : ∀ q, Tr q → Ed q a → Ed q b → q.length ≤ 1) :
    ∃ h : Rat, 0 < h ∧ ∀ u v, s ≤ u → u ≤ v → v ≤ t → v - u ≤ h → vat ((schain f a b).map rev) u - vat ((schain f a b).map rev) v = crs (rev a) u v := by
  obtain ⟨ε, e1, e2⟩ := cop_big ha hb h0 hc s t
  obtain ⟨L, l1, l2⟩ := rev_lip s t a
  obtain ⟨L', l1', l2'⟩ := rev_lip s t b
  obtain ⟨M, m1, m2⟩ := rev_tay s t a
  obtain ⟨h1, h2, h3, h4⟩ := ex_small (show (0 : Rat) < 1 by decide) (show 0 < L + L' by grind) (show 0 < ε / 2 by grind)
  obtain ⟨h, h5, h6, h7⟩ := ex_small h2 m1 (show 0 < κ * ε / 2 by have := Rat.mul_pos hκ e1; grind)
  refine ⟨h, h5, fun u v hs huv ht hh => sturm_step0 ha hb hok hκ hder e1 e2 (by grind) l2 (by grind) l2' (by grind) m2 h5 ?_ h7 hs huv ht hh⟩
  have := Rat.mul_nonneg (a := L + L') (b := h1 - h) (by grind) (by grind)
  grind
end Go.Sky
namespace Go.Sky
set_option linter.unusedVariables false
theorem inj_le : ∀ (n m : Nat) (f : Nat → Nat), (∀ k, k < n → f k < m) → (∀ a b, a < n → b < n → f a = f b → a = b) → n ≤ m
  | 0, _, _, _, _ => Nat.zero_le _
  | n + 1, m, f, hf, hi => by
    have h0 := hf n (by omega)
    have := inj_le n (m - 1) (fun k => if f n < f k then f k - 1 else f k) (fun k hk => by
      have h1 := hf k (by omega)
      have h2 : f k ≠ f n := fun e => by have := hi k n (by omega) (by omega) e; omega
      split <;> omega) (fun a b ha hb e => by
      have h2 : f a ≠ f n := fun e => by have := hi a n (by omega) (by omega) e; omega
      have h3 : f b ≠ f n := fun e => by have := hi b n (by omega) (by omega) e; omega
      refine hi a b (by omega) (by omega) ?_
      split at e <;> split at e <;> omega)
    omega
theorem php {n m : Nat} {f : Nat → Nat} (h : m < n) (hf : ∀ k, k < n → f k < m) : ∃ a b, a < n ∧ b < n ∧ a ≠ b ∧ f a = f b := by
  refine Classical.byContradiction fun h9 => ?_
  have := inj_le n m f hf fun a b ha hb e => Classical.byContradiction fun h8 => h9 ⟨a, b, ha, hb, h8, e⟩
  omega
def enc (B : Nat) (d : Nat → Nat) : Nat → Nat
  | 0 => 0
  | n + 1 => enc B d n + d n * B ^ n
theorem enc_lt {B : Nat} {d : Nat → Nat} : ∀ n, (∀ i, i < n → d i < B) → enc B d n < B ^ n
  | 0, _ => by simp [enc]
  | n + 1, h => by
    have h1 := enc_lt n fun i hi => h i (by omega)
    have h2 := h n (by omega)
    have h3 : (d n + 1) * B ^ n ≤ B * B ^ n := Nat.mul_le_mul_right _ h2
    rw [Nat.add_mul, Nat.one_mul] at h3
    rw [Nat.pow_succ, Nat.mul_comm (B ^ n) B]
    show enc B d n + d n * B ^ n < _
    omega
theorem enc_inj {B : Nat} {d e : Nat → Nat} : ∀ n, (∀ i, i < n → d i < B) → (∀ i, i < n → e i < B) → enc B d n = enc B e n → ∀ i, i < n → d i = e i
  | 0, _, _, _, i, hi => absurd hi (Nat.not_lt_zero i)
  | n + 1, h1, h2, h, i, hi => by
    have a1 := enc_lt n fun i hi => h1 i (by omega)
    have a2 := enc_lt n fun i hi => h2 i (by omega)
    have h : enc B d n + d n * B ^ n = enc B e n + e n * B ^ n := h
    have hp : 0 < B ^ n := by omega
    have hd : d n = e n := by
      have b1 : (enc B d n + d n * B ^ n) / B ^ n = d n := by rw [Nat.add_mul_div_right _ _ hp, Nat.div_eq_of_lt a1, Nat.zero_add]
      have b2 : (enc B e n + e n * B ^ n) / B ^ n = e n := by rw [Nat.add_mul_div_right _ _ hp, Nat.div_eq_of_lt a2, Nat.zero_add]
      rw [← b1, ← b2, h]
    rcases Nat.lt_or_ge i n with h3 | h3
    · exact enc_inj n (fun i hi => h1 i (by omega)) (fun i hi => h2 i (by omega)) (by rw [hd] at h; omega) i h3
    · rw [show i = n by omega]; exact hd
def dig (B k j : Nat) : Nat := k / B ^ j % B
theorem enc_dig (B k : Nat) : ∀ n, enc B (dig B k) n = k % B ^ n
  | 0 => by simp [enc, Nat.mod_one]
  | n + 1 => by
    show enc B (dig B k) n + dig B k n * B ^ n = _
    rw [enc_dig B k n, Nat.pow_succ, Nat.mod_mul]
    unfold dig; rw [Nat.mul_comm]
theorem sumTo_le {f : Nat → Int} {C : Int} : ∀ n, (∀ i, i < n → -C ≤ f i ∧ f i ≤ C) → -((n : Int) * C) ≤ sumTo f n ∧ sumTo f n ≤ (n : Int) * C
  | 0, _ => by simp [sumTo_zero]
  | n + 1, h => by
    have h1 := sumTo_le n fun i hi => h i (by omega)
    have h2 := h n (by omega)
    have h3 : ((n + 1 : Nat) : Int) * C = (n : Int) * C + C := by push_cast; grind
    rw [sumTo_succ, h3]; omega
theorem sumTo_sub (f g : Nat → Int) : ∀ n, sumTo (fun i => f i - g i) n = sumTo f n - sumTo g n
  | 0 => by simp [sumTo_zero]
  | n + 1 => by rw [sumTo_succ, sumTo_succ, sumTo_succ, sumTo_sub f g n]; omega
theorem siegel {N M A : Nat} (hMN : M < N) (hA : 0 < A) (c : Nat → Nat → Int) (hc : ∀ i j, i < M → j < N → (c i j).natAbs ≤ A) :
    ∃ x : Nat → Int, (∃ j, j < N ∧ x j ≠ 0) ∧ (∀ j, j < N → (x j).natAbs ≤ (2 * N * A) ^ M) ∧ ∀ i, i < M → sumTo (fun j => c i j * x j) N = 0 := by
  generalize hX : (2 * N * A) ^ M = X
  generalize hW : N * (A * X) = W
  let d := fun k j => dig (X + 1) k j
  have hd : ∀ k j, d k j ≤ X := fun k j => Nat.le_of_lt_succ (Nat.mod_lt _ (Nat.succ_pos X))
  let y := fun k i => sumTo (fun j => c i j * (d k j : Int)) N
  have hy : ∀ k i, i < M → -(W : Int) ≤ y k i ∧ y k i ≤ (W : Int) := fun k i hi => by
    have h1 := sumTo_le (f := fun j => c i j * (d k j : Int)) (C := ((A * X : Nat) : Int)) N fun j hj => by
      have h2 := hc i j hi hj
      have h3 : (c i j * (d k j : Int)).natAbs ≤ A * X := by
        rw [Int.natAbs_mul, Int.natAbs_natCast]; exact Nat.mul_le_mul h2 (hd k j)
      omega
    have h4 : ((N : Int) * ((A * X : Nat) : Int)) = (W : Int) := by rw [← hW]; push_cast; rfl
    rw [h4] at h1; exact h1
  let e := fun k => enc (2 * W + 1) (fun i => (y k i + (W : Int)).toNat) M
  have he : ∀ k i, i < M → (y k i + (W : Int)).toNat < 2 * W + 1 := fun k i hi => by have := hy k i hi; omega
  have hlt : (2 * W + 1) ^ M < (X + 1) ^ N := by
    have h1 : 2 * W + 1 ≤ (2 * N * A) * (X + 1) := by
      have : 0 < N * A := Nat.mul_pos (by omega) hA
      have e1 : 2 * N * A * (X + 1) = 2 * W + 2 * (N * A) := by rw [← hW]; grind
      omega
    have h2 := Nat.pow_le_pow_left h1 M
    rw [Nat.mul_pow, hX] at h2
    have h3 : (X + 1) ^ (M + 1) ≤ (X + 1) ^ N := Nat.pow_le_pow_right (by omega) (by omega)
    rw [Nat.pow_succ] at h3
    have h4 : 0 < (X + 1) ^ M := Nat.pow_pos (by omega)
    have h5 : X * (X + 1) ^ M < (X + 1) ^ M * (X + 1) := by rw [Nat.mul_comm]; exact Nat.mul_lt_mul_of_pos_left (by omega) h4
    omega
  obtain ⟨a, b, ha, hb, hab, hf⟩ := php (f := e) hlt (fun k _ => enc_lt M (he k))
  have hyy := enc_inj M (he a) (he b) hf
  refine ⟨fun j => (d a j : Int) - (d b j : Int), ?_, fun j _ => ?_, fun i hi => ?_⟩
  · refine Classical.byContradiction fun h9 => hab ?_
    have h8 : ∀ j, j < N → d a j = d b j := fun j hj => Classical.byContradiction fun h7 => h9 ⟨j, hj, fun h6 => h7 (by have h6 : (d a j : Int) - (d b j : Int) = 0 := h6; omega)⟩
    have e1 := enc_dig (X + 1) a N
    have e2 := enc_dig (X + 1) b N
    rw [Nat.mod_eq_of_lt ha] at e1
    rw [Nat.mod_eq_of_lt hb] at e2
    have e3 : ∀ n, n ≤ N → enc (X + 1) (dig (X + 1) a) n = enc (X + 1) (dig (X + 1) b) n := fun n => by
      induction n with
      | zero => intro _; rfl
      | succ n ih =>
        intro hn
        have h7 : dig (X + 1) a n = dig (X + 1) b n := h8 n (by omega)
        show enc _ _ n + dig (X + 1) a n * _ = enc _ _ n + dig (X + 1) b n * _
        rw [ih (by omega), h7]
    rw [← e1, ← e2]; exact e3 N (Nat.le_refl _)
  · have h1 := hd a j
    have h2 := hd b j
    dsimp only; omega
  · have h1 : sumTo (fun j => c i j * ((d a j : Int) - (d b j : Int))) N = y a i - y b i := by
      rw [← sumTo_sub]; exact sumTo_congr fun j _ => by grind
    rw [h1]
    have h2 := hyy i hi
    have h3 := hy a i hi
    have h4 := hy b i hi
    omega
end Go.Sky
namespace Go.Sky
set_option linter.unusedVariables false
theorem sumTo_split (f : Nat → Int) (p : Nat) : ∀ q, sumTo f (p + q) = sumTo f p + sumTo (fun k => f (p + k)) q
  | 0 => by simp [sumTo_zero]
  | q + 1 => by rw [← Nat.add_assoc, sumTo_succ, sumTo_succ, sumTo_split f p q]; omega
def sft (a : List Int) (t k : Nat) : Int := if k ≤ t then cf a (t - k) else 0
theorem conv_sft {U a : List Int} {p : Nat} (h : U.length = p) (t : Nat) : (ps U * ps a).c t = sumTo (fun k => sft a t k * cf U k) p := by
  rw [← acc_conv, ← h]
  refine sumTo_congr fun k _ => ?_
  unfold sft; split <;> grind
theorem conv_high {U a : List Int} {p t : Nat} (h : U.length ≤ p) (ht : p + a.length ≤ t + 1) : (ps U * ps a).c t = 0 := by
  rw [PS.mul_c]
  refine sumTo_z fun k hk => ?_
  rw [ps_c, ps_c]
  rcases Nat.lt_or_ge k U.length with h1 | h1
  · rw [cf_ge (p := a) (by omega), Int.mul_zero]
  · rw [cf_ge h1, Int.zero_mul]
theorem siegel_poly {a b : List Int} {p q lo A : Nat} (hA : 0 < A) (ha : ∀ i, (cf a i).natAbs ≤ A) (hb : ∀ i, (cf b i).natAbs ≤ A) (h0 : 0 < p + q) (h1 : p + a.length ≤ p + q + lo) (h2 : q + b.length ≤ p + q + lo) :
    ∃ U V : List Int, U.length = p ∧ V.length = q ∧ ((∃ i, cf U i ≠ 0) ∨ ∃ i, cf V i ≠ 0) ∧ (∀ i, (cf U i).natAbs ≤ (2 * (p + q) * A) ^ (p + q - 1)) ∧ (∀ i, (cf V i).natAbs ≤ (2 * (p + q) * A) ^ (p + q - 1)) ∧
      ∀ t, lo ≤ t → (ps U * ps a).c t + (ps V * ps b).c t = 0 := by
  obtain ⟨x, ⟨j, hj, hne⟩, hx, he⟩ := siegel (N := p + q) (M := p + q - 1) (A := A) (by omega) hA (fun i j => if j < p then sft a (lo + i) j else sft b (lo + i) (j - p)) (fun i j _ _ => by
    split <;> unfold sft <;> split
    · exact ha _
    · simp
    · exact hb _
    · simp)
  have cU : ∀ i, cf (mk p x) i = if i < p then x i else 0 := fun i => cf_mk _ _ _
  have cV : ∀ i, cf (mk q fun k => x (p + k)) i = if i < q then x (p + i) else 0 := fun i => cf_mk _ _ _
  refine ⟨mk p x, mk q fun k => x (p + k), length_mk _ _, length_mk _ _, ?_, fun i => ?_, fun i => ?_, fun t ht => ?_⟩
  · rcases Nat.lt_or_ge j p with h | h
    · exact .inl ⟨j, by rw [cU, if_pos h]; exact hne⟩
    · exact .inr ⟨j - p, by rw [cV, if_pos (by omega), show p + (j - p) = j by omega]; exact hne⟩
  · rw [cU]; split
    · exact hx i (by omega)
    · exact Nat.zero_le _
  · rw [cV]; split
    · exact hx _ (by omega)
    · exact Nat.zero_le _
  · rcases Nat.lt_or_ge (t - lo) (p + q - 1) with h | h
    · have h3 := he (t - lo) h
      rw [show lo + (t - lo) = t by omega, sumTo_split] at h3
      rw [conv_sft (length_mk _ _), conv_sft (length_mk _ _), ← h3]
      congr 1
      · exact sumTo_congr fun k hk => by rw [if_pos hk, cU, if_pos hk]
      · exact sumTo_congr fun k hk => by rw [if_neg (by omega), cV, if_pos hk, show p + k - p = k by omega]
    · rw [conv_high (Nat.le_of_eq (length_mk _ _)) (by omega), conv_high (Nat.le_of_eq (length_mk _ _)) (by omega)]; rfl
theorem conv_le {U a : List Int} {p t X A : Nat} (h : U.length = p) (hU : ∀ i, (cf U i).natAbs ≤ X) (ha : ∀ i, (cf a i).natAbs ≤ A) : ((ps U * ps a).c t).natAbs ≤ p * (X * A) := by
  rw [conv_sft h]
  have h1 := sumTo_le (f := fun k => sft a t k * cf U k) (C := ((X * A : Nat) : Int)) p fun k _ => by
    have : (sft a t k * cf U k).natAbs ≤ X * A := by
      rw [Int.natAbs_mul, Nat.mul_comm]
      refine Nat.mul_le_mul (hU k) ?_
      unfold sft; split
      · exact ha _
      · simp
    omega
  have h2 : ((p : Int) * ((X * A : Nat) : Int)) = ((p * (X * A) : Nat) : Int) := by push_cast; rfl
  rw [h2] at h1; omega
end Go.Sky
namespace Go.Sky
set_option linter.unusedVariables false
theorem prod_len {w q y : List Int} {n : Nat} (h : ∀ x, rev w x = rev q x * rev y x) (hy : Tr y) (h0 : y ≠ []) (hn : ∀ i, n ≤ i → cf w i = 0) : tzl q = [] ∨ (tzl q).length + y.length ≤ n + 1 := by
  by_cases hq : tzl q = []
  · exact .inl hq
  · right
    have hc : ∀ i, cf w i = (ps (tzl q) * ps y).c i := fun i => by
      rw [rev_inj (p := w) (q := lmul (tzl q) y) (fun x => by rw [rev_lmul, rev_tzl]; exact h x) i, cf_lmul, PS.mul_c]; rfl
    have l1 := List.length_pos_iff.2 hq
    have l2 := List.length_pos_iff.2 h0
    have ht := conv_top (p := tzl q) (q := y) (a := (tzl q).length - 1) (b := y.length - 1) (fun i hi => cf_ge (by omega)) (fun i hi => cf_ge (by omega))
    rw [← hc] at ht
    have hne := Int.mul_ne_zero ((tr_tzl q).mem hq) (hy.mem h0)
    rcases Nat.lt_or_ge ((tzl q).length - 1 + (y.length - 1)) n with h9 | h9
    · omega
    · rw [hn _ h9] at ht; exact absurd ht.symm hne
theorem mul_zero_rev {v f : List Int} (hv : tzl v ≠ []) (h : ∀ x, rev v x * rev f x = 0) (x : Rat) : rev f x = 0 := by
  by_cases hf : tzl f = []
  · rw [← rev_tzl, hf]; rfl
  · exfalso
    rcases prod_len (w := []) (q := v) (y := tzl f) (n := 0) (fun x => by rw [rev_tzl, h x]; rfl) (tr_tzl f) hf (fun i _ => cf_nil i) with h9 | h9
    · exact hv h9
    · have := List.length_pos_iff.2 hf
      have := List.length_pos_iff.2 hv
      omega
structure Inv (a b x y : List Int) : Prop where
  ex : ∃ (α β γ : Int) (u' v' u v : List Int), α ≠ 0 ∧ β ≠ 0 ∧ γ ≠ 0 ∧
    (∀ t : Rat, (α : Rat) * rev x t = rev u' t * rev a t + rev v' t * rev b t) ∧ (∀ t : Rat, (β : Rat) * rev y t = rev u t * rev a t + rev v t * rev b t) ∧
    (∀ t : Rat, rev u' t * rev v t - rev u t * rev v' t = (γ : Rat)) ∧ (tzl v).length ≤ a.length - x.length + 1 ∧ (tzl v').length ≤ a.length - x.length + 1
  xl : x.length ≤ b.length
  yl : y.length < x.length
theorem quo_len {x q y z : List Int} {L : Int} {c : Int} (hy : Tr y) (h0 : y ≠ []) (hz : z.length ≤ x.length) (h : ∀ t : Rat, (L : Rat) * rev x t = rev q t * rev y t + (c : Rat) * rev z t) : tzl q = [] ∨ (tzl q).length + y.length ≤ x.length + 1 :=
  prod_len (w := ladd (x.map fun a => L * a) (z.map fun a => (-c) * a)) (n := x.length) (fun t => by rw [rev_ladd, rev_smul, rev_smul]; have := h t; push_cast; grind) hy h0 fun i hi => by
    rw [cf_ladd, cf_smul, cf_smul, cf_ge hi, cf_ge (p := z) (by omega)]; omega
theorem len_lmul_le {p q : List Int} {m n : Nat} (hp : (tzl p).length ≤ m) (hq : (tzl q).length ≤ n) (i : Nat) (hi : m + n ≤ i + 1) : cf (lmul p q) i = 0 := by
  have h1 : cf (lmul p q) i = cf (lmul (tzl p) (tzl q)) i := rev_inj (fun x => by rw [rev_lmul, rev_lmul, rev_tzl, rev_tzl]) i
  rw [h1, cf_lmul]
  have h2 := conv_high (U := tzl p) (a := tzl q) (p := m) (t := i) hp (by omega)
  rw [PS.mul_c] at h2
  exact h2
theorem tzl_len {p : List Int} {n : Nat} (h : ∀ i, n ≤ i → cf p i = 0) : (tzl p).length ≤ n := tzl_len_le h
theorem cf_high {p : List Int} {n i : Nat} (h : (tzl p).length ≤ n) (hi : n ≤ i) : cf p i = 0 := by
  rw [← cf_tzl]; exact cf_ge (by omega)
theorem Inv.next {a b x y z z' q : List Int} {L : Int} (hI : Inv a b x y) (hab : b.length ≤ a.length) (hx : Tr x) (hy : Tr y) (h0 : y ≠ []) (hL : L ≠ 0) (h : ∀ t : Rat, (L : Rat) * rev x t = rev q t * rev y t + rev z' t) (hz : Sim z' z) (hzl : z.length < y.length) : Inv a b y z := by
  obtain ⟨⟨α, β, γ, u', v', u, v, hα, hβ, hγ, e1, e2, e3, l1, l2⟩, xl, yl⟩ := hI
  obtain ⟨m, n, hm, hn, hs⟩ := hz
  have hs' : ∀ t : Rat, (m : Rat) * rev z' t = (n : Rat) * rev z t := fun t => by
    have := rev_ext t (z'.map fun a => m * a) (z.map fun a => n * a) fun i => by rw [cf_smul, cf_smul, hs]
    rwa [rev_smul, rev_smul] at this
  have h9 : ∀ t : Rat, ((L * m : Int) : Rat) * rev x t = rev (q.map fun a => m * a) t * rev y t + (n : Rat) * rev z t := fun t => by
    rw [rev_smul]; push_cast
    have := h t; have := hs' t; grind
  have hql := quo_len hy h0 (by omega) h9
  have hqz : (tzl (q.map fun a => m * a)).length ≤ x.length - y.length + 1 := by
    rcases hql with hq | hq
    · rw [hq]; simp
    · omega
  generalize hQ : (q.map fun a => m * a) = Q at *
  have key : ∀ t : Rat, ((n * (α * β) : Int) : Rat) * rev z t = rev (ladd (u'.map fun c => (L * m * β) * c) ((lmul Q u).map fun c => (-α) * c)) t * rev a t + rev (ladd (v'.map fun c => (L * m * β) * c) ((lmul Q v).map fun c => (-α) * c)) t * rev b t := fun t => by
    rw [rev_ladd, rev_ladd, rev_smul, rev_smul, rev_smul, rev_smul, rev_lmul, rev_lmul]
    have a1 := h9 t; have a2 := e1 t; have a3 := e2 t
    push_cast at a1 ⊢
    have : (n : Rat) * (α * β) * rev z t = α * β * (n * rev z t) := by grind
    rw [this, show (n : Rat) * rev z t = L * m * rev x t - rev Q t * rev y t by grind]
    have : (α : Rat) * β * (L * m * rev x t - rev Q t * rev y t) = L * m * β * (α * rev x t) - α * rev Q t * (β * rev y t) := by grind
    rw [this, a2, a3]; grind
  refine ⟨⟨β, n * (α * β), -(L * m * β * γ), u, v, _, _, hβ, Int.mul_ne_zero hn (Int.mul_ne_zero hα hβ), ?_, e2, key, fun t => ?_, ?_, ?_⟩, by omega, hzl⟩
  · have := Int.mul_ne_zero (Int.mul_ne_zero (Int.mul_ne_zero hL hm) hβ) hγ; omega
  · rw [rev_ladd, rev_ladd, rev_smul, rev_smul, rev_smul, rev_smul, rev_lmul, rev_lmul]
    have := e3 t; push_cast; grind
  · refine tzl_len fun i hi => ?_
    rw [cf_ladd, cf_smul, cf_smul, cf_high (p := v') l2 (by omega), len_lmul_le hqz l1 i (by omega)]; omega
  · omega
theorem Inv.first {a b z z' q : List Int} {L : Int} (hab : b.length ≤ a.length) (ha : Tr a) (hb : Tr b) (h0 : b ≠ []) (hL : L ≠ 0) (h : ∀ t : Rat, (L : Rat) * rev a t = rev q t * rev b t + rev z' t) (hz : Sim z' z) (hzl : z.length < b.length) : Inv a b b z := by
  obtain ⟨m, n, hm, hn, hs⟩ := hz
  have hs' : ∀ t : Rat, (m : Rat) * rev z' t = (n : Rat) * rev z t := fun t => by
    have := rev_ext t (z'.map fun a => m * a) (z.map fun a => n * a) fun i => by rw [cf_smul, cf_smul, hs]
    rwa [rev_smul, rev_smul] at this
  have h9 : ∀ t : Rat, ((L * m : Int) : Rat) * rev a t = rev (q.map fun a => m * a) t * rev b t + (n : Rat) * rev z t := fun t => by
    rw [rev_smul]; push_cast
    have := h t; have := hs' t; grind
  have hql := quo_len hb h0 (by omega) h9
  have hqz : (tzl (q.map fun a => m * a)).length ≤ a.length - b.length + 1 := by
    rcases hql with hq | hq
    · rw [hq]; simp
    · omega
  generalize hQ : (q.map fun a => m * a) = Q at *
  refine ⟨⟨1, n, -(L * m), [], [1], [L * m], Q.map fun c => (-1) * c, by decide, hn, ?_, fun t => ?_, fun t => ?_, fun t => ?_, ?_, ?_⟩, Nat.le_refl _, hzl⟩
  · have := Int.mul_ne_zero hL hm; omega
  · rw [rev_one]; show _ = (0 : Rat) * _ + _; grind
  · rw [rev_one, rev_smul]; have := h9 t; push_cast at this ⊢; grind
  · rw [rev_one, rev_one]; show (0 : Rat) * _ - _ = _; push_cast; grind
  · refine tzl_len fun i hi => ?_
    rw [cf_smul, cf_high hqz (by omega)]; omega
  · refine Nat.le_trans (tzl_le _) ?_
    simp
end Go.Sky
namespace Go.Sky
set_option linter.unusedVariables false
theorem sz_pow {n : Nat} {a : List Int} (h : Sz n a) (i : Nat) : (cf a i).natAbs ≤ 2 ^ n := Nat.le_of_lt ((bl_le n _).1 (h i))
theorem rev_nonzero {p : List Int} (h : tzl p = []) (x : Rat) : rev p x = 0 := by rw [← rev_tzl, h]; rfl
theorem tzl_ne {p : List Int} {i : Nat} (h : cf p i ≠ 0) : tzl p ≠ [] := fun e => h ((tzl_nil_iff p).1 e i)
theorem nn_eq {x a b : Nat} (h1 : x ≤ b) (h2 : b ≤ a) : b - x + 1 + (a - x + 1) = a + b - 2 * x + 2 := by omega
theorem Inv.bound {a b x y : List Int} {n s : Nat} (hI : Inv a b x y) (hab : b.length ≤ a.length) (ha : Tr a) (hx : Tr x) (hy : Tr y) (h0 : y ≠ []) (hp : pcont y = 1) (na : Sz n a) (nb : Sz n b) (hs : a.length + b.length - 2 * x.length + 2 ≤ 2 ^ s) :
    msz y ≤ (s + 1 + n) * (a.length + b.length - 2 * x.length + 2) := by
  obtain ⟨⟨α, β, γ, u', v', u, v, hα, hβ, hγ, e1, e2, e3, l1, l2⟩, xl, yl⟩ := hI
  have hy1 := List.length_pos_iff.2 h0
  have hx0 : x ≠ [] := fun e => by rw [e] at yl; simp at yl
  have ha0 : a ≠ [] := fun e => by
    have h9 : a.length = 0 := by rw [e]; rfl
    omega
  obtain ⟨U, V, lU, lV, hne, bU, bV, hz⟩ := siegel_poly (a := a) (b := b) (p := b.length - x.length + 1) (q := a.length - x.length + 1) (lo := x.length - 1) (A := 2 ^ n) (Nat.pow_pos (by decide)) (sz_pow na) (sz_pow nb) (by omega) (by omega) (by omega)
  have hv : a.length + 1 ≤ (tzl v).length + x.length := by
    refine Classical.byContradiction fun h9 => ?_
    have hid : ∀ i, cf (ladd (a.map fun c => γ * c) ((lmul y v').map fun c => β * c)) i = cf (lmul (tzl v) (x.map fun c => α * c)) i := fun i => rev_inj (fun t => by
      rw [rev_ladd, rev_smul, rev_smul, rev_lmul, rev_lmul, rev_smul, rev_tzl]
      have a1 := e1 t; have a2 := e2 t; have a3 := e3 t
      have : rev v t * (α * rev x t) = (rev u' t * rev v t - rev u t * rev v' t) * rev a t + (rev u t * rev a t + rev v t * rev b t) * rev v' t := by rw [a1]; grind
      rw [this, a3, ← a2]; grind) i
    have h1 := hid (a.length - 1)
    rw [cf_ladd, cf_smul, cf_smul, len_lmul_le (m := y.length) (n := a.length - x.length + 1) (tzl_le _) l2 _ (by omega), cf_lmul] at h1
    have h2 := conv_high (U := tzl v) (a := x.map fun c => α * c) (p := (tzl v).length) (t := a.length - 1) (Nat.le_refl _) (by rw [List.length_map]; omega)
    rw [PS.mul_c] at h2
    have h3 : sumTo (fun k => cf (tzl v) k * cf (x.map fun c => α * c) (a.length - 1 - k)) (a.length - 1 + 1) = 0 := h2
    rw [h3] at h1
    have := Int.mul_ne_zero hγ (ha.mem ha0)
    omega
  have hvne : tzl v ≠ [] := fun e => by rw [e] at hv; simp at hv; omega
  have cR : ∀ i, cf (ladd (lmul U a) (lmul V b)) i = (ps U * ps a).c i + (ps V * ps b).c i := fun i => by
    rw [cf_ladd, cf_lmul, cf_lmul, PS.mul_c, PS.mul_c]; rfl
  generalize hR : ladd (lmul U a) (lmul V b) = R at cR
  have rR : ∀ t, rev R t = rev U t * rev a t + rev V t * rev b t := fun t => by rw [← hR, rev_ladd, rev_lmul, rev_lmul]
  have lR : (tzl R).length ≤ x.length - 1 := tzl_len fun i hi => by rw [cR]; exact hz i hi
  have hf : tzl (ladd (lmul U v) ((lmul u V).map fun c => (-1) * c)) = [] := by
    rcases prod_len (w := ladd (lmul R v) ((lmul y V).map fun c => (-β) * c)) (q := ladd (lmul U v) ((lmul u V).map fun c => (-1) * c)) (y := a) (n := a.length - 1) (fun t => by
      rw [rev_ladd, rev_smul, rev_lmul, rev_lmul, rev_ladd, rev_smul, rev_lmul, rev_lmul, rR]
      have a2 := e2 t
      push_cast
      have : (-(β : Rat)) * (rev y t * rev V t) = - (β * rev y t) * rev V t := by grind
      rw [this, a2]; grind) ha ha0 (fun i hi => by
      rw [cf_ladd, cf_smul, len_lmul_le lR l1 i (by omega), len_lmul_le (m := y.length) (n := a.length - x.length + 1) (tzl_le _) (Nat.le_trans (tzl_le _) (Nat.le_of_eq lV)) i (by omega)]; omega) with h9 | h9
    · exact h9
    · refine Classical.byContradiction fun h8 => ?_
      have := List.length_pos_iff.2 h8; omega
  have huv : ∀ t, rev U t * rev v t = rev u t * rev V t := fun t => by
    have := rev_nonzero hf t
    rw [rev_ladd, rev_smul, rev_lmul, rev_lmul] at this
    push_cast at this; grind
  have hRv : ∀ t, rev R t * rev v t = β * rev y t * rev V t := fun t => by
    rw [rR, e2 t]
    have := huv t; grind
  have hw : ∀ t, (γ : Rat) * rev V t = rev v t * rev (ladd (lmul u' V) ((lmul v' U).map fun c => (-1) * c)) t := fun t => by
    rw [rev_ladd, rev_smul, rev_lmul, rev_lmul, ← e3 t]
    have := huv t; push_cast; grind
  generalize ladd (lmul u' V) ((lmul v' U).map fun c => (-1) * c) = w at hw
  have hV : tzl V ≠ [] := fun e => by
    rcases hne with ⟨i, hi⟩ | ⟨i, hi⟩
    · refine hi (rev_inj (p := U) (q := []) (fun t => ?_) i ▸ cf_nil i)
      exact mul_zero_rev (v := v) (f := U) hvne (fun t => by have := huv t; rw [rev_nonzero e] at this; grind) t
    · exact tzl_ne hi e
  have hwl : ∃ c : Int, c ≠ 0 ∧ ∀ t, rev w t = (c : Rat) := by
    have hwne : tzl w ≠ [] := fun e => hV ((tzl_nil_iff V).2 fun i => by
      have := rev_inj (p := V.map fun c => γ * c) (q := []) (fun t => by rw [rev_smul, hw t, rev_nonzero e]; show _ = (0 : Rat); grind) i
      rw [cf_smul, cf_nil] at this
      exact (Int.mul_eq_zero.1 this).resolve_left hγ)
    rcases prod_len (w := V.map fun c => γ * c) (q := w) (y := tzl v) (n := a.length - x.length + 1) (fun t => by rw [rev_smul, rev_tzl, hw t]; grind) (tr_tzl v) hvne (fun i hi => by rw [cf_smul, cf_ge (by omega)]; omega) with h9 | h9
    · exact absurd h9 hwne
    · have h8 := List.length_pos_iff.2 hwne
      have h7 : (tzl w).length = 1 := by omega
      match hc : tzl w, h7 with
      | [c], _ =>
        refine ⟨c, ?_, fun t => by rw [← rev_tzl, hc, rev_one]⟩
        have := (tr_tzl w).mem hwne
        rw [hc] at this; exact this
  obtain ⟨c, hc0, hc⟩ := hwl
  have hsim : Sim R y := by
    refine ⟨γ, β * c, hγ, Int.mul_ne_zero hβ hc0, fun i => ?_⟩
    have := rev_inj (p := R.map fun d => γ * d) (q := y.map fun d => (β * c) * d) (fun t => by
      rw [rev_smul, rev_smul]; push_cast
      have h1 : rev (ladd (R.map fun d => γ * d) (y.map fun d => (-(β * c)) * d)) t = 0 := mul_zero_rev (v := v) hvne (fun t => by
        rw [rev_ladd, rev_smul, rev_smul]; push_cast
        have a1 := hRv t; have a2 := hw t; rw [hc] at a2
        have : rev v t * (γ * rev R t + -(β * c : Rat) * rev y t) = γ * (rev R t * rev v t) - β * rev y t * (rev v t * c) := by grind
        rw [this, a1, ← a2]; grind) t
      rw [rev_ladd, rev_smul, rev_smul] at h1
      push_cast at h1; grind) i
    rwa [cf_smul, cf_smul] at this
  have hsz : Sz ((s + 1 + n) * (a.length + b.length - 2 * x.length + 2)) R := fun i => by
    rw [cR]
    have c1 := conv_le (t := i) lU bU (sz_pow na)
    have c2 := conv_le (t := i) lV bV (sz_pow nb)
    have hN3 : b.length - x.length + 1 + (a.length - x.length + 1) = a.length + b.length - 2 * x.length + 2 := nn_eq xl hab
    rw [← hN3] at hs ⊢
    generalize hN : b.length - x.length + 1 + (a.length - x.length + 1) = N at *
    generalize hXX : (2 * N * 2 ^ n) ^ (N - 1) = X at *
    have c3 : ((ps U * ps a).c i + (ps V * ps b).c i).natAbs ≤ N * (X * 2 ^ n) := by
      rw [← hN, Nat.add_mul]
      have := Int.natAbs_add_le ((ps U * ps a).c i) ((ps V * ps b).c i)
      omega
    refine (bl_le _ _).2 (Nat.lt_of_le_of_lt c3 ?_)
    have hX0 : 0 < X := by rw [← hXX]; exact Nat.pow_pos (Nat.mul_pos (by omega) (Nat.pow_pos (by decide)))
    have c4 : N * (X * 2 ^ n) < (2 * N * 2 ^ n) ^ N := by
      have e : (2 * N * 2 ^ n) ^ N = X * (2 * N * 2 ^ n) := by
        rw [← hXX, ← Nat.pow_succ, Nat.succ_eq_add_one, show N - 1 + 1 = N by omega]
      rw [e]
      have : 0 < N * (X * 2 ^ n) := Nat.mul_pos (by omega) (Nat.mul_pos hX0 (Nat.pow_pos (by decide)))
      have e2 : X * (2 * N * 2 ^ n) = 2 * (N * (X * 2 ^ n)) := by grind
      omega
    have c5 : 2 * N * 2 ^ n ≤ 2 ^ (s + 1 + n) := by
      rw [Nat.pow_add, Nat.pow_succ]
      exact Nat.mul_le_mul_right _ (by omega)
    have c6 := Nat.pow_le_pow_left c5 N
    rw [← Nat.pow_mul] at c6
    exact Nat.lt_of_lt_of_le c4 c6
  have h1 : tzl R ≠ [] := fun e => by
    obtain ⟨m, k, hm, hk, e9⟩ := hsim
    have := e9 (y.length - 1)
    rw [(tzl_nil_iff R).1 e, Int.mul_zero] at this
    exact Int.mul_ne_zero hk (hy.mem h0) this.symm
  have hsim2 : Sim (tzl R) y := by
    obtain ⟨m, k, hm, hk, e9⟩ := hsim
    exact ⟨m, k, hm, hk, fun i => by rw [cf_tzl]; exact e9 i⟩
  have h2 := (sim_pprim (tr_tzl R)).trans hsim2
  have h3 : ∀ i, (cf y i).natAbs = (cf (pprim (tzl R)) i).natAbs := fun i => by
    rcases sim_sign (tr_pprim (tr_tzl R)) hy (fun e => h1 (List.eq_nil_of_length_eq_zero (by rw [← length_pprim, e]; rfl))) (pcont_pprim (tr_tzl R) h1) hp h2 with h9 | h9
    · rw [h9]
    · rw [h9 i, Int.natAbs_neg]
  exact msz_le fun i => by rw [h3]; exact sz_pprim hsz.tzl i
end Go.Sky
namespace Go.Sky
set_option linter.unusedVariables false
def numOK (la lb K : Nat) : Prop := ∀ l, l ≤ lb → (l + 1) * (K * (la + lb - 2 * l + 2) + 1) ≤ 65536
theorem cap_mono {la lb K l m : Nat} (h : l ≤ m) : K * (la + lb - 2 * m + 2) ≤ K * (la + lb - 2 * l + 2) := Nat.mul_le_mul_left _ (by omega)
theorem derr_cap {x y : List Int} {C : Nat} (hy : y ≠ []) (hl : y.length < x.length) (h1 : msz x ≤ C) (h2 : msz y ≤ C) (h : (x.length + 1) * (C + 1) ≤ 65536) : derr x y = 0 := by
  have l1 := List.length_pos_iff.2 hy
  unfold derr
  rw [if_neg (by omega), if_neg (by omega)]
  have h3 : (x.length - y.length + 1) * (msz y + 1) ≤ x.length * (C + 1) := Nat.mul_le_mul (by omega) (by omega)
  rw [Nat.add_mul, Nat.one_mul] at h
  rw [if_neg (by omega)]
theorem inv_prest {a b x y : List Int} (hI : Inv a b x y) (hab : b.length ≤ a.length) (hx : Tr x) (hy : Tr y) (h0 : y ≠ []) : Inv a b y (pprim (prest x y)) := by
  obtain ⟨k, s, hs⟩ := prest_id x h0
  have hL := int_pow_ne (hy.mem h0) k
  generalize cf y (y.length - 1) ^ k = L at hs hL
  have he : ∀ t : Rat, (L : Rat) * rev x t = rev s t * rev y t + rev (prest x y) t := fun t => by
    have := rel_rev (a := L) (c := -1) (x := x) (s := s) (y := y) (z := prest x y) (fun t => by rw [hs t]; omega) t
    push_cast at this; grind
  exact hI.next hab hx hy h0 hL he (sim_pprim (tr_prest hx)).symm (by rw [length_pprim]; exact length_prest_lt x h0)
theorem pcont_or {p : List Int} (h : Tr p) : pprim p = [] ∨ pcont (pprim p) = 1 := by
  by_cases h0 : p = []
  · left; rw [h0]; rfl
  · right; exact pcont_pprim h h0
theorem len_snext_lt {x y : List Int} (hx : Tr x) (h0 : y ≠ []) : (snext x y).length < y.length := by rw [length_snext hx]; exact length_prest_lt x h0
theorem inv_snext {a b x y : List Int} (hI : Inv a b x y) (hab : b.length ≤ a.length) (hx : Tr x) (hy : Tr y) (h0 : y ≠ []) : Inv a b y (snext x y) ∧ (snext x y = [] ∨ pcont (snext x y) = 1) := by
  have l0 := List.length_pos_iff.2 h0
  have hxy := hI.yl
  obtain ⟨r1, r2, k, u, hk⟩ := rrem_id hy h0 x.length x hx (by omega)
  have hs := snext_ref (f := x.length) hx hy h0 (by omega) (by omega)
  have htn : Tr (pneg (rrem x.length x y)) := tr_pscale _ _
  have hK : rabs y ^ k ≠ 0 := int_pow_ne (by have := rabs_pos hy h0; omega) _
  constructor
  · refine hI.next (z' := rrem x.length x y) (q := u) hab hx hy h0 hK (fun t => ?_) ?_ (len_snext_lt hx h0)
    · have := rel_rev (a := rabs y ^ k) (c := -1) (x := x) (s := u) (y := y) (z := rrem x.length x y) (fun t => by rw [hk t]; omega) t
      push_cast at this ⊢; grind
    · rw [← hs]
      exact Sim.trans ⟨1, -1, by decide, by decide, fun i => by rw [cf_pneg]; omega⟩ (sim_pprim htn).symm
  · rw [← hs]; exact pcont_or htn
theorem eok_inv {a b : List Int} {n s K : Nat} (hab : b.length ≤ a.length) (ha : Tr a) (na : Sz n a) (nb : Sz n b) (hs : a.length + b.length ≤ 2 ^ s) (hK : s + 1 + n ≤ K) (hN : numOK a.length b.length K) :
    ∀ (f : Nat) (x y : List Int), Inv a b x y → Tr x → Tr y → (y = [] ∨ pcont y = 1) → msz x ≤ K * (a.length + b.length - 2 * x.length + 2) → y.length ≤ f → eok f x y ∧ msz (eu f x y) ≤ K * (a.length + b.length)
  | 0, x, y, hI, hx, hy, hp, hm, hl => by
    have hxl := hI.yl
    refine ⟨List.eq_nil_of_length_eq_zero (by omega), Nat.le_trans hm (Nat.mul_le_mul_left _ (by have := hI.xl; omega))⟩
  | f + 1, x, y, hI, hx, hy, hp, hm, hl => by
    have hyl := hI.yl
    have hxl := hI.xl
    by_cases h0 : y = []
    · subst h0
      refine ⟨.inl rfl, ?_⟩
      rw [eu_nil]
      exact Nat.le_trans hm (Nat.mul_le_mul_left _ (by omega))
    · have l0 := List.length_pos_iff.2 h0
      have hb := hI.bound hab ha hx hy h0 (hp.resolve_left h0) na nb (s := s) (by omega)
      have hb2 : msz y ≤ K * (a.length + b.length - 2 * x.length + 2) := Nat.le_trans hb (Nat.mul_le_mul_right _ hK)
      have hd := derr_cap h0 hyl hm hb2 (hN x.length hxl)
      have ht := tr_prest (q := y) hx
      have ih := eok_inv hab ha na nb hs hK hN f y (pprim (prest x y)) (inv_prest hI hab hx hy h0) hy (tr_pprim ht) (pcont_or ht) (Nat.le_trans hb2 (cap_mono (by omega))) (by rw [length_pprim]; have := length_prest_lt x h0; omega)
      refine ⟨.inr ⟨hd, ih.1⟩, ?_⟩
      rw [show eu (f + 1) x y = eu f y (pprim (prest x y)) by conv => lhs; unfold eu
                                                              rw [if_neg h0]]
      exact ih.2
theorem cok_inv {a b : List Int} {n s K : Nat} (hab : b.length ≤ a.length) (ha : Tr a) (na : Sz n a) (nb : Sz n b) (hs : a.length + b.length ≤ 2 ^ s) (hK : s + 1 + n ≤ K) (hN : numOK a.length b.length K) :
    ∀ (f : Nat) (x y : List Int), Inv a b x y → Tr x → Tr y → (y = [] ∨ pcont y = 1) → msz x ≤ K * (a.length + b.length - 2 * x.length + 2) → y.length ≤ f → cok f x y ∧ ∀ p ∈ schain f x y, msz p ≤ K * (a.length + b.length) ∧ p.length ≤ a.length
  | 0, x, y, hI, hx, hy, hp, hm, hl => by
    have hxl := hI.yl
    have hxl2 := hI.xl
    have h0 : y = [] := List.eq_nil_of_length_eq_zero (by omega)
    refine ⟨h0, fun p hp => ?_⟩
    have : p = x := by unfold schain at hp; simpa using hp
    rw [this]
    exact ⟨Nat.le_trans hm (Nat.mul_le_mul_left _ (by omega)), by omega⟩
  | f + 1, x, y, hI, hx, hy, hp, hm, hl => by
    have hyl := hI.yl
    have hxl := hI.xl
    by_cases h0 : y = []
    · subst h0
      refine ⟨.inl rfl, fun p hp => ?_⟩
      rw [schain_nil] at hp
      have : p = x := by simpa using hp
      rw [this]
      exact ⟨Nat.le_trans hm (Nat.mul_le_mul_left _ (by omega)), by omega⟩
    · have l0 := List.length_pos_iff.2 h0
      have hb := hI.bound hab ha hx hy h0 (hp.resolve_left h0) na nb (s := s) (by omega)
      have hb2 : msz y ≤ K * (a.length + b.length - 2 * x.length + 2) := Nat.le_trans hb (Nat.mul_le_mul_right _ hK)
      have hd := derr_cap h0 hyl hm hb2 (hN x.length hxl)
      obtain ⟨i1, i2⟩ := inv_snext hI hab hx hy h0
      have ih := cok_inv hab ha na nb hs hK hN f y (snext x y) i1 hy (tr_snext hx) i2 (Nat.le_trans hb2 (cap_mono (by omega))) (by have := len_snext_lt hx h0; omega)
      refine ⟨.inr ⟨hd, by omega, ih.1⟩, fun p hp => ?_⟩
      unfold schain at hp
      rw [if_neg h0] at hp
      rcases List.mem_cons.1 hp with rfl | hp
      · exact ⟨Nat.le_trans hm (Nat.mul_le_mul_left _ (by omega)), by omega⟩
      · exact ih.2 p hp
theorem eok_all {a b : List Int} {n s K f : Nat} (hab : b.length < a.length) (ha : Tr a) (hb : Tr b) (na : Sz n a) (nb : Sz n b) (hs : a.length + b.length ≤ 2 ^ s) (hK : s + 1 + n ≤ K) (hN : numOK a.length b.length K) (hd : (a.length + 1) * (n + 1) ≤ 65536) (hf : b.length ≤ f) :
    eok f a b ∧ msz (eu f a b) ≤ K * (a.length + b.length) := by
  have ma := msz_le na
  have mb := msz_le nb
  have la : 0 < a.length := by omega
  have hKn : n ≤ K * (a.length + b.length) := Nat.le_trans (by omega : n ≤ K * 1) (Nat.mul_le_mul_left _ (by omega))
  by_cases h0 : b = []
  · subst h0
    cases f with
    | zero => exact ⟨rfl, by rw [eu_nil]; omega⟩
    | succ f => exact ⟨.inl rfl, by rw [eu_nil]; omega⟩
  · have l0 := List.length_pos_iff.2 h0
    obtain ⟨g, rfl⟩ : ∃ g, f = g + 1 := ⟨f - 1, by omega⟩
    have ht := tr_prest (q := b) ha
    obtain ⟨k, q, hq⟩ := prest_id a h0
    have hL := int_pow_ne (hb.mem h0) k
    generalize cf b (b.length - 1) ^ k = L at hq hL
    have he : ∀ t : Rat, (L : Rat) * rev a t = rev q t * rev b t + rev (prest a b) t := fun t => by
      have := rel_rev (a := L) (c := -1) (x := a) (s := q) (y := b) (z := prest a b) (fun t => by rw [hq t]; omega) t
      push_cast at this; grind
    have hI : Inv a b b (pprim (prest a b)) := Inv.first (by omega) ha hb h0 hL he (sim_pprim ht).symm (by rw [length_pprim]; exact length_prest_lt a h0)
    have ih := eok_inv (by omega) ha na nb hs hK hN g b (pprim (prest a b)) hI hb (tr_pprim ht) (pcont_or ht) (Nat.le_trans (by omega : msz b ≤ K * 1) (Nat.mul_le_mul_left _ (by omega))) (by rw [length_pprim]; have := length_prest_lt a h0; omega)
    refine ⟨.inr ⟨derr_cap h0 hab ma mb hd, ih.1⟩, ?_⟩
    rw [show eu (g + 1) a b = eu g b (pprim (prest a b)) by conv => lhs; unfold eu
                                                            rw [if_neg h0]]
    exact ih.2
theorem cok_all {a b : List Int} {n s K f : Nat} (hab : b.length < a.length) (ha : Tr a) (hb : Tr b) (na : Sz n a) (nb : Sz n b) (hs : a.length + b.length ≤ 2 ^ s) (hK : s + 1 + n ≤ K) (hN : numOK a.length b.length K) (hd : (a.length + 1) * (n + 1) ≤ 65536) (hf : b.length ≤ f) :
    cok f a b ∧ ∀ p ∈ schain f a b, msz p ≤ K * (a.length + b.length) ∧ p.length ≤ a.length := by
  have ma := msz_le na
  have mb := msz_le nb
  have la : 0 < a.length := by omega
  have hKn : n ≤ K * (a.length + b.length) := Nat.le_trans (by omega : n ≤ K * 1) (Nat.mul_le_mul_left _ (by omega))
  by_cases h0 : b = []
  · subst h0
    have hall : ∀ p ∈ schain f a [], msz p ≤ K * (a.length + ([] : List Int).length) ∧ p.length ≤ a.length := fun p hp => by
      rw [schain_nil] at hp
      have : p = a := by simpa using hp
      rw [this]; exact ⟨by omega, Nat.le_refl _⟩
    cases f with
    | zero => exact ⟨rfl, hall⟩
    | succ f => exact ⟨.inl rfl, hall⟩
  · have l0 := List.length_pos_iff.2 h0
    obtain ⟨g, rfl⟩ : ∃ g, f = g + 1 := ⟨f - 1, by omega⟩
    obtain ⟨r1, r2, k, u, hk⟩ := rrem_id hb h0 a.length a ha (by omega)
    have hs' := snext_ref (f := a.length) ha hb h0 (by omega) (by omega)
    have htn : Tr (pneg (rrem a.length a b)) := tr_pscale _ _
    have hKK : rabs b ^ k ≠ 0 := int_pow_ne (by have := rabs_pos hb h0; omega) _
    have hI : Inv a b b (snext a b) := by
      refine Inv.first (z' := rrem a.length a b) (q := u) (by omega) ha hb h0 hKK (fun t => ?_) ?_ (len_snext_lt ha h0)
      · have := rel_rev (a := rabs b ^ k) (c := -1) (x := a) (s := u) (y := b) (z := rrem a.length a b) (fun t => by rw [hk t]; omega) t
        push_cast at this ⊢; grind
      · rw [← hs']
        exact Sim.trans ⟨1, -1, by decide, by decide, fun i => by rw [cf_pneg]; omega⟩ (sim_pprim htn).symm
    have hp : snext a b = [] ∨ pcont (snext a b) = 1 := by rw [← hs']; exact pcont_or htn
    have ih := cok_inv (by omega) ha na nb hs hK hN g b (snext a b) hI hb (tr_snext ha) hp (Nat.le_trans (by omega : msz b ≤ K * 1) (Nat.mul_le_mul_left _ (by omega))) (by have := len_snext_lt ha h0; omega)
    refine ⟨.inr ⟨derr_cap h0 hab ma mb hd, by omega, ih.1⟩, fun p hp => ?_⟩
    unfold schain at hp
    rw [if_neg h0] at hp
    rcases List.mem_cons.1 hp with rfl | hp
    · exact ⟨by omega, Nat.le_refl _⟩
    · exact ih.2 p hp
end Go.Sky
namespace Go.Sky
set_option linter.unusedVariables false
def kkR (R : Nat) : Nat → Nat
  | 0 => 0
  | d + 1 => 2 * (R + 1) * kkR R d + 1
theorem kkR_le (R : Nat) : ∀ d, kkR R d ≤ kkR R (d + 1)
  | 0 => Nat.zero_le _
  | d + 1 => by
    have h := kkR_le R d
    show 2 * (R + 1) * kkR R d + 1 ≤ 2 * (R + 1) * kkR R (d + 1) + 1
    exact Nat.succ_le_succ (Nat.mul_le_mul_left _ h)
theorem kkR_mono (R : Nat) {d e : Nat} (h : d ≤ e) : kkR R d ≤ kkR R e := by
  induction e with
  | zero => rw [show d = 0 by omega]; exact Nat.le_refl _
  | succ e ih =>
    rcases Nat.lt_or_ge d (e + 1) with h1 | h1
    · exact Nat.le_trans (ih (by omega)) (kkR_le R e)
    · rw [show d = e + 1 by omega]; exact Nat.le_refl _
theorem interpR (R : Nat) : ∀ (d : Nat) (u : List Int) (T : List Int) (B : Nat), u.length ≤ d → T.length = d → T.Nodup → (∀ t ∈ T, t.natAbs ≤ R) → (∀ t ∈ T, (ev1 u t).natAbs ≤ B) → ∀ i, (cf u i).natAbs ≤ kkR R d * B
  | 0, u, T, B, hu, _, _, _, _, i => by rw [cf_ge (by omega)]; exact Nat.zero_le _
  | d + 1, u, [], B, _, hT, _, _, _, _ => by simp at hT
  | d + 1, u, t :: T, B, hu, hT, hd, hr, hB, i => by
    have hl := length_sdv u t
    have ht := hr t (List.mem_cons_self ..)
    have hb := hB t (List.mem_cons_self ..)
    have ih := interpR R d (sdv u t) T (2 * B) (by omega) (by simpa using hT) (List.nodup_cons.1 hd).2 (fun x hx => hr x (List.mem_cons_of_mem _ hx)) fun x hx => by
      have h1 := ev1_sdv u t x
      have h2 := hB x (List.mem_cons_of_mem _ hx)
      have hne : x ≠ t := fun e => (List.nodup_cons.1 hd).1 (e ▸ hx)
      have h3 : ((x - t) * ev1 (sdv u t) x).natAbs ≤ 2 * B := by omega
      rw [Int.natAbs_mul] at h3
      have h4 : 1 * (ev1 (sdv u t) x).natAbs ≤ (x - t).natAbs * (ev1 (sdv u t) x).natAbs := Nat.mul_le_mul_right _ (by omega)
      omega
    have hk : kkR R (d + 1) * B = R * (kkR R d * (2 * B)) + kkR R d * (2 * B) + B := by
      show (2 * (R + 1) * kkR R d + 1) * B = _
      grind
    have hmul : ∀ x : Int, x.natAbs ≤ kkR R d * (2 * B) → (t * x).natAbs ≤ R * (kkR R d * (2 * B)) := fun x hx => by
      rw [Int.natAbs_mul]; exact Nat.mul_le_mul (by omega) hx
    rw [hk]
    cases i with
    | zero =>
      rw [cf_sdv0 u t]
      have := hmul _ (ih 0)
      omega
    | succ i =>
      rw [cf_sdv u t]
      have h1 := ih i
      have h2 := hmul _ (ih (i + 1))
      omega
theorem evR_bound (R : Nat) : ∀ (n : Nat) (s : List Int) (A : Nat) (t : Int), s.length ≤ n → (∀ c ∈ s, c.natAbs ≤ A) → 0 ≤ t → t ≤ (R : Int) → (ev1 s t).natAbs ≤ A * ((R + 1) ^ n)
  | n, [], A, t, _, _, _, _ => by simp [ev1]
  | 0, c :: s, A, t, h, _, _, _ => by simp at h
  | n + 1, c :: s, A, t, h, hc, h0, h1 => by
    have ih := evR_bound R n s A t (by simpa using h) (fun x hx => hc x (List.mem_cons_of_mem _ hx)) h0 h1
    have h2 := hc c (List.mem_cons_self ..)
    have h3 : (t * ev1 s t).natAbs ≤ R * (A * (R + 1) ^ n) := by rw [Int.natAbs_mul]; exact Nat.mul_le_mul (by omega) ih
    show (c + t * ev1 s t).natAbs ≤ A * (R + 1) ^ (n + 1)
    have h4 : A * (R + 1) ^ (n + 1) = R * (A * (R + 1) ^ n) + A * (R + 1) ^ n := by rw [Nat.pow_succ]; grind
    have h5 : A * 1 ≤ A * (R + 1) ^ n := Nat.mul_le_mul_left _ (Nat.pow_pos (by omega))
    omega
theorem factor_gen {s u v : List Int} {n L R e : Nat} (hu : Tr u) (hv : Tr v) (hs : Sz n s) (h0 : s ≠ []) (hts : Tr s) (hl : s.length ≤ L) (hR : 2 * L ≤ R + 2) (he : kkR R L * (R + 1) ^ L < 2 ^ e) (h : s = pmul u v) : Sz (n + e) u := by
  have hne : u ≠ [] ∧ v ≠ [] := by
    refine ⟨fun e => h0 ?_, fun e => h0 ?_⟩
    · rw [h, e, pmul_nil_l]
    · rw [h, e, pmul_nil_r]
  have hlen := length_pmul hu hv hne.1 hne.2
  rw [← h] at hlen
  have lu := List.length_pos_iff.2 hne.1
  have lv := List.length_pos_iff.2 hne.2
  have hz : ∃ i, cf s i ≠ 0 := ⟨_, hts.mem h0⟩
  generalize hP : (List.range (R + 1)).map (fun n : Nat => (n : Int)) = pts
  have hnp : pts.Nodup := by
    rw [← hP]
    refine List.Pairwise.map _ (fun a b hab => ?_) List.nodup_range
    intro e; exact hab (by exact_mod_cast e)
  have h1 := filter_len (fun t => decide (ev1 s t ≠ 0)) pts
  have h2 := roots_le s.length s (pts.filter fun t => !decide (ev1 s t ≠ 0)) rfl hz (hnp.filter _) fun t ht => by
    have := (List.mem_filter.1 ht).2
    simpa using this
  have h3 : pts.length = R + 1 := by rw [← hP]; simp
  generalize hT : pts.filter (fun t => decide (ev1 s t ≠ 0)) = T at h1
  have hTl : s.length ≤ T.length := by omega
  have hTm : ∀ t ∈ T.take u.length, t ∈ pts ∧ ev1 s t ≠ 0 := fun t ht => by
    have := List.mem_of_mem_take ht
    rw [← hT, List.mem_filter] at this
    exact ⟨this.1, by simpa using this.2⟩
  have hr : ∀ t ∈ T.take u.length, 0 ≤ t ∧ t ≤ (R : Int) := fun t ht => by
    have := (hTm t ht).1
    rw [← hP] at this
    obtain ⟨k, hk, rfl⟩ := List.mem_map.1 this
    have := List.mem_range.1 hk
    omega
  have hA : ∀ c ∈ s, c.natAbs ≤ 2 ^ n := fun c hc => Nat.le_of_lt ((bl_le n _).1 (hs.mem hc))
  have hk := interpR R u.length u (T.take u.length) (2 ^ n * (R + 1) ^ L) (Nat.le_refl _) (by rw [List.length_take]; omega) ((hT ▸ hnp.filter _ : T.Nodup).sublist (List.take_sublist _ _)) (fun t ht => by have := hr t ht; omega) fun t ht => by
    have hb := evR_bound R L s (2 ^ n) t hl hA (hr t ht).1 (hr t ht).2
    have he : ev1 s t = ev1 u t * ev1 v t := by
      rw [ev1_pev1, ev1_pev1, ev1_pev1, h, pev_mul0 hu hv hne.1 hne.2]
    have hnz := (hTm t ht).2
    have hd : ev1 u t ∣ ev1 s t := ⟨_, he⟩
    exact Nat.le_trans (Nat.le_of_dvd (by omega) (Int.natAbs_dvd_natAbs.2 hd)) hb
  intro i
  rw [bl_le]
  refine Nat.lt_of_le_of_lt (hk i) ?_
  have hkk := kkR_mono R (show u.length ≤ L by omega)
  rw [Nat.pow_add, Nat.mul_comm (kkR R u.length), Nat.mul_assoc]
  refine Nat.mul_lt_mul_of_pos_left ?_ (Nat.pow_pos (by decide))
  rw [Nat.mul_comm]
  exact Nat.lt_of_le_of_lt (Nat.mul_le_mul_right _ hkk) he
theorem num13 {la lb K : Nat} (h1 : la ≤ 13) (h2 : lb + 1 = la) (hK : K ≤ 600) : numOK la lb K := fun l hl => by
  have h3 : ∀ l, l ≤ 12 → (l + 1) * (600 * (27 - 2 * l) + 1) ≤ 65536 := by decide
  refine Nat.le_trans (Nat.mul_le_mul_left _ (Nat.succ_le_succ (Nat.mul_le_mul hK (by omega)))) (h3 l (by omega))
theorem chF {xs : List Int} {n : Nat} (F : Nat) (hx : Tr xs) (h0 : xs ≠ []) (hs : Sz n xs) (hn : n ≤ 260) (hl : xs.length ≤ 13) (hF : xs.length ≤ F + 1) :
    chOK F xs ∧ Sz (n + 130) (sqf F xs) ∧ (sqf F xs).length ≤ xs.length ∧ ∀ p ∈ chn F xs, msz p ≤ (n + 141) * 25 ∧ p.length ≤ xs.length := by
  have hnn := sz_nrm hs
  have hln := length_nrm hx
  have ht : Tr (nrm xs) := tr_gnorm (tr_pprim hx)
  have hd := sz_pder' hnn (by omega)
  have hld := len_pder' (nrm xs)
  have htd : Tr (pder (nrm xs)) := tr_pder ht
  have m1 := msz_le hnn
  have m2 := msz_le hd
  have l0 := List.length_pos_iff.2 h0
  have hgA : gA (nrm xs) (pder (nrm xs)) = pprim (nrm xs) := if_neg (by omega)
  have hgB : gB (nrm xs) (pder (nrm xs)) = pprim (pder (nrm xs)) := if_neg (by omega)
  have hok : eok F (gA (nrm xs) (pder (nrm xs))) (gB (nrm xs) (pder (nrm xs))) := by
    rw [hgA, hgB]
    refine (eok_all (n := n + 5) (s := 5) (K := n + 11) (by rw [length_pprim, length_pprim]; omega) (tr_pprim ht) (tr_pprim htd) (sz_pprim (hnn.mono (by omega))) (sz_pprim hd) ?_ (by omega) ?_ ?_ ?_).1
    · rw [length_pprim, length_pprim]; omega
    · rw [length_pprim, length_pprim]; exact num13 (by omega) (by omega) (by omega)
    · rw [length_pprim]
      exact Nat.le_trans (Nat.mul_le_mul (show (nrm xs).length + 1 ≤ 14 by omega) (show n + 5 + 1 ≤ 300 by omega)) (by decide)
    · rw [length_pprim]; omega
  obtain ⟨f1, f2, f3, f4, f5, f6⟩ := sqf_fac (F := F) hx h0 hok
  have hg := tr_pgcd (F := F) ht htd
  have hn0 := nrm_ne hx h0
  have hK : kkR 24 13 * (24 + 1) ^ 13 < 2 ^ 130 := by decide +kernel
  have hq := factor_gen (L := 13) (R := 24) f2 hg hnn hn0 ht (by omega) (by decide) hK f4
  have hgs := factor_gen (L := 13) (R := 24) hg f2 hnn hn0 ht (by omega) (by decide) hK (by rw [pmul_comm]; exact f4)
  have hlq := length_pmul f2 hg f3 f5
  rw [← f4] at hlq
  have lg := List.length_pos_iff.2 f5
  have lq := List.length_pos_iff.2 f3
  have mg := msz_le hgs
  have hql : (sqf F xs).length ≤ xs.length := by omega
  have hqd := sz_pder' hq (by omega)
  have hlqd := len_pder' (sqf F xs)
  have hc := cok_all (a := sqf F xs) (b := pprim (pder (sqf F xs))) (n := n + 130 + 5) (s := 5) (K := n + 141) (f := F) (by rw [length_pprim]; omega) f2 (tr_pprim (tr_pder f2)) (hq.mono (by omega)) (sz_pprim hqd) (by rw [length_pprim]; omega) (by omega) (by rw [length_pprim]; exact num13 (by omega) (by omega) (by omega)) (Nat.le_trans (Nat.mul_le_mul (show (sqf F xs).length + 1 ≤ 14 by omega) (show n + 130 + 5 + 1 ≤ 400 by omega)) (by decide)) (by rw [length_pprim]; omega)
  refine ⟨⟨⟨fun i _ => Nat.le_trans (der_b' hnn (by omega) i) (by omega), ?_, hok, ?_, f1⟩, fun i _ => Nat.le_trans (der_b' hq (by omega) i) (by omega), hc.1⟩, hq, hql, fun p hp => ?_⟩
  · intro h
    have h3 : (max (nrm xs).length (pder (nrm xs)).length + 2) * (max (nrm xs).length (pder (nrm xs)).length + 2) * (max (msz (nrm xs)) (msz (pder (nrm xs))) + 8) ≤ 15 * 15 * 280 := Nat.mul_le_mul (Nat.mul_le_mul (by omega) (by omega)) (by omega)
    have := h.2.2
    omega
  · unfold derr
    rw [if_neg (by omega)]
    split
    · rfl
    · have : ((nrm xs).length - (pgcd F (nrm xs) (pder (nrm xs))).length + 1) * (msz (pgcd F (nrm xs) (pder (nrm xs))) + 1) ≤ 14 * 400 := Nat.mul_le_mul (by omega) (by omega)
      rw [if_neg (by omega)]
  · obtain ⟨a1, a2⟩ := hc.2 p hp
    refine ⟨Nat.le_trans a1 (Nat.mul_le_mul_left _ ?_), by omega⟩
    rw [length_pprim]; omega
theorem ch13 {xs : List Int} {n : Nat} (hx : Tr xs) (h0 : xs ≠ []) (hs : Sz n xs) (hn : n ≤ 260) (hl : xs.length ≤ 13) :
    chOK 13 xs ∧ Sz (n + 130) (sqf 13 xs) ∧ (sqf 13 xs).length ≤ 13 ∧ ∀ p ∈ chn 13 xs, msz p ≤ (n + 141) * 25 ∧ p.length ≤ 13 := by
  obtain ⟨h1, h2, h3, h4⟩ := chF 13 hx h0 hs hn hl (by omega)
  exact ⟨h1, h2, by omega, fun p hp => ⟨(h4 p hp).1, by have := (h4 p hp).2; omega⟩⟩
end Go.Sky
namespace Go.Sky
set_option linter.unusedVariables false
theorem Dv.ed {g a : List Int} (h : Dv g a) : Ed g a := by
  obtain ⟨k, s, hk, h⟩ := h
  refine ⟨k, s, hk, fun x => ?_⟩
  have := rel_rev (a := k) (c := 0) (x := a) (s := s) (y := g) (z := []) (fun t => by rw [h t]; omega) x
  push_cast at this; grind
theorem chn_step {xs : List Int} {F : Nat} (hx : Tr xs) (h0 : xs ≠ []) (hC : chOK F xs) (s t : Rat) :
    ∃ h : Rat, 0 < h ∧ ∀ u v, s ≤ u → u ≤ v → v ≤ t → v - u ≤ h → vat ((chn F xs).map rev) u - vat ((chn F xs).map rev) v = crs (rev (sqf F xs)) u v := by
  have hok := hC.1.2.2.1
  obtain ⟨f1, f2, f3, f4, f5, f6⟩ := sqf_fac (F := F) hx h0 hok
  have htp := tr_pder f2
  by_cases hd : pder (sqf F xs) = []
  · refine sturm_step (κ := 1) f2 (tr_pprim htp) f3 hC.2.2 (by decide) (fun x => ?_) fun q hq a b => ?_
    · rw [← Qq, hd]; show (0 : Rat) = 1 * 0; grind
    · exact sqf_cop hx h0 hok hq a (b.sim (sim_pprim htp))
  · have hpc : 0 < pcont (pder (sqf F xs)) := by
      have h1 := pcont_ne htp hd
      have h2 := pcont_nonneg (pder (sqf F xs))
      omega
    refine sturm_step (κ := (pcont (pder (sqf F xs)) : Rat)) f2 (tr_pprim htp) f3 hC.2.2 (by exact_mod_cast hpc) (fun x => ?_) fun q hq a b => ?_
    · rw [← Qq, ← rev_smul]
      exact rev_ext x _ _ fun i => by rw [cf_smul, Int.mul_comm, pprim_mul]
    · exact sqf_cop hx h0 hok hq a (b.sim (sim_pprim htp))
theorem irr_sqf {p s g q : List Int} (hps : ∀ x : Rat, rev p x = rev s x * rev g x) (hg : Tr g) (g0 : g ≠ []) (hgd : Ed g (ld p)) (hq : Irr q) (hqp : Ed q p) : Ed q s := by
  refine Classical.byContradiction fun hns => ?_
  have hq1 := hq.1
  have hq2 := hq.2.1
  have hqd : ¬ Ed q (ld q) := fun h => by
    have h8 : Ed q (pder q) := h.congr fun x => (Qq q x).symm
    have hl := len_pder' q
    have := (h8.len hq1 (tr_pder hq1) (fun e => by rw [e] at hl; simp at hl; omega)).2
    omega
  obtain ⟨c1, m1, k1, e1⟩ := hqp
  obtain ⟨c2, m, k2, e2⟩ := hgd
  have key : ∀ k, Ed (ppow q k) g := fun k => by
    induction k with
    | zero => exact ⟨1, g, by decide, fun x => by rw [show ppow q 0 = [1] from rfl, rev_one]; push_cast; grind⟩
    | succ k ih =>
      cases k with
      | zero =>
        have h9 : Ed q g := (irr_prime (f := s) (h := g) (m := m1) hq k1 (fun x => by rw [← hps x]; exact e1 x)).resolve_left hns
        exact h9.congr_l fun x => by rw [rev_ppow, show ppow q 0 = [1] from rfl, rev_one]; push_cast; grind
      | succ k =>
        obtain ⟨c, u, kc, eu⟩ := ih
        have hd : ∀ x : Rat, (c : Rat) * rev (ld g) x = rev (ld u) x * rev (ppow q (k + 1)) x + rev u x * (((k : Rat) + 1) * (rev (ppow q k) x * rev (ld q) x)) := fun x => by
          have := rd_congr (p := g.map fun a => c * a) (q := lmul u (ppow q (k + 1))) (fun y => by rw [rev_smul, rev_lmul]; exact eu y) x
          rwa [rd_smul, rd_lmul, rd_ppow] at this
        have hp : ∀ x : Rat, rev (ld p) x = rev (ld s) x * rev g x + rev s x * rev (ld g) x := fun x => by
          have := rd_congr (p := p) (q := lmul s g) (fun y => by rw [rev_lmul]; exact hps y) x
          rwa [rd_lmul] at this
        have hz : ∀ x : Rat, rev (ladd ((lmul (lmul s u) (ld q)).map fun a => (c2 * ((k : Int) + 1)) * a) ((lmul (ladd ((lmul s (ld u)).map fun a => c2 * a) ((lmul (ladd m ((ld s).map fun a => (-c2) * a)) u).map fun a => (-1) * a)) q))) x = 0 := fun x => by
          refine mul_zero_rev (v := ppow q k) (fun e => ?_) (fun x => ?_) x
          · rw [tzl_tr (ppow_len hq1 hq2 k).1] at e
            have := (ppow_len hq1 hq2 k).2
            rw [e] at this; simp at this
          · rw [rev_ladd, rev_smul, rev_lmul, rev_lmul, rev_lmul, rev_ladd, rev_smul, rev_lmul, rev_smul, rev_lmul, rev_ladd, rev_smul]
            have a1 := e2 x; have a2 := hp x; have a3 := hd x; have a4 := eu x
            rw [rev_ppow] at a3 a4
            push_cast
            have b1 : (c2 : Rat) * rev s x * (c * rev (ld g) x) = (rev m x - c2 * rev (ld s) x) * (c * rev g x) := by
              have : (c2 : Rat) * rev s x * (c * rev (ld g) x) = c * (c2 * (rev (ld p) x - rev (ld s) x * rev g x)) := by rw [a2]; grind
              rw [this]
              have : (c : Rat) * (c2 * (rev (ld p) x - rev (ld s) x * rev g x)) = c * (c2 * rev (ld p) x) - c * c2 * rev (ld s) x * rev g x := by grind
              rw [this, a1]; grind
            rw [a3, a4] at b1
            grind
        have h9 := irr_prime (f := lmul s u) (h := ld q) (k := c2 * ((k : Int) + 1)) (m := ladd ((lmul (ladd m ((ld s).map fun a => (-c2) * a)) u)) ((lmul s (ld u)).map fun a => (-c2) * a)) hq (Int.mul_ne_zero k2 (by omega)) (fun x => by
          have := hz x
          rw [rev_ladd, rev_smul, rev_lmul, rev_lmul, rev_lmul, rev_ladd, rev_smul, rev_lmul, rev_smul, rev_lmul, rev_ladd, rev_smul] at this
          rw [rev_lmul, rev_ladd, rev_lmul, rev_ladd, rev_smul, rev_smul, rev_lmul]
          push_cast at this ⊢
          grind)
        have h8 := irr_prime (f := s) (h := u) (k := 1) (m := []) hq (by decide)
        have h7 : Ed q u := by
          obtain ⟨c3, w, k3, e3⟩ := h9.resolve_right hqd
          exact (irr_prime (f := s) (h := u) (k := c3) (m := w) hq k3 (fun x => by have := e3 x; rwa [rev_lmul] at this)).resolve_left hns
        obtain ⟨c3, w, k3, e3⟩ := h7
        refine ⟨c3 * c, w, Int.mul_ne_zero k3 kc, fun x => ?_⟩
        have a4 := eu x; have a5 := e3 x
        rw [rev_ppow q (k + 1)]; push_cast
        have : (c3 : Rat) * c * rev g x = c3 * (c * rev g x) := by grind
        rw [this, a4]
        have : (c3 : Rat) * (rev u x * rev (ppow q (k + 1)) x) = (c3 * rev u x) * rev (ppow q (k + 1)) x := by grind
        rw [this, a5]; grind
  obtain ⟨a1, a2⟩ := ppow_len hq1 hq2 g.length
  have := ((key g.length).len a1 hg g0).2
  omega
theorem lin_irr {r d : Int} (hd : d ≠ 0) : Irr [-r, d] := by
  have ht : Tr [-r, d] := .inr hd
  refine ⟨ht, by simp, fun q hq he => ?_⟩
  have := (he.len hq ht (by simp)).2
  simp at this ⊢; omega
theorem rev_lin (r d : Int) (x : Rat) : rev [-r, d] x = (d : Rat) * x - r := by
  show ((-r : Int) : Rat) + x * ((d : Rat) + x * 0) = _; push_cast; grind
theorem root_ed {p : List Int} {r d : Int} (hp : Tr p) (hd : d ≠ 0) (h : rev p ((r : Rat) / d) = 0) : Ed [-r, d] p := by
  have hd' : (d : Rat) ≠ 0 := by exact_mod_cast hd
  have ht : Tr [-r, d] := .inr hd
  obtain ⟨k, s, hs⟩ := prest_id p (q := [-r, d]) (by simp)
  have hL := int_pow_ne (ht.mem (by simp)) k
  generalize cf [-r, d] ([-r, d].length - 1) ^ k = L at hs hL
  have he : ∀ x, (L : Rat) * rev p x = rev s x * rev [-r, d] x + rev (prest p [-r, d]) x := fun x => by
    have := rel_rev (a := L) (c := -1) (x := p) (s := s) (y := [-r, d]) (z := prest p [-r, d]) (fun t => by rw [hs t]; omega) x
    push_cast at this; grind
  have hl := length_prest_lt p (q := [-r, d]) (by simp)
  have hz : ∀ x, rev (prest p [-r, d]) x = 0 := fun x => by
    have h1 := he ((r : Rat) / d)
    rw [h, rev_lin] at h1
    match hr : prest p [-r, d], hl with
    | [], _ => rfl
    | [c], _ =>
      rw [hr, rev_one] at h1
      rw [rev_one]
      have : (d : Rat) * (r / d) = r := by grind
      rw [this] at h1; grind
  exact ⟨L, s, hL, fun x => by rw [he x, hz x]; grind⟩
theorem Ed.root {p : List Int} {r d : Int} (hd : d ≠ 0) (h : Ed [-r, d] p) : rev p ((r : Rat) / d) = 0 := by
  obtain ⟨k, s, hk, h⟩ := h
  have hd' : (d : Rat) ≠ 0 := by exact_mod_cast hd
  have hk' : (k : Rat) ≠ 0 := by exact_mod_cast hk
  have h1 := h ((r : Rat) / d)
  rw [rev_lin] at h1
  have : (d : Rat) * (r / d) = r := by grind
  rw [this] at h1; grind
theorem sqf_root {xs : List Int} {F : Nat} (hx : Tr xs) (h0 : xs ≠ []) (hok : eok F (gA (nrm xs) (pder (nrm xs))) (gB (nrm xs) (pder (nrm xs)))) {r d : Int} (hd : d ≠ 0) (h : rev xs ((r : Rat) / d) = 0) : rev (sqf F xs) ((r : Rat) / d) = 0 := by
  obtain ⟨f1, f2, f3, f4, f5, f6⟩ := sqf_fac (F := F) hx h0 hok
  have hs : Tr (nrm xs) := tr_gnorm (tr_pprim hx)
  have hd' : Tr (pder (nrm xs)) := tr_pder hs
  have h1 : Ed [-r, d] (nrm xs) := (root_ed hx hd h).sim ((sim_pprim hx).symm.trans (sim_gnorm _).symm)
  have h2 : ∀ x : Rat, rev (nrm xs) x = rev (sqf F xs) x * rev (pgcd F (nrm xs) (pder (nrm xs))) x := fun x => by
    have : rev (nrm xs) x = rev (pmul (sqf F xs) (pgcd F (nrm xs) (pder (nrm xs)))) x := by rw [← f4]
    rw [this, rev_pmul]
  have h3 : Ed (pgcd F (nrm xs) (pder (nrm xs))) (ld (nrm xs)) := ((pgcd_dv hs hd' hok).2.ed).congr fun x => Qq _ x
  exact (irr_sqf h2 (tr_pgcd hs hd') f5 h3 (lin_irr hd) h1).root hd
end Go.Sky
namespace Go.Sky
set_option linter.unusedVariables false
def Away (s t : Rat) (f : Rat → Rat) : Prop := ∃ δ : Rat, 0 < δ ∧ ∀ x, s ≤ x → x ≤ t → δ ≤ f x ∨ f x ≤ -δ
theorem Away.mul {s t : Rat} {f g h : Rat → Rat} (hf : Away s t f) (hg : Away s t g) (e : ∀ x, h x = f x * g x) : Away s t h := by
  obtain ⟨a, a1, a2⟩ := hf
  obtain ⟨b, b1, b2⟩ := hg
  refine ⟨a * b, Rat.mul_pos a1 b1, fun x h1 h2 => ?_⟩
  rw [e x]
  rcases a2 x h1 h2 with h3 | h3 <;> rcases b2 x h1 h2 with h4 | h4
  · left; have := Rat.mul_nonneg (a := f x - a) (b := g x) (by grind) (by grind); have := Rat.mul_nonneg (a := a) (b := g x - b) (by grind) (by grind); grind
  · right; have := Rat.mul_nonneg (a := f x - a) (b := - g x) (by grind) (by grind); have := Rat.mul_nonneg (a := a) (b := - g x - b) (by grind) (by grind); grind
  · right; have := Rat.mul_nonneg (a := - f x - a) (b := g x) (by grind) (by grind); have := Rat.mul_nonneg (a := a) (b := g x - b) (by grind) (by grind); grind
  · left; have := Rat.mul_nonneg (a := - f x - a) (b := - g x) (by grind) (by grind); have := Rat.mul_nonneg (a := a) (b := - g x - b) (by grind) (by grind); grind
theorem Away.lin {s t : Rat} {r d : Int} (hd : 0 < d) (h : (r : Rat) < d * s ∨ (d : Rat) * t < r) : Away s t (rev [-r, d]) := by
  have hd' : (0 : Rat) < (d : Rat) := by exact_mod_cast hd
  rcases h with h | h
  · refine ⟨d * s - r, by grind, fun x h1 h2 => .inl ?_⟩
    rw [rev_lin]; have := Rat.mul_nonneg (a := (d : Rat)) (b := x - s) (by grind) (by grind); grind
  · refine ⟨r - d * t, by grind, fun x h1 h2 => .inr ?_⟩
    rw [rev_lin]; have := Rat.mul_nonneg (a := (d : Rat)) (b := t - x) (by grind) (by grind); grind
theorem Away.one (s t : Rat) : Away s t (rev [1]) := ⟨1, by decide, fun x _ _ => by left; rw [rev_one]; exact Rat.le_refl⟩
theorem chn_const {xs : List Int} {F : Nat} (hx : Tr xs) (h0 : xs ≠ []) (hC : chOK F xs) {s t : Rat} (hst : s ≤ t) (h : Away s t (rev xs)) : vat ((chn F xs).map rev) s = vat ((chn F xs).map rev) t := by
  have hok := hC.1.2.2.1
  obtain ⟨f1, f2, f3, f4, f5, f6⟩ := sqf_fac (F := F) hx h0 hok
  obtain ⟨g, hg⟩ := rev_sqf hx h0 hok
  obtain ⟨ε, e1, e2⟩ := h
  obtain ⟨δ, d1, d2⟩ := big_fac e1 e2 hg (rev_b s t g)
  exact schain_const f2 (tr_pprim (tr_pder f2)) hC.2.2 hst d1 d2
def cntP (P : Int → Prop) [DecidablePred P] (m : Int) : Nat → Int
  | 0 => 0
  | n + 1 => cntP P m n + (if P (m + n + 1) then 1 else 0)
end Go.Sky

