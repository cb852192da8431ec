/- the law
   Proved without conditions of its own: each theorem bears its own. -/
import Derived.Test.YtjkhdpcmkcjjcaaGreatK
import Derived.Test.YtjkhdpcmkcjjcaaGreatD
import Derived.Test.YtjkhdpcmkcjjcaaGreatB
import Derived.Test.YtjkhdpcmkcjjcaaGreatC
set_option linter.all false
namespace Go.Sky
open Go.Proofs
set_option linter.unusedVariables false
theorem cp_nf {p : List Int} {x y z : Int} {n m : Nat} (hp : Sz n p) (hx : bl x.natAbs ≤ m) (hy : bl y.natAbs ≤ m) (hz : bl z.natAbs ≤ m) (hl : p.length ≤ 25) (hF : n + 24 * (m + 1) + 8 ≤ 65536) : msz p + (p.length - 1) * (msz [x, y, z] + 1) + 8 ≤ 65536 := by
  have h1 := msz_le hp
  have h2 : msz [x, y, z] ≤ m := by simp only [msz]; omega
  have h3 : (p.length - 1) * (msz [x, y, z] + 1) ≤ 24 * (m + 1) := Nat.mul_le_mul (by omega) (by omega)
  omega
theorem cp_not {p : List Int} {x y z : Int} (h : msz p + (p.length - 1) * (msz [x, y, z] + 1) + 8 ≤ 65536) : ¬ cpfull p x y z := fun h2 => by have := h2.2; omega
theorem sz_pcompo {p : List Int} {x y z : Int} (h : msz p + (p.length - 1) * (msz [x, y, z] + 1) + 8 ≤ 65536) : Sz 65536 (pcompo p x y z) := by
  unfold pcompo
  split
  · exact Sz.nil _
  · exact (cp_last h).tzl
theorem len_pcompo (p : List Int) (x y z : Int) : (pcompo p x y z).length ≤ p.length := by
  unfold pcompo
  split
  · exact Nat.zero_le _
  · refine Nat.le_trans (tzl_le _) ?_
    rw [length_chor]; omega
end Go.Sky
/- The greatest common divisor, up to a factor. -/
namespace Go.Sky
set_option linter.unusedVariables false
theorem sumTo_only {f : Nat → Int} {k : Nat} : ∀ {n : Nat}, k < n → (∀ i, i < n → i ≠ k → f i = 0) → sumTo f n = f k
  | 0, hk, _ => absurd hk (Nat.not_lt_zero _)
  | n + 1, hk, h => by
    rw [sumTo_succ]
    by_cases e : k = n
    · subst e
      rw [sumTo_z fun i hi => h i (by omega) (by omega), Int.zero_add]
    · rw [h n (by omega) (fun x => e x.symm), sumTo_only (by omega) (fun i hi => h i (by omega)), Int.add_zero]
theorem conv_top {p q : List Int} {a b : Nat} (ha : ∀ i, a < i → cf p i = 0) (hb : ∀ i, b < i → cf q i = 0) : (ps p * ps q).c (a + b) = cf p a * cf q b := by
  rw [PS.mul_c, sumTo_only (k := a) (by omega) fun i hi hne => ?_]
  · rw [ps_c, ps_c, show a + b - a = b by omega]
  · rw [ps_c, ps_c]
    rcases Nat.lt_or_ge a i with h | h
    · rw [ha i h, Int.zero_mul]
    · rw [hb (a + b - i) (by omega), Int.mul_zero]
theorem mul_lin2 (s s' : List Int) (c c' : Int) (f : PS) (t : Nat) : (ps (psub (pscale s c) (pscale s' c')) * f).c t = c * (ps s * f).c t - c' * (ps s' * f).c t := by
  rw [PS.mul_c, PS.mul_c, PS.mul_c, ← sumTo_mul, Int.sub_eq_add_neg, ← Int.neg_mul, ← sumTo_mul, ← sumTo_add]
  refine sumTo_congr fun k _ => ?_
  rw [ps_c, ps_c, ps_c, cf_psub, cf_pscale, cf_pscale]
  grind
theorem mul_scale_r (f : PS) (q q' : List Int) (u v : Int) (h : ∀ i, u * cf q i = v * cf q' i) (t : Nat) : u * (f * ps q).c t = v * (f * ps q').c t := by
  rw [PS.mul_c, PS.mul_c, ← sumTo_mul, ← sumTo_mul]
  refine sumTo_congr fun k _ => ?_
  rw [ps_c, ps_c]
  have := h (t - k)
  grind
/-- a multiple of q of lower degree is zero -/
theorem mul_low {q s r : List Int} (hq : Tr q) (hq0 : q ≠ []) (h : ∀ t, (ps s * ps q).c t = cf r t) (hr : ∀ t, q.length - 1 ≤ t → cf r t = 0) : ∀ t, cf s t = 0 := by
  have hlead := hq.mem hq0
  have hlen : 0 < q.length := List.length_pos_iff.2 hq0
  have hs : tzl s = [] := by
    rcases snoc_or (tzl s) with h1 | ⟨ys, y, h1⟩
    · exact h1
    · exfalso
      have ht := tr_tzl s
      have hne : tzl s ≠ [] := by rw [h1]; simp
      have h2 := ht.mem hne
      have h3 := conv_top (p := tzl s) (q := q) (a := (tzl s).length - 1) (b := q.length - 1) (fun i hi => cf_ge (by omega)) (fun i hi => cf_ge (by omega))
      have h4 : ps (tzl s) = ps s := PS.ext' fun i => cf_tzl s i
      rw [h4, h, hr _ (by omega)] at h3
      rcases Int.mul_eq_zero.1 h3.symm with h5 | h5
      · exact h2 h5
      · exact hlead h5
  exact (tzl_nil_iff s).1 hs
theorem mul_zero_l {s : List Int} (h : ∀ t, cf s t = 0) (f : PS) (t : Nat) : (ps s * f).c t = 0 := by
  rw [PS.mul_c]
  exact sumTo_z fun k _ => by rw [ps_c, h, Int.zero_mul]
theorem length_pmul {p q : List Int} (hp : Tr p) (hq : Tr q) (h1 : p ≠ []) (h2 : q ≠ []) : (pmul p q).length = p.length + q.length - 1 := by
  have l1 := List.length_pos_iff.2 h1
  have l2 := List.length_pos_iff.2 h2
  unfold pmul
  rw [tzl_tr, length_mk]
  right
  rw [length_mk, cf_mk, if_pos (by omega), show p.length + q.length - 1 - 1 = (p.length - 1) + (q.length - 1) by omega, conv_top (fun i hi => cf_ge (by omega)) (fun i hi => cf_ge (by omega))]
  exact Int.mul_ne_zero (hp.mem h1) (hq.mem h2)
/-! the rest -/
def mono (s : Nat) (c : Int) : List Int := List.replicate s 0 ++ [c]
theorem cf_mono (s : Nat) (c : Int) (i : Nat) : cf (mono s c) i = if i = s then c else 0 := by
  unfold mono
  rw [cf_append, List.length_replicate]
  split
  · rw [if_neg (by omega)]
    unfold cf
    simp [List.getD_eq_getElem?_getD, List.getElem?_replicate]
    split <;> rfl
  · rename_i h
    split
    · rename_i h2; subst h2; simp [cf]
    · exact cf_ge (by simp; omega)
theorem mono_mul (s : Nat) (c : Int) (f : PS) (t : Nat) : (ps (mono s c) * f).c t = if s ≤ t then c * f.c (t - s) else 0 := by
  rw [PS.mul_c]
  split
  · rw [sumTo_only (k := s) (by omega) fun i _ hne => by rw [ps_c, cf_mono, if_neg hne, Int.zero_mul], ps_c, cf_mono, if_pos rfl]
  · exact sumTo_z fun k hk => by rw [ps_c, cf_mono, if_neg (by omega), Int.zero_mul]
theorem rsteps_id {p q : List Int} (hq : 0 < q.length) (hl : q.length ≤ p.length) : ∀ j, j ≤ p.length - q.length + 1 → ∃ s : List Int, ∀ t, cf q (q.length - 1) ^ j * cf p t = (ps s * ps q).c t + cf (rsteps p q j) t
  | 0, _ => ⟨[], fun t => by rw [mul_zero_l (fun t => cf_ge (Nat.zero_le _)), Int.pow_zero]; unfold rsteps; omega⟩
  | j + 1, hj => by
    obtain ⟨s, ih⟩ := rsteps_id hq hl j (by omega)
    refine ⟨psub (pscale s (cf q (q.length - 1))) (pscale (mono (p.length - 1 - j - (q.length - 1)) (cf (rsteps p q j) (p.length - 1 - j))) (-1)), fun t => ?_⟩
    rw [mul_lin2, mono_mul]
    have h0 := ih t
    show _ = _ + cf (rstep q (rsteps p q j) (p.length - 1 - j)) t
    rw [Int.pow_succ]
    rcases Nat.lt_or_ge t p.length with h | h
    · rw [cf_rstep (by rw [length_rsteps]; exact h)]
      generalize p.length - 1 - j - (q.length - 1) = sh
      generalize cf (rsteps p q j) (p.length - 1 - j) = R
      generalize cf (rsteps p q j) t = R' at h0 ⊢
      generalize (ps s * ps q).c t = X at h0 ⊢
      generalize cf q (q.length - 1) ^ j = L at h0 ⊢
      generalize cf q (q.length - 1) = l at h0 ⊢
      have e : L * l * cf p t = l * X + R' * l := by rw [Int.mul_assoc, Int.mul_comm l, ← Int.mul_assoc, h0]; grind
      rw [e]
      by_cases h1 : sh ≤ t
      · rw [if_pos h1, ps_c]
        by_cases h2 : t < sh + q.length
        · rw [if_pos ⟨h1, h2⟩]; omega
        · rw [if_neg (by omega), cf_ge (p := q) (i := t - _) (by omega)]; omega
      · rw [if_neg h1, if_neg (by omega)]; omega
    · have z1 : cf p t = 0 := cf_ge h
      have z2 : cf (rsteps p q j) t = 0 := cf_ge (by rw [length_rsteps]; exact h)
      have z3 : cf (rstep q (rsteps p q j) (p.length - 1 - j)) t = 0 := cf_ge (by rw [length_rstep, length_rsteps]; exact h)
      have z4 : cf q (t - (p.length - 1 - j - (q.length - 1))) = 0 := cf_ge (by omega)
      rw [z1, z2, Int.mul_zero, Int.add_zero] at h0
      rw [z1, z3, if_pos (by omega), ps_c, z4, ← h0]; simp
theorem prest_id (p : List Int) {q : List Int} (hq : q ≠ []) : ∃ (k : Nat) (s : List Int), ∀ t, cf q (q.length - 1) ^ k * cf p t = (ps s * ps q).c t + cf (prest p q) t := by
  have hq' : 0 < q.length := List.length_pos_iff.2 hq
  rcases Nat.lt_or_ge p.length q.length with h | h
  · refine ⟨0, [], fun t => ?_⟩
    rw [mul_zero_l (fun t => cf_ge (Nat.zero_le _)), Int.pow_zero]
    unfold prest; rw [if_pos h]; omega
  · obtain ⟨s, hs⟩ := rsteps_id hq' h _ (Nat.le_refl _)
    refine ⟨p.length - q.length + 1, s, fun t => ?_⟩
    rw [hs t]
    unfold prest
    rw [if_neg (by omega), cf_tzl]
theorem length_prest_lt (p : List Int) {q : List Int} (hq : q ≠ []) : (prest p q).length < q.length := by
  have hq' : 0 < q.length := List.length_pos_iff.2 hq
  unfold prest
  split
  · assumption
  · have := tzl_len_le (p := rsteps p q (p.length - q.length + 1)) (n := q.length - 1) fun i hi => rsteps_top hq' (by omega) _ (Nat.le_refl _) i (by omega)
    omega
theorem tr_prest {p q : List Int} (hp : Tr p) : Tr (prest p q) := by
  unfold prest; split
  · exact hp
  · exact tr_tzl _
/-! the same but for a factor -/
def Sim (a b : List Int) : Prop := ∃ m n : Int, m ≠ 0 ∧ n ≠ 0 ∧ ∀ i, m * cf a i = n * cf b i
theorem Sim.refl (a : List Int) : Sim a a := ⟨1, 1, by decide, by decide, fun _ => rfl⟩
theorem Sim.symm {a b : List Int} : Sim a b → Sim b a := fun ⟨m, n, hm, hn, h⟩ => ⟨n, m, hn, hm, fun i => (h i).symm⟩
theorem Sim.trans {a b c : List Int} : Sim a b → Sim b c → Sim a c := fun ⟨m, n, hm, hn, h⟩ ⟨u, v, hu, hv, k⟩ =>
  ⟨m * u, n * v, Int.mul_ne_zero hm hu, Int.mul_ne_zero hn hv, fun i => by have h1 := h i; have h2 := k i; grind⟩
theorem Sim.zero {a b : List Int} (h : Sim a b) {i : Nat} (hi : cf a i = 0) : cf b i = 0 := by
  obtain ⟨m, n, hm, hn, h⟩ := h
  have := h i
  rw [hi, Int.mul_zero] at this
  rcases Int.mul_eq_zero.1 this.symm with h | h
  · exact absurd h hn
  · exact h
theorem Sim.len_le {a b : List Int} (h : Sim a b) (hb : Tr b) : b.length ≤ a.length := by
  rcases Nat.lt_or_ge a.length b.length with hl | hl
  · exfalso
    have hne : b ≠ [] := List.length_pos_iff.1 (by omega)
    exact hb.mem hne (h.zero (cf_ge (by omega)))
  · exact hl
theorem Sim.len {a b : List Int} (h : Sim a b) (ha : Tr a) (hb : Tr b) : a.length = b.length := Nat.le_antisymm (h.symm.len_le ha) (h.len_le hb)
theorem Sim.nil {a b : List Int} (h : Sim a b) (hb : Tr b) (ha : a = []) : b = [] := by
  have := h.len_le hb
  rw [ha] at this
  exact List.eq_nil_of_length_eq_zero (by simpa using this)
theorem prest_sim {a b a' b' : List Int} (ha : Tr a) (ha' : Tr a') (hb : Tr b) (hb' : Tr b') (h0 : b ≠ []) (h1 : Sim a a') (h2 : Sim b b') : Sim (prest a b) (prest a' b') := by
  have h0' : b' ≠ [] := fun e => h0 (h2.symm.nil hb e)
  have hlen := h2.len hb hb'
  obtain ⟨k, s, hs⟩ := prest_id a h0
  obtain ⟨k', s', hs'⟩ := prest_id a' h0'
  have hL : cf b (b.length - 1) ^ k ≠ 0 := int_pow_ne (hb.mem h0) k
  have hL' : cf b' (b'.length - 1) ^ k' ≠ 0 := int_pow_ne (hb'.mem h0') k'
  generalize cf b (b.length - 1) ^ k = L at hs hL
  generalize cf b' (b'.length - 1) ^ k' = L' at hs' hL'
  obtain ⟨m, n, hm, hn, e1⟩ := h1
  obtain ⟨u, v, hu, hv, e2⟩ := h2
  have l1 := length_prest_lt a h0
  have l2 := length_prest_lt a' h0'
  have key : ∀ t, (ps (psub (pscale s (L' * m * v)) (pscale s' (L * n * u))) * ps b').c t = cf (psub (pscale (prest a' b') (L * n * u)) (pscale (prest a b) (L' * m * u))) t := fun t => by
    rw [mul_lin2, cf_psub, cf_pscale, cf_pscale]
    have a1 := hs t
    have a2 := hs' t
    have a3 := e1 t
    have a4 := mul_scale_r (ps s) b b' u v e2 t
    generalize (ps s * ps b).c t = X at a1 a4
    generalize (ps s * ps b').c t = Y at a4
    generalize (ps s' * ps b').c t = Z at a2
    generalize cf a t = A at a1 a3
    generalize cf a' t = A' at a2 a3
    generalize cf (prest a b) t = R at a1
    generalize cf (prest a' b') t = R' at a2
    have : L' * m * v * Y = L' * m * u * X := by grind
    grind
  have z := mul_low hb' h0' key fun t ht => by
    rw [cf_psub, cf_pscale, cf_pscale, cf_ge (p := prest a' b') (by omega), cf_ge (p := prest a b) (by omega)]; omega
  refine ⟨L' * m * u, L * n * u, by simp [*], by simp [*], fun t => ?_⟩
  have := key t
  rw [mul_zero_l z, cf_psub, cf_pscale, cf_pscale] at this
  grind
/-! contents -/
theorem foldl_gcd_scale (c : Int) : ∀ (p : List Int) (g : Int), 0 ≤ g → (p.map (· * c)).foldl (fun g c => (Int.gcd g c : Int)) (g * c.natAbs) = p.foldl (fun g c => (Int.gcd g c : Int)) g * c.natAbs
  | [], g, _ => rfl
  | x :: p, g, hg => by
    rw [List.map_cons, List.foldl_cons, List.foldl_cons, ← foldl_gcd_scale c p _ (by omega)]
    congr 1
    have : Int.gcd (g * (c.natAbs : Int)) (x * c) = Int.gcd g x * c.natAbs := by
      unfold Int.gcd
      rw [Int.natAbs_mul, Int.natAbs_mul, Int.natAbs_natCast, Nat.gcd_mul_right]
    rw [this]; push_cast; rfl
theorem pcont_map (p : List Int) (c : Int) : pcont (p.map (· * c)) = pcont p * c.natAbs := by
  have := foldl_gcd_scale c p 0 (Int.le_refl _)
  rw [Int.zero_mul] at this
  exact this
theorem pprim_mul (p : List Int) (i : Nat) : cf (pprim p) i * pcont p = cf p i := by
  rw [cf_pprim]; exact Int.ediv_mul_cancel (pcont_dvd p i)
theorem pprim_nil : pprim [] = [] := rfl
theorem pcont_ne {p : List Int} (h : Tr p) (h0 : p ≠ []) : pcont p ≠ 0 := fun e => h.mem h0 ((pcont_zero_iff p).1 e _)
theorem pcont_pprim {p : List Int} (h : Tr p) (h0 : p ≠ []) : pcont (pprim p) = 1 := by
  have h1 := pcont_ne h h0
  have h2 := pcont_map (pprim p) (pcont p)
  rw [show (pprim p).map (· * pcont p) = p from list_ext (by rw [List.length_map, length_pprim]) fun i _ => by rw [cf_map _ _ (by simp)]; exact pprim_mul p i] at h2
  have h3 := pcont_nonneg p
  have h4 : pcont p * (pcont (pprim p) - 1) = 0 := by
    rw [Int.mul_sub, Int.mul_one, Int.mul_comm]
    have : ((pcont p).natAbs : Int) = pcont p := by omega
    rw [this] at h2; omega
  rcases Int.mul_eq_zero.1 h4 with h5 | h5 <;> omega
theorem pprim_of_one {p : List Int} (h : pcont p = 1) : pprim p = p := list_ext (length_pprim p) fun i _ => by rw [cf_pprim, h, Int.ediv_one]
theorem pprim_idem {p : List Int} (h : Tr p) : pprim (pprim p) = pprim p := by
  by_cases h0 : p = []
  · subst h0; rfl
  · exact pprim_of_one (pcont_pprim h h0)
theorem sim_pprim {p : List Int} (h : Tr p) : Sim (pprim p) p := by
  by_cases h0 : p = []
  · subst h0; exact Sim.refl _
  · exact ⟨pcont p, 1, pcont_ne h h0, by decide, fun i => by rw [Int.one_mul, Int.mul_comm]; exact pprim_mul p i⟩
/-- primitive, with a positive leading coefficient -/
def nrm (p : List Int) : List Int := gnorm (pprim p)
theorem sim_sign {x y : List Int} (hx : Tr x) (hy : Tr y) (h0 : x ≠ []) (h1 : pcont x = 1) (h2 : pcont y = 1) (h : Sim x y) : x = y ∨ ∀ i, cf x i = - cf y i := by
  have hl := h.len hx hy
  obtain ⟨m, n, hm, hn, e⟩ := h
  have h3 := pcont_map x m
  have h4 := pcont_map y n
  rw [show x.map (· * m) = y.map (· * n) from list_ext (by simp [hl]) fun i _ => by
    rw [cf_map _ _ (by simp), cf_map _ _ (by simp), Int.mul_comm, Int.mul_comm (cf y i)]; exact e i, h4, h1, h2] at h3
  have h5 : m = n ∨ m = -n := by omega
  rcases h5 with rfl | rfl
  · exact .inl (list_ext hl fun i _ => Int.eq_of_mul_eq_mul_left hm (e i))
  · exact .inr fun i => Int.eq_of_mul_eq_mul_left hn (by have := e i; grind)
theorem cf_gnorm (g : List Int) (i : Nat) : cf (gnorm g) i = if g.length ≠ 0 ∧ cf g (g.length - 1) < 0 then - cf g i else cf g i := by
  unfold gnorm; split
  · rw [cf_pscale]; omega
  · rfl
theorem tr_gnorm {g : List Int} (h : Tr g) : Tr (gnorm g) := by
  unfold gnorm; split
  · exact tr_pscale _ _
  · exact h
theorem sim_gnorm (g : List Int) : Sim (gnorm g) g := by
  by_cases h : g.length ≠ 0 ∧ cf g (g.length - 1) < 0
  · exact ⟨-1, 1, by decide, by decide, fun i => by rw [cf_gnorm, if_pos h]; omega⟩
  · exact ⟨1, 1, by decide, by decide, fun i => by rw [cf_gnorm, if_neg h]⟩
theorem nrm_sim {a b : List Int} (ha : Tr a) (hb : Tr b) (h : Sim a b) : nrm a = nrm b := by
  by_cases h0 : a = []
  · rw [h.nil hb h0, h0]
  · have h0' : b ≠ [] := fun e => h0 (h.symm.nil ha e)
    have hs : Sim (pprim a) (pprim b) := (sim_pprim ha).trans (h.trans (sim_pprim hb).symm)
    have hx := tr_pprim ha
    have hy := tr_pprim hb
    have hl := hs.len hx hy
    have hx0 : pprim a ≠ [] := fun e => h0 (List.eq_nil_of_length_eq_zero (by rw [← length_pprim, e]; rfl))
    rcases sim_sign hx hy hx0 (pcont_pprim ha h0) (pcont_pprim hb h0') hs with e | e
    · unfold nrm; rw [e]
    · unfold nrm
      refine (tr_gnorm hx).ext (tr_gnorm hy) fun i => ?_
      rw [cf_gnorm, cf_gnorm, ← hl, e i, e ((pprim a).length - 1)]
      have hne : cf (pprim b) ((pprim a).length - 1) ≠ 0 := by rw [hl]; exact hy.mem (fun e2 => hx0 (List.eq_nil_of_length_eq_zero (by rw [hl, e2]; rfl)))
      have hl0 : (pprim a).length ≠ 0 := fun e2 => hx0 (List.eq_nil_of_length_eq_zero e2)
      by_cases h3 : cf (pprim b) ((pprim a).length - 1) < 0
      · rw [if_neg (by omega), if_pos ⟨hl0, h3⟩]
      · rw [if_pos (by omega), if_neg (by omega)]; omega
/-! Euclid's chain -/
theorem eu_sim : ∀ (f : Nat) {a b a' b' : List Int}, Tr a → Tr a' → Tr b → Tr b' → Sim a a' → Sim b b' → Sim (eu f a b) (eu f a' b')
  | 0, _, _, _, _, _, _, _, _, h, _ => h
  | f + 1, a, b, a', b', ha, ha', hb, hb', h1, h2 => by
    unfold eu
    by_cases h0 : b = []
    · rw [if_pos h0, if_pos (h2.nil hb' h0)]; exact h1
    · rw [if_neg h0, if_neg (fun e => h0 (h2.symm.nil hb e))]
      have t1 := tr_prest (q := b) ha
      have t2 := tr_prest (q := b') ha'
      exact eu_sim f hb hb' (tr_pprim t1) (tr_pprim t2) h2 ((sim_pprim t1).trans ((prest_sim ha ha' hb hb' h0 h1 h2).trans (sim_pprim t2).symm))
theorem eu_tr : ∀ (f : Nat) {a b : List Int}, Tr a → Tr b → Tr (eu f a b)
  | 0, _, _, h, _ => h
  | f + 1, a, b, ha, hb => by
    unfold eu
    split
    · exact ha
    · exact eu_tr f hb (tr_pprim (tr_prest ha))
theorem eu_more : ∀ (f k : Nat) {a b : List Int}, eok f a b → eu (f + k) a b = eu f a b
  | 0, k, a, b, h => by rw [show b = [] from h, eu_nil, eu_nil]
  | f + 1, k, a, b, h => by
    rcases h with h | h
    · rw [h, eu_nil, eu_nil]
    · by_cases h0 : b = []
      · rw [h0, eu_nil, eu_nil]
      · rw [show f + 1 + k = f + k + 1 by omega]
        unfold eu
        rw [if_neg h0, if_neg h0]
        exact eu_more f k h.2
theorem eu_prim : ∀ (f : Nat) {a b : List Int}, Tr a → Tr b → pprim a = a → pprim b = b → pprim (eu f a b) = eu f a b
  | 0, _, _, _, _, h, _ => h
  | f + 1, a, b, ha, hb, h1, h2 => by
    unfold eu
    split
    · exact h1
    · exact eu_prim f hb (tr_pprim (tr_prest ha)) h2 (pprim_idem (tr_prest ha))
theorem tr_gA {p q : List Int} (hp : Tr p) (hq : Tr q) : Tr (gA p q) := by unfold gA; split <;> exact tr_pprim (by assumption)
theorem tr_gB {p q : List Int} (hp : Tr p) (hq : Tr q) : Tr (gB p q) := by unfold gB; split <;> exact tr_pprim (by assumption)
theorem pgcd_nrm {F : Nat} {p q : List Int} (hp : Tr p) (hq : Tr q) : pgcd F p q = nrm (eu F (gA p q) (gB p q)) := by
  unfold pgcd nrm
  rw [eu_prim F (tr_gA hp hq) (tr_gB hp hq)]
  · unfold gA; split
    · exact pprim_idem hq
    · exact pprim_idem hp
  · unfold gB; split
    · exact pprim_idem hp
    · exact pprim_idem hq
/-- the two ways of the greatest common divisor agree -/
theorem gcd_two {F G : Nat} {p q : List Int} (hp : Tr p) (hq : Tr q) (h1 : eok F p q) (h2 : eok G (gA p q) (gB p q)) : gnorm (pprim (eu F p q)) = pgcd G p q := by
  rw [pgcd_nrm hp hq]
  show nrm (eu F p q) = _
  rw [← eu_more F (G + 1) h1, ← eu_more G F h2]
  refine nrm_sim (eu_tr _ hp hq) (eu_tr _ (tr_gA hp hq) (tr_gB hp hq)) ?_
  rcases Nat.lt_or_ge p.length q.length with h | h
  · rw [show gA p q = pprim q from if_pos h, show gB p q = pprim p from if_pos h]
    rw [show F + (G + 1) = F + G + 1 by omega, show G + F = F + G by omega]
    have h0 : q ≠ [] := List.length_pos_iff.1 (by omega)
    have : eu (F + G + 1) p q = eu (F + G) q (pprim p) := by
      conv => lhs; unfold eu
      rw [if_neg h0, show prest p q = p from if_pos h]
    rw [this]
    exact eu_sim _ hq (tr_pprim hq) (tr_pprim hp) (tr_pprim hp) (sim_pprim hq).symm (Sim.refl _)
  · rw [show gA p q = pprim p from if_neg (by omega), show gB p q = pprim q from if_neg (by omega)]
    have h3 : eu (F + (G + 1)) p q = eu (F + G) p q := by rw [eu_more F (G + 1) h1, eu_more F G h1]
    rw [h3, show G + F = F + G by omega]
    exact eu_sim _ hp (tr_pprim hp) hq (tr_pprim hq) (sim_pprim hp).symm (sim_pprim hq).symm
/-! sizes of Euclid's chain -/
def chk : Nat → Nat → Nat → Nat → Nat → Bool
  | 0, _, lb, _, _ => Nat.beq lb 0
  | f + 1, la, lb, A, B => Nat.beq lb 0 || (bif Nat.blt la lb then chk f lb la B A else
      Nat.ble (A + (la - lb + 1) * B) 65537 && (List.range lb).all fun l => chk f lb l B (bif Nat.ble l 1 then 2 else A + (la - lb + 1) * B))
theorem msz_pprim {p : List Int} : msz (pprim p) ≤ msz p := msz_le (sz_pprim (msz_sz p))
theorem msz_pprim1 {p : List Int} (h : Tr p) (hl : p.length ≤ 1) : msz (pprim p) ≤ 1 := by
  match p, hl with
  | [], _ => exact Nat.zero_le _
  | [x], _ =>
    have hx : x ≠ 0 := h.mem (by simp)
    have h1 : pcont [x] = x.natAbs := by
      show ((Int.gcd 0 x : Nat) : Int) = _
      rw [Int.gcd_zero_left]
    show msz [x / pcont [x]] ≤ 1
    rw [h1]
    have : x / (x.natAbs : Int) = 1 ∨ x / (x.natAbs : Int) = -1 := by
      rcases Int.lt_or_gt_of_ne hx with h | h
      · right; rw [show (x.natAbs : Int) = -x by omega, Int.ediv_neg, Int.ediv_self hx]
      · left; rw [show (x.natAbs : Int) = x by omega, Int.ediv_self hx]
    rcases this with h | h <;> rw [h] <;> decide
theorem msz_prest {p q : List Int} (h : q.length ≤ p.length) : msz (prest p q) ≤ msz p + (p.length - q.length + 1) * (msz q + 1) := by
  unfold prest
  rw [if_neg (by omega)]
  exact msz_le (sz_rsteps p q _).tzl
theorem eok_chk : ∀ (f : Nat) {a b : List Int} {A B : Nat}, Tr a → Tr b → msz a + 1 ≤ A → msz b + 1 ≤ B → chk f a.length b.length A B = true → eok f a b
  | 0, a, b, A, B, _, _, _, _, h => List.eq_nil_of_length_eq_zero (Nat.eq_of_beq_eq_true h)
  | f + 1, a, b, A, B, ha, hb, h1, h2, h => by
    by_cases h0 : b = []
    · exact .inl h0
    · have hl : 0 < b.length := List.length_pos_iff.2 h0
      unfold chk at h
      rw [Bool.or_eq_true] at h
      rcases h with h | h
      · have := Nat.eq_of_beq_eq_true h; omega
      · right
        unfold derr
        rw [if_neg (by omega)]
        cases hlt : Nat.blt a.length b.length with
        | true =>
          rw [hlt, cond_true] at h
          have hlt : a.length < b.length := by simpa using hlt
          rw [if_pos hlt, show prest a b = a from if_pos hlt]
          refine ⟨rfl, eok_chk f hb (tr_pprim ha) h2 (Nat.le_trans (Nat.add_le_add_right msz_pprim 1) h1) ?_⟩
          rw [length_pprim]; exact h
        | false =>
          rw [hlt, cond_false, Bool.and_eq_true] at h
          have hge : b.length ≤ a.length := by
            rcases Nat.lt_or_ge a.length b.length with h3 | h3
            · have : Nat.blt a.length b.length = true := by simpa using h3
              rw [hlt] at this; cases this
            · exact h3
          have h3 : A + (a.length - b.length + 1) * B ≤ 65537 := Nat.le_of_ble_eq_true h.1
          have h4 : (a.length - b.length + 1) * (msz b + 1) ≤ (a.length - b.length + 1) * B := Nat.mul_le_mul_left _ h2
          rw [if_neg (by omega), if_neg (by omega)]
          refine ⟨rfl, ?_⟩
          have h5 := length_prest_lt a h0
          have h6 := List.all_eq_true.1 h.2 (prest a b).length (List.mem_range.2 h5)
          have t1 := tr_prest (q := b) ha
          refine eok_chk f hb (tr_pprim t1) h2 ?_ (by rw [length_pprim]; exact h6)
          cases hb1 : Nat.ble (prest a b).length 1 with
          | true => exact Nat.succ_le_succ (msz_pprim1 t1 (Nat.le_of_ble_eq_true hb1))
          | false =>
            rw [cond_false]
            have := msz_prest (p := a) (q := b) hge
            have := msz_pprim (p := prest a b)
            omega
theorem chk9 : ((List.range 10).all fun a => (List.range 10).all fun b => chk 12 a b 65 65) = true := by decide +kernel
theorem eok9 {a b : List Int} (ha : Tr a) (hb : Tr b) (h1 : msz a ≤ 64) (h2 : msz b ≤ 64) (l1 : a.length ≤ 9) (l2 : b.length ≤ 9) : eok 12 a b :=
  eok_chk 12 ha hb (A := 65) (B := 65) (by omega) (by omega) (List.all_eq_true.1 (List.all_eq_true.1 chk9 a.length (List.mem_range.2 (by omega))) b.length (List.mem_range.2 (by omega)))
theorem eok9g {a b : List Int} (ha : Tr a) (hb : Tr b) (h1 : msz a ≤ 64) (h2 : msz b ≤ 64) (l1 : a.length ≤ 9) (l2 : b.length ≤ 9) : eok 12 (gA a b) (gB a b) := by
  have m1 := msz_pprim (p := a)
  have m2 := msz_pprim (p := b)
  refine eok9 (tr_gA ha hb) (tr_gB ha hb) ?_ ?_ ?_ ?_
  · unfold gA; split <;> omega
  · unfold gB; split <;> omega
  · unfold gA; split <;> rw [length_pprim] <;> omega
  · unfold gB; split <;> rw [length_pprim] <;> omega
theorem gfull9 {a b : List Int} (h1 : msz a ≤ 64) (h2 : msz b ≤ 64) (l1 : a.length ≤ 9) (l2 : b.length ≤ 9) : ¬ gfull a b := fun h => by
  have h3 : (max a.length b.length + 2) * (max a.length b.length + 2) * (max (msz a) (msz b) + 8) ≤ 11 * 11 * 72 := Nat.mul_le_mul (Nat.mul_le_mul (by omega) (by omega)) (by omega)
  have := h.2.2
  omega
end Go.Sky
namespace Go.Sky
open Go.Proofs
set_option linter.unusedVariables false
/-- at most 8 bytes each -/
def s8 (l : List Int) : Prop := ∀ x ∈ l, (bstr x.natAbs).size ≤ 8
theorem s8_zero (l : List Int) : s8 (l.take 0) := fun x hx => by rw [List.take_zero] at hx; cases hx
theorem s8_snoc {l : List Int} {j : Nat} (hj : j < l.length) (h : s8 (l.take j)) (hx : (bstr (l.getD j 0).natAbs).size ≤ 8) : s8 (l.take (j + 1)) := fun x hm => by
  rw [take_snoc 0 l j hj, List.mem_append] at hm
  rcases hm with hm | hm
  · exact h x hm
  · rw [List.mem_singleton.1 hm]; exact hx
theorem s8_all {l : List Int} {j : Nat} (h : s8 (l.take j)) (hj : l.length ≤ j) : s8 l := by rwa [List.take_of_length_le hj] at h
theorem s8_sz {l : List Int} (h : s8 l) : Sz 64 l := Sz.of_mem fun x hx => bstr_bl (n := 8) (h x hx)
abbrev Z0 : SL × List Int := ((none, 0, 0), [])
theorem s8_two {a b : SL × List Int} {i : Nat} (h : ∀ k, k < i → s8 ([a, b].getD k Z0).2) (hi : i = 2) : s8 a.2 ∧ s8 b.2 := by
  subst hi
  exact ⟨h 0 (by omega), h 1 (by omega)⟩
theorem s8_next {ls : List (SL × List Int)} {i j : Nat} (h : ∀ k, k < i → s8 (ls.getD k Z0).2) (hb : s8 ((ls.getD i Z0).2.take j)) (hj : (ls.getD i Z0).2.length ≤ j) : ∀ k, k < i + 1 → s8 (ls.getD k Z0).2 := fun k hk => by
  rcases Nat.lt_or_ge k i with h1 | h1
  · exact h k h1
  · obtain rfl : k = i := by omega
    exact s8_all hb hj
theorem vp_eu : ∀ (f : Nat) {a b : List Int}, Vp a → Vp b → eok f a b → Vp (eu f a b)
  | 0, _, _, h, _, _ => h
  | f + 1, a, b, ha, hb, h => by
    unfold eu
    split
    · exact ha
    · rcases h with h | h
      · contradiction
      · exact vp_eu f hb (vp_pprim (vp_prest ha h.1)) h.2
theorem vp_gnorm {g : List Int} (h : Vp g) : Vp (gnorm g) := by
  unfold gnorm
  split
  · refine ⟨fun i => by rw [cf_pscale]; exact bl_negm h.sz i, tr_pscale _ _, Nat.le_trans (pscale_len _ _) h.len⟩
  · exact h
theorem vp_pgcd {F : Nat} {p q : List Int} (hp : Vp p) (hq : Vp q) (h : eok F (gA p q) (gB p q)) : Vp (pgcd F p q) := vp_gnorm (vp_eu F (vp_gA hp hq) (vp_gB hp hq) h)
theorem derr9 {p q : List Int} (h0 : q.length ≠ 0) (hp : msz p ≤ 64) (hq : msz q ≤ 64) (hl : p.length ≤ 9) : derr p q = 0 := by
  unfold derr
  rw [if_neg h0]
  split
  · rfl
  · have : (p.length - q.length + 1) * (msz q + 1) ≤ 10 * 65 := Nat.mul_le_mul (by omega) (by omega)
    rw [if_neg (by omega)]
theorem derr_z (p : List Int) {q : List Int} (h0 : q.length = 0) : derr p q = 3 := if_pos h0
theorem rest9 {p q : List Int} (hp : msz p ≤ 64) (hq : msz q ≤ 64) (hl : p.length ≤ 9) : msz p + (p.length - q.length + 1) * (msz q + 1) ≤ 714 := by
  have : (p.length - q.length + 1) * (msz q + 1) ≤ 10 * 65 := Nat.mul_le_mul (by omega) (by omega)
  omega
theorem sz_pquoz {p q : List Int} (hd : pdv p q) (hF : msz p + (p.length - q.length + 1) * (msz q + 1) ≤ 714) : Sz 65536 (pquoz p q) ∧ (pquoz p q).length ≤ p.length - q.length + 1 := by
  unfold pquoz
  split
  · exact ⟨Sz.nil _, Nat.zero_le _⟩
  · rename_i h
    rcases hd with hd | hd
    · exact absurd hd h
    · refine ⟨?_, ?_⟩
      · have := sz_pquo (p := p) (q := q) (by omega) hd.2.1 (p.length - q.length + 1)
        rw [← dout_all]; exact this.tzl
      · have h2 := tzl_le (dout p q (p.length - q.length + 1))
        rw [dout_all, length_dout] at h2
        exact h2
end Go.Sky
namespace Go.Sky
open Go.Proofs
set_option maxRecDepth 20000
set_option maxHeartbeats 4000000
set_option linter.unusedVariables false
set_option linter.unusedSimpArgs false
set_option maxHeartbeats 4000000 in
theorem law_divides_ok (v u : Value) (xs ys : List Int) (hv : Vp xs) (hu : Vp ys) (hy0 : ys.length ≠ 0) : Cal Tryz.prog 6 #[v, u] [slp 2 wv v xs, slp 2 wv u ys] false (G := Unit) (fun _ => True) (fun _ => .bool true) (fun _ => []) := by
 refine cal_in Tryz.func6 rfl Tryz.ntmps6 rfl ⟨rfl, rfl, trivial⟩ ?_
 intro w0 sc hw hsc
 simp only [enumEnv, enumPre]
 refine e_imp (s_nil 999 2 25 wv) ?_
 refine e_imp (s_pub 999 rfl rfl pV) ?_
 refine e_seq ?_
 have hx25 := hv.len
 have hy25 := hu.len
 refine e_reg (as_ rfl rfl (l_nil (x_then (e_seq (e_seq (e_ex (f_slice 1 rfl rd_slp) (fun sx hssx => ?_)))))))
 subst hssx
 refine e_ex (f_slice 2 rfl rd_slp) (fun sx_2 hssx_2 => ?_)
 subst hssx_2
 refine e_reg (mv rfl rfl (mv rfl rfl (tt (t_bsg (i := 3) (ivs := [(0, _), (1, _)]) (enc := encS) [(sx, xs), (sx_2, ys)] rfl rfl rfl ⟨rfl, rfl, rfl, rfl, trivial⟩ Tryz.underlying68 Tryz.ti23 rfl rfl rfl rfl rfl rfl pS.cells rfl rfl hw) rfl (fun v _ => ?_))))
 refine l_imp (s_many_nil qZ 900) ?_
 refine l_imp (s_many_snoc (q := qZ) (z := (sx, xs)) 900 1 901 rfl rfl rfl rfl rfl) ?_
 refine l_imp (s_many_snoc (q := qZ) (z := (sx_2, ys)) 901 2 902 rfl rfl rfl rfl rfl) ?_
 refine l_imp (s_pub 3 rfl rfl pS) ?_
 refine l_imp (s_mkdeep 3 902 971 rfl rfl rfl rfl) ?_
 refine tt (t_call (n := 3) (law_short_z _ _) rfl rfl rfl ⟨rfl, trivial⟩ Tryz.call10 (pre_same 971 rfl rfl rfl pre_nil) rfl hw) rfl (fun _ _ => ?_)
 refine dt (d_notb rfl rfl) rfl ?_
 refine mv rfl rfl (l_splitb (d := 24) rfl (fun s189 => ?_) (fun s189 => ?_))
 ·refine gsk rfl rfl rfl rfl rfl (gsk rfl rfl rfl rfl rfl (gsk rfl rfl rfl rfl rfl (gsk rfl rfl rfl rfl rfl (gsku rfl rfl rfl ?_))))
  refine gsku rfl rfl rfl ?_
  refine gsku rfl rfl rfl ?_
  refine gsk rfl rfl rfl rfl rfl (dt (d_pickt rfl rfl rfl) rfl ?_)
  refine mv rfl rfl (gsk rfl rfl rfl rfl rfl (gsk rfl rfl rfl rfl rfl (gsk rfl rfl rfl rfl rfl (gsk rfl rfl rfl rfl rfl (gsku rfl rfl rfl ?_)))))
  refine gsku rfl rfl rfl ?_
  refine gsku rfl rfl rfl ?_
  refine gsk rfl rfl rfl rfl rfl (dt (d_pickt rfl rfl rfl) rfl ?_)
  refine l_nil (x_then (e_condt rfl ?_))
  refine e_seq (e_reg (tt (t_call (n := 3) (law_known) rfl rfl rfl trivial Tryz.call11 pre_nil rfl hw) rfl (fun _ _ => ?_)))
  refine as_ rfl rfl (l_nil (x_then (e_ret (x_ret ?_))))
  exact x_end (.inl rfl) hsc () _ (fun a w hs => res1 hs Tryz.results6 rfl) rfl trivial rfl give_nil
 ·refine gdt (d_mv rfl rfl) rfl rfl rfl rfl ?_
  refine gdt (d_len rfl rfl (i := 1) rfl rd_slp Tryz.underlying23) rfl rfl rfl rfl ?_
  refine gdt (d_gtr rfl rfl rfl) rfl rfl rfl rfl ?_
  refine gdt (d_mv rfl rfl) rfl rfl rfl rfl ?_
  refine l_split (d := 28) rfl (fun s189_2 => ?_) (fun s189_2 => ?_)
  ·refine gdt (d_mv rfl rfl) rfl rfl rfl rfl ?_
   refine gdt (d_len rfl rfl (i := 1) rfl rd_slp Tryz.underlying23) rfl rfl rfl rfl ?_
   refine gdt (det_is (r' := .bool true) (d_neq rfl rfl rfl) (congrArg Value.bool (decide_eq_true (by omega)))) rfl rfl rfl rfl ?_
   refine gdt (d_pickt rfl rfl rfl) rfl rfl rfl rfl ?_
   refine dt (d_pickf rfl rfl rfl) rfl ?_
   refine mv rfl rfl (gsk rfl rfl rfl rfl rfl (gsk rfl rfl rfl rfl rfl (gsk rfl rfl rfl rfl rfl (gsk rfl rfl rfl rfl rfl (gsku rfl rfl rfl ?_)))))
   refine gsku rfl rfl rfl ?_
   refine gsku rfl rfl rfl ?_
   refine gsk rfl rfl rfl rfl rfl (dt (d_pickt rfl rfl rfl) rfl ?_)
   refine l_nil (x_then (e_condt rfl ?_))
   refine e_seq (e_reg (tt (t_call (n := 3) (law_known) rfl rfl rfl trivial Tryz.call11 pre_nil rfl hw) rfl (fun _ _ => ?_)))
   refine as_ rfl rfl (l_nil (x_then (e_ret (x_ret ?_))))
   exact x_end (.inl rfl) hsc () _ (fun a w hs => res1 hs Tryz.results6 rfl) rfl trivial rfl give_nil
  ·refine gsk rfl rfl rfl rfl rfl (gsk rfl rfl rfl rfl rfl (gsk rfl rfl rfl rfl rfl (gdt (d_pickf rfl rfl rfl) rfl rfl rfl rfl ?_)))
   refine dt (d_pickf rfl rfl rfl) rfl ?_
   refine mv rfl rfl (gdt (d_mv rfl rfl) rfl rfl rfl rfl ?_)
   refine gdt (d_len rfl rfl (i := 2) rfl rd_slp Tryz.underlying23) rfl rfl rfl rfl ?_
   refine gdt (d_gtr rfl rfl rfl) rfl rfl rfl rfl ?_
   refine gdt (d_mv rfl rfl) rfl rfl rfl rfl ?_
   refine l_split (d := 38) rfl (fun s189_3 => ?_) (fun s189_3 => ?_)
   ·refine gdt (d_mv rfl rfl) rfl rfl rfl rfl ?_
    refine gdt (d_len rfl rfl (i := 2) rfl rd_slp Tryz.underlying23) rfl rfl rfl rfl ?_
    refine gdt (det_is (r' := .bool true) (d_neq rfl rfl rfl) (congrArg Value.bool (decide_eq_true (by omega)))) rfl rfl rfl rfl ?_
    refine gdt (d_pickt rfl rfl rfl) rfl rfl rfl rfl ?_
    refine dt (d_pickf rfl rfl rfl) rfl ?_
    refine l_nil (x_then (e_condt rfl ?_))
    refine e_seq (e_reg (tt (t_call (n := 3) (law_known) rfl rfl rfl trivial Tryz.call11 pre_nil rfl hw) rfl (fun _ _ => ?_)))
    refine as_ rfl rfl (l_nil (x_then (e_ret (x_ret ?_))))
    exact x_end (.inl rfl) hsc () _ (fun a w hs => res1 hs Tryz.results6 rfl) rfl trivial rfl give_nil
   ·refine gsk rfl rfl rfl rfl rfl (gsk rfl rfl rfl rfl rfl (gsk rfl rfl rfl rfl rfl (gdt (d_pickf rfl rfl rfl) rfl rfl rfl rfl ?_)))
    refine dt (d_pickf rfl rfl rfl) rfl ?_
    refine l_nil (x_then (e_condf rfl ?_))
    refine e_skip ?_
    refine x_then (e_seq (e_seq (e_reg (mv rfl rfl (mv rfl rfl (tt (t_bsg (i := 4) (ivs := [(0, _), (1, _)]) (enc := encS) [(sx, xs), (sx_2, ys)] rfl rfl rfl ⟨rfl, rfl, rfl, rfl, trivial⟩ Tryz.underlying68 Tryz.ti23 rfl rfl rfl rfl rfl rfl pS.cells rfl rfl hw) rfl (fun v_2 _ => ?_)))))))
    refine l_imp (s_many_nil qZ 900) ?_
    refine l_imp (s_many_snoc (q := qZ) (z := (sx, xs)) 900 1 901 rfl rfl rfl rfl rfl) ?_
    refine l_imp (s_many_snoc (q := qZ) (z := (sx_2, ys)) 901 2 902 rfl rfl rfl rfl rfl) ?_
    refine l_imp (s_pub 4 rfl rfl pS) ?_
    refine l_imp (s_mkdeep 4 902 997 rfl rfl rfl rfl) ?_
    refine dt (d_len rfl rfl (i := 997) rfl rd_deep Tryz.underlying68) rfl ?_
    refine mv rfl rfl (l_nil (x_then (e_block ?_)))
    have hll : ([(sx, xs), (sx_2, ys)] : List (SL × List Int)).length = 2 := rfl
    refine e_lp [(0, _), (1, _), (47, _), (48, _)] [(0, _), (1, _), (2, _), (999, _), (3, _), (971, _), (4, _), (997, _)] (fun (i : Nat) => [(49, .int .i64 (i : Int))]) (fun (i : Nat) => []) (fun (i : Nat) => (i ≤ 2) ∧ (∀ k, k < i → s8 ([(sx, xs), (sx_2, ys)].getD k Z0).2)) (fun (i : Nat) => 2 - i) 0 ⟨by first | omega | (dsimp only <;> omega), fun k hk => absurd hk (Nat.not_lt_zero _)⟩ ⟨rfl, rfl, rfl, rfl, rfl, trivial⟩ ⟨rfl, rfl, rfl, rfl, rfl, rfl, rfl, rfl, trivial⟩ ?_
    rintro i ⟨hi, ha⟩
    simp only [List.cons_append, List.nil_append]
    refine e_seq (e_reg (dt (d_lss rfl rfl rfl) rfl ?_))
    refine l_nil (x_then (e_seq (e_cond rfl (fun h192 => ?_) (fun h192 => ?_))))
    ·refine e_skip ?_
     refine x_then (e_seq (e_block (e_seq (e_reg (dt (d_ixa (ii := 997) rfl rfl rfl rfl rd_deep Tryz.underlying68 Tryz.sizeOf23 rfl (by first | omega | (simp only [List.length_set]; omega))) rfl ?_)))))
     refine dt (d_lde (ii := 997) Z0 rfl rfl rfl rd_deep pS (by first | omega | (simp only [List.length_set]; omega))) rfl ?_
     refine as_ rfl rfl (l_nil (x_then (e_seq (e_imp (s_deep 997 991 ([(sx, xs), (sx_2, ys)].getD i Z0) rfl rfl (getD_mem (by omega)) rfl) ?_))))
     refine e_fact (f_len (i := 991) rfl rd_slp) (fun hlr => ?_)
     refine e_reg (mv rfl rfl (dt (d_len rfl rfl (i := 991) rfl rd_slp Tryz.underlying23) rfl ?_))
     refine mv rfl rfl (l_nil (x_then (e_block (e_lp [(0, _), (1, _), (47, _), (48, _), (49, _), (53, _), (54, _)] [(0, _), (1, _), (2, _), (999, _), (3, _), (971, _), (4, _), (997, _), (991, _)] (fun (j : Nat) => [(55, .int .i64 (j : Int))]) (fun (j : Nat) => []) (fun (j : Nat) => (j ≤ ([(sx, xs), (sx_2, ys)].getD i Z0).2.length) ∧ (s8 (([(sx, xs), (sx_2, ys)].getD i Z0).2.take j))) (fun (j : Nat) => ([(sx, xs), (sx_2, ys)].getD i Z0).2.length - j) 0 ⟨by first | omega | (dsimp only <;> omega), s8_zero _⟩ ⟨rfl, rfl, rfl, rfl, rfl, rfl, rfl, rfl, trivial⟩ ⟨rfl, rfl, rfl, rfl, rfl, rfl, rfl, rfl, rfl, trivial⟩ ?_))))
     rintro j ⟨hj, hb⟩
     simp only [List.cons_append, List.nil_append]
     refine e_seq (e_reg (dt (d_lss rfl rfl rfl) rfl ?_))
     refine l_nil (x_then (e_seq (e_cond rfl (fun h193 => ?_) (fun h193 => ?_))))
     ·refine e_skip ?_
      refine x_then (e_seq (e_block (e_seq (e_reg (dt (d_ixa (ii := 991) rfl rfl rfl rfl rd_slp Tryz.underlying23 Tryz.sizeOf25 rfl (by first | omega | (simp only [List.length_set]; omega))) rfl ?_)))))
      refine dt (d_lde (ii := 991) 0 rfl rfl rfl rd_slp pV (by first | omega | (simp only [List.length_set]; omega))) rfl ?_
      refine tt (t_alloc (i := 5) rfl rfl rfl Tryz.zeroValue25 rfl rfl hw) rfl (fun b _ => ?_)
      refine tt (t_stw (i := 5) rfl rfl rfl rfl rfl (by decide) rfl Tryz.sizeOf25 rfl rfl ⟨(one_rfl rfl), (one_rfl rfl), trivial⟩ rfl hw trivial) rfl (fun _ _ => ?_)
      refine l_nil (x_then (e_seq (e_reg (dt (d_fa rfl rfl Tryz.underlying25 rfl Tryz.sizeOf9 rfl rfl) rfl ?_))))
      refine dt (d_lb (i := 5) rfl rfl rfl Tryz.isAgg9 rfl) rfl ?_
      refine dt (d_lens rfl rfl Tryz.underlying9) rfl ?_
      refine dt (d_gtr rfl rfl rfl) rfl ?_
      refine l_nil (x_then (e_cond rfl (fun h194 => ?_) (fun h194 => ?_)))
      ·refine e_seq (e_reg (tt (t_call (n := 5) (law_known) rfl rfl rfl trivial Tryz.call11 pre_nil rfl hw) rfl (fun _ _ => ?_)))
       refine as_ rfl rfl (l_nil (x_then (e_ret (x_br ?_))))
       refine x_ret ?_
       refine x_ret ?_
       refine x_br ?_
       refine x_br ?_
       refine x_ret ?_
       refine x_ret ?_
       refine x_br ?_
       refine x_ret ?_
       exact x_end (.inl rfl) hsc () _ (fun a w hs => res1 hs Tryz.results6 rfl) rfl trivial rfl give_nil
      ·refine e_skip ?_
       refine x_bn ?_
       refine x_then (e_reg (dt (d_add rfl rfl rfl ⟨by omega, by omega⟩) rfl ?_))
       refine mv rfl rfl (l_nil ?_)
       exact x_rnd (j + 1) ⟨by first | omega | (dsimp only <;> omega), s8_snoc (by omega) hb (by omega)⟩ (by first | omega | (dsimp only <;> omega)) ⟨rfl, rfl, rfl, rfl, rfl, rfl, rfl, rfl, trivial⟩ ⟨rfl, rfl, rfl, rfl, rfl, rfl, rfl, rfl, rfl, trivial⟩
     ·refine e_exit ?_
      refine x_exit (x_exit (x_be ?_))
      refine x_bn ?_
      refine x_then (e_reg (dt (d_add rfl rfl rfl ⟨by omega, by omega⟩) rfl ?_))
      refine mv rfl rfl (l_nil ?_)
      exact x_rnd (i + 1) ⟨by first | omega | (dsimp only <;> omega), s8_next ha hb (by omega)⟩ (by first | omega | (dsimp only <;> omega)) ⟨rfl, rfl, rfl, rfl, rfl, trivial⟩ ⟨rfl, rfl, rfl, rfl, rfl, rfl, rfl, rfl, trivial⟩
    ·refine e_exit ?_
     refine x_exit (x_exit (x_be ?_))
     refine x_then (e_seq ?_)
     have hx9 : xs.length ≤ 9 := by omega
     have hy9 : ys.length ≤ 9 := by omega
     obtain ⟨h8x, h8y⟩ : s8 xs ∧ s8 ys := s8_two ha (by omega)
     have hxs := s8_sz h8x
     have hys := s8_sz h8y
     have hmx := msz_le hxs
     have hmy := msz_le hys
     have hE := eok9g hv.tr hu.tr hmx hmy hx9 hy9
     have hE2 := eok9 hv.tr hu.tr hmx hmy hx9 hy9
     have hd : derr xs ys = 0 := derr9 hy0 hmx hmy hx9
     refine e_reg (mv rfl rfl (mv rfl rfl (tt (t_call (n := 6) (poly_rest _ _ _ _ hv hu hd) rfl rfl rfl ⟨rfl, rfl, trivial⟩ Tryz.call37 (pre_same 1 rfl rfl rfl (pre_same 2 rfl rfl rfl pre_nil)) rfl hw) rfl (fun _ _ => ?_))))
     refine mv rfl rfl (dt (d_ex rfl rfl rfl) rfl ?_)
     refine dt (d_ex rfl rfl rfl) rfl ?_
     refine as_ rfl rfl (as_ rfl rfl (l_nil (x_then (e_seq (e_reg (mv rfl rfl (mv rfl rfl (tt (t_call (n := 7) (poly_divide _ _ _ _ hv hu hd) rfl rfl rfl ⟨rfl, rfl, trivial⟩ Tryz.call38 (pre_same 1 rfl rfl rfl (pre_same 2 rfl rfl rfl pre_nil)) rfl hw) rfl (fun _ _ => ?_)))))))))
     refine mv rfl rfl (dt (d_ex rfl rfl rfl) rfl ?_)
     refine dt (d_ex rfl rfl rfl) rfl ?_
     refine as_ rfl rfl (as_ rfl rfl (l_nil (x_then (e_seq (e_reg (mv rfl rfl (mv rfl rfl (tt (t_call (n := 8) (poly_gcd _ _ _ _ hv hu 12 (gfull9 hmx hmy hx9 hy9) hE) rfl rfl rfl ⟨rfl, rfl, trivial⟩ Tryz.call39 (pre_same 1 rfl rfl rfl (pre_same 2 rfl rfl rfl pre_nil)) rfl hw) rfl (fun _ _ => ?_)))))))))
     refine mv rfl rfl (dt (d_ex rfl rfl rfl) rfl ?_)
     refine dt (d_ex rfl rfl rfl) rfl ?_
     refine as_ rfl rfl (as_ rfl rfl (l_nil (x_then (e_seq (e_seq (e_reg (mv rfl rfl (mv rfl rfl (tt (t_bsg (i := 9) (ivs := [(0, _), (1, _)]) (enc := encS) [(sx, xs), (sx_2, ys)] rfl rfl rfl ⟨rfl, rfl, rfl, rfl, trivial⟩ Tryz.underlying68 Tryz.ti23 rfl rfl rfl rfl rfl rfl pS.cells rfl rfl hw) rfl (fun v_3 _ => ?_))))))))))
     refine l_imp (s_many_nil qZ 900) ?_
     refine l_imp (s_many_snoc (q := qZ) (z := (sx, xs)) 900 1 901 rfl rfl rfl rfl rfl) ?_
     refine l_imp (s_many_snoc (q := qZ) (z := (sx_2, ys)) 901 2 902 rfl rfl rfl rfl rfl) ?_
     refine l_imp (s_pub 9 rfl rfl pS) ?_
     refine l_imp (s_mkdeep 9 902 1036 rfl rfl rfl rfl) ?_
     refine tt (t_call (n := 9) (law_valid_z _ _ (fun z hz => by cases hz with | head => exact hv | tail _ hz => cases hz with | head => exact hu | tail _ h => cases h)) rfl rfl rfl ⟨rfl, trivial⟩ Tryz.call16 (pre_same 1036 rfl rfl rfl pre_nil) rfl hw) rfl (fun _ _ => ?_)
     refine dt (d_notb rfl rfl) rfl ?_
     refine l_nil (x_then (e_condf rfl ?_))
     refine e_skip ?_
     refine x_then (e_seq (e_reg (mv rfl rfl (tt (t_call (n := 10) (rp_from _ _ (hxs.mono (by omega)) (by omega)) rfl rfl rfl ⟨rfl, trivial⟩ Tryz.call17 (pre_same 1 rfl rfl rfl pre_nil) rfl hw) rfl (fun g hg => ?_)))))
     have hl_hf := congrArg List.length hg
     rw [length_ints] at hl_hf
     refine mv rfl rfl (tt (t_call (n := 11) (rp_from _ _ (hys.mono (by omega)) (by omega)) rfl rfl rfl ⟨rfl, trivial⟩ Tryz.call17 (pre_same 2 rfl rfl rfl pre_nil) rfl hw) rfl (fun g_2 hg_2 => ?_))
     have hl_hf2 := congrArg List.length hg_2
     rw [length_ints] at hl_hf2
     refine as_ rfl rfl (as_ rfl rfl (l_nil (x_then (e_seq (e_seq (e_reg (mv rfl rfl (mv rfl rfl (mv rfl rfl (mv rfl rfl (tt (t_call (n := 12) (rp_gcd _ _ _ _ 12 (by rw [hg]; exact hv) (by rw [hg_2]; exact hu) (by rw [hg, hg_2]; exact hE2)) rfl rfl rfl ⟨rfl, rfl, trivial⟩ Tryz.call40 (pre_same 10 rfl rfl rfl (pre_same 11 rfl rfl rfl pre_nil)) rfl hw) rfl (fun g_3 hg_3 => ?_))))))))))))
     refine tt (t_call (n := 12) (law_same _ _ _ _ _ rfl (by rw [hg_3, hg, hg_2]; exact (gcd_two hv.tr hu.tr hE2 hE).symm) (by rw [hg_3, hg, hg_2, gcd_two hv.tr hu.tr hE2 hE]; exact (vp_pgcd hv hu hE).sz) (by rw [← length_ints, hg_3, hg, hg_2, gcd_two hv.tr hu.tr hE2 hE]; exact (vp_pgcd hv hu hE).len)) rfl rfl rfl ⟨rfl, rfl, rfl, trivial⟩ Tryz.call19 (pre_same 8 rfl rfl rfl (pre_same 12 rfl rfl rfl pre_nil)) rfl hw) rfl (fun _ _ => ?_)
     refine dt (d_notb rfl rfl) rfl ?_
     refine l_nil (x_then (e_condf rfl ?_))
     refine e_skip ?_
     refine x_then (e_seq (e_seq (e_reg (mv rfl rfl (dt (d_len rfl rfl (i := 11) rfl rd_deep Tryz.underlying35) rfl ?_)))))
     refine dt (d_eql rfl rfl rfl) rfl ?_
     refine l_nil (x_then (e_cond rfl (fun h209 => ?_) (fun h209 => ?_)))
     ·exfalso; omega
     ·refine e_skip ?_
      refine x_then (e_seq (e_seq (e_reg (mv rfl rfl (mv rfl rfl (mv rfl rfl (mv rfl rfl (tt (t_call (n := 13) (rp_rest _ _ _ _ (by omega) (by omega) (by omega) (by rw [hg_2]; exact hu.tr) (fun _ => by rw [hg, hg_2, ← length_ints, ← length_ints, hg, hg_2]; have := rest9 hmx hmy (q := ys) hx9; omega)) rfl rfl rfl ⟨rfl, rfl, trivial⟩ Tryz.call41 (pre_same 10 rfl rfl rfl (pre_same 11 rfl rfl rfl pre_nil)) rfl hw) rfl (fun g_4 hg_4 => ?_)))))))))
      refine tt (t_call (n := 13) (law_same _ _ _ _ _ rfl (by rw [hg_4, hg, hg_2]) (by rw [hg_4, hg, hg_2]; exact (vp_prest hv hd).sz) (by rw [← length_ints, hg_4, hg, hg_2]; exact (vp_prest hv hd).len)) rfl rfl rfl ⟨rfl, rfl, rfl, trivial⟩ Tryz.call19 (pre_same 6 rfl rfl rfl (pre_same 13 rfl rfl rfl pre_nil)) rfl hw) rfl (fun _ _ => ?_)
      refine dt (d_notb rfl rfl) rfl ?_
      refine l_nil (x_then (e_condf rfl ?_))
      refine e_skip ?_
      refine x_then (e_seq (e_reg (mv rfl rfl (mv rfl rfl (tt (t_call (n := 14) (rp_divide _ _ _ _ (by omega) (by omega) (by omega) (by rw [hg]; exact hv.tr) (by rw [hg_2]; exact hu.tr) (fun _ => by rw [hg, hg_2, ← length_ints, ← length_ints, hg, hg_2]; have := rest9 hmx hmy (q := ys) hx9; omega)) rfl rfl rfl ⟨rfl, rfl, trivial⟩ Tryz.call42 (pre_same 10 rfl rfl rfl (pre_same 11 rfl rfl rfl pre_nil)) rfl hw) rfl (fun g_5 hg_5 => ?_))))))
      refine mv rfl rfl (dt (d_ex rfl rfl rfl) rfl ?_)
      refine dt (d_ex rfl rfl rfl) rfl ?_
      refine as_ rfl rfl (as_ rfl rfl (l_nil (x_then (e_seq (e_seq (e_reg (mv rfl rfl (dt (d_notb rfl rfl) rfl ?_))))))))
      refine l_nil (x_then (e_condb rfl (fun h216 => ?_) (fun h216 => ?_)))
      ·have hpd : ¬ pdv xs ys := by simpa [hg, hg_2] using h216
       refine e_seq (e_reg (mv rfl rfl (dt (d_len rfl rfl (i := 7) rfl rd_slp Tryz.underlying23) rfl ?_)))
       refine dt (det_is (r' := .bool true) (d_eql rfl rfl rfl) (congrArg Value.bool (by simp [hpd]))) rfl ?_
       refine mv rfl rfl (gdt (d_mv rfl rfl) rfl rfl rfl rfl ?_)
       refine gdt (det_is (r' := .bool true) (d_eql rfl rfl rfl) (congrArg Value.bool (by simp [hpd]))) rfl rfl rfl rfl ?_
       refine dt (d_pickt rfl rfl rfl) rfl ?_
       refine mv rfl rfl (gtt (t_call (n := 14) (law_known) rfl rfl rfl trivial Tryz.call11 pre_nil rfl hw) rfl rfl rfl rfl (fun _ _ => ?_))
       refine dt (d_pickt rfl rfl rfl) rfl ?_
       refine as_ rfl rfl (l_nil (x_then (e_ret (x_ret ?_))))
       exact x_end (.inl rfl) hsc () _ (fun a w hs => res1 hs Tryz.results6 rfl) rfl trivial rfl give_nil
      ·have hpd2 : pdv (ints g.2) (ints g_2.2) := by simpa using h216
       have hpd : pdv xs ys := by rw [hg, hg_2] at hpd2; exact hpd2
       refine e_skip ?_
       refine x_then (e_seq (e_reg (mv rfl rfl (mv rfl rfl (mv rfl rfl (tt (t_call (n := 14) (law_same _ _ _ _ _ (if_pos hpd) (by rw [if_pos hpd, hg_5 hpd2, hg, hg_2]) (by rw [hg_5 hpd2, hg, hg_2]; exact (sz_pquoz hpd (rest9 hmx hmy hx9)).1) (by rw [← length_ints, hg_5 hpd2, hg, hg_2]; have := (sz_pquoz hpd (rest9 hmx hmy hx9)).2; omega)) rfl rfl rfl ⟨rfl, rfl, rfl, trivial⟩ Tryz.call19 (pre_same 7 rfl rfl rfl (pre_same 14 rfl rfl rfl pre_nil)) rfl hw) rfl (fun _ _ => ?_)))))))
       refine mv rfl rfl (gtt (t_call (n := 14) (law_known) rfl rfl rfl trivial Tryz.call11 pre_nil rfl hw) rfl rfl rfl rfl (fun _ _ => ?_))
       refine dt (d_pickt rfl rfl rfl) rfl ?_
       refine as_ rfl rfl (l_nil (x_then (e_ret ?_)))
       exact x_end (.inl rfl) hsc () _ (fun a w hs => res1 hs Tryz.results6 rfl) rfl trivial rfl give_nil
set_option maxHeartbeats 4000000 in
theorem law_divides_zero (v u : Value) (xs ys : List Int) (hv : Vp xs) (hu : Vp ys) (hy0 : ys.length = 0) : Cal Tryz.prog 6 #[v, u] [slp 2 wv v xs, slp 2 wv u ys] false (G := Unit) (fun _ => True) (fun _ => .bool true) (fun _ => []) := by
 refine cal_in Tryz.func6 rfl Tryz.ntmps6 rfl ⟨rfl, rfl, trivial⟩ ?_
 intro w0 sc hw hsc
 simp only [enumEnv, enumPre]
 refine e_imp (s_nil 999 2 25 wv) ?_
 refine e_imp (s_pub 999 rfl rfl pV) ?_
 refine e_seq ?_
 have hx25 := hv.len
 have hy25 := hu.len
 refine e_reg (as_ rfl rfl (l_nil (x_then (e_seq (e_seq (e_ex (f_slice 1 rfl rd_slp) (fun sx hssx => ?_)))))))
 subst hssx
 refine e_ex (f_slice 2 rfl rd_slp) (fun sx_2 hssx_2 => ?_)
 subst hssx_2
 refine e_reg (mv rfl rfl (mv rfl rfl (tt (t_bsg (i := 3) (ivs := [(0, _), (1, _)]) (enc := encS) [(sx, xs), (sx_2, ys)] rfl rfl rfl ⟨rfl, rfl, rfl, rfl, trivial⟩ Tryz.underlying68 Tryz.ti23 rfl rfl rfl rfl rfl rfl pS.cells rfl rfl hw) rfl (fun v _ => ?_))))
 refine l_imp (s_many_nil qZ 900) ?_
 refine l_imp (s_many_snoc (q := qZ) (z := (sx, xs)) 900 1 901 rfl rfl rfl rfl rfl) ?_
 refine l_imp (s_many_snoc (q := qZ) (z := (sx_2, ys)) 901 2 902 rfl rfl rfl rfl rfl) ?_
 refine l_imp (s_pub 3 rfl rfl pS) ?_
 refine l_imp (s_mkdeep 3 902 971 rfl rfl rfl rfl) ?_
 refine tt (t_call (n := 3) (law_short_z _ _) rfl rfl rfl ⟨rfl, trivial⟩ Tryz.call10 (pre_same 971 rfl rfl rfl pre_nil) rfl hw) rfl (fun _ _ => ?_)
 refine dt (d_notb rfl rfl) rfl ?_
 refine mv rfl rfl (l_splitb (d := 24) rfl (fun s189 => ?_) (fun s189 => ?_))
 ·refine gsk rfl rfl rfl rfl rfl (gsk rfl rfl rfl rfl rfl (gsk rfl rfl rfl rfl rfl (gsk rfl rfl rfl rfl rfl (gsku rfl rfl rfl ?_))))
  refine gsku rfl rfl rfl ?_
  refine gsku rfl rfl rfl ?_
  refine gsk rfl rfl rfl rfl rfl (dt (d_pickt rfl rfl rfl) rfl ?_)
  refine mv rfl rfl (gsk rfl rfl rfl rfl rfl (gsk rfl rfl rfl rfl rfl (gsk rfl rfl rfl rfl rfl (gsk rfl rfl rfl rfl rfl (gsku rfl rfl rfl ?_)))))
  refine gsku rfl rfl rfl ?_
  refine gsku rfl rfl rfl ?_
  refine gsk rfl rfl rfl rfl rfl (dt (d_pickt rfl rfl rfl) rfl ?_)
  refine l_nil (x_then (e_condt rfl ?_))
  refine e_seq (e_reg (tt (t_call (n := 3) (law_known) rfl rfl rfl trivial Tryz.call11 pre_nil rfl hw) rfl (fun _ _ => ?_)))
  refine as_ rfl rfl (l_nil (x_then (e_ret (x_ret ?_))))
  exact x_end (.inl rfl) hsc () _ (fun a w hs => res1 hs Tryz.results6 rfl) rfl trivial rfl give_nil
 ·refine gdt (d_mv rfl rfl) rfl rfl rfl rfl ?_
  refine gdt (d_len rfl rfl (i := 1) rfl rd_slp Tryz.underlying23) rfl rfl rfl rfl ?_
  refine gdt (d_gtr rfl rfl rfl) rfl rfl rfl rfl ?_
  refine gdt (d_mv rfl rfl) rfl rfl rfl rfl ?_
  refine l_split (d := 28) rfl (fun s189_2 => ?_) (fun s189_2 => ?_)
  ·refine gdt (d_mv rfl rfl) rfl rfl rfl rfl ?_
   refine gdt (d_len rfl rfl (i := 1) rfl rd_slp Tryz.underlying23) rfl rfl rfl rfl ?_
   refine gdt (det_is (r' := .bool true) (d_neq rfl rfl rfl) (congrArg Value.bool (decide_eq_true (by omega)))) rfl rfl rfl rfl ?_
   refine gdt (d_pickt rfl rfl rfl) rfl rfl rfl rfl ?_
   refine dt (d_pickf rfl rfl rfl) rfl ?_
   refine mv rfl rfl (gsk rfl rfl rfl rfl rfl (gsk rfl rfl rfl rfl rfl (gsk rfl rfl rfl rfl rfl (gsk rfl rfl rfl rfl rfl (gsku rfl rfl rfl ?_)))))
   refine gsku rfl rfl rfl ?_
   refine gsku rfl rfl rfl ?_
   refine gsk rfl rfl rfl rfl rfl (dt (d_pickt rfl rfl rfl) rfl ?_)
   refine l_nil (x_then (e_condt rfl ?_))
   refine e_seq (e_reg (tt (t_call (n := 3) (law_known) rfl rfl rfl trivial Tryz.call11 pre_nil rfl hw) rfl (fun _ _ => ?_)))
   refine as_ rfl rfl (l_nil (x_then (e_ret (x_ret ?_))))
   exact x_end (.inl rfl) hsc () _ (fun a w hs => res1 hs Tryz.results6 rfl) rfl trivial rfl give_nil
  ·refine gsk rfl rfl rfl rfl rfl (gsk rfl rfl rfl rfl rfl (gsk rfl rfl rfl rfl rfl (gdt (d_pickf rfl rfl rfl) rfl rfl rfl rfl ?_)))
   refine dt (d_pickf rfl rfl rfl) rfl ?_
   refine mv rfl rfl (gdt (d_mv rfl rfl) rfl rfl rfl rfl ?_)
   refine gdt (d_len rfl rfl (i := 2) rfl rd_slp Tryz.underlying23) rfl rfl rfl rfl ?_
   refine gdt (d_gtr rfl rfl rfl) rfl rfl rfl rfl ?_
   refine gdt (d_mv rfl rfl) rfl rfl rfl rfl ?_
   refine l_split (d := 38) rfl (fun s189_3 => ?_) (fun s189_3 => ?_)
   ·refine gdt (d_mv rfl rfl) rfl rfl rfl rfl ?_
    refine gdt (d_len rfl rfl (i := 2) rfl rd_slp Tryz.underlying23) rfl rfl rfl rfl ?_
    refine gdt (det_is (r' := .bool true) (d_neq rfl rfl rfl) (congrArg Value.bool (decide_eq_true (by omega)))) rfl rfl rfl rfl ?_
    refine gdt (d_pickt rfl rfl rfl) rfl rfl rfl rfl ?_
    refine dt (d_pickf rfl rfl rfl) rfl ?_
    refine l_nil (x_then (e_condt rfl ?_))
    refine e_seq (e_reg (tt (t_call (n := 3) (law_known) rfl rfl rfl trivial Tryz.call11 pre_nil rfl hw) rfl (fun _ _ => ?_)))
    refine as_ rfl rfl (l_nil (x_then (e_ret (x_ret ?_))))
    exact x_end (.inl rfl) hsc () _ (fun a w hs => res1 hs Tryz.results6 rfl) rfl trivial rfl give_nil
   ·refine gsk rfl rfl rfl rfl rfl (gsk rfl rfl rfl rfl rfl (gsk rfl rfl rfl rfl rfl (gdt (d_pickf rfl rfl rfl) rfl rfl rfl rfl ?_)))
    refine dt (d_pickf rfl rfl rfl) rfl ?_
    refine l_nil (x_then (e_condf rfl ?_))
    refine e_skip ?_
    refine x_then (e_seq (e_seq (e_reg (mv rfl rfl (mv rfl rfl (tt (t_bsg (i := 4) (ivs := [(0, _), (1, _)]) (enc := encS) [(sx, xs), (sx_2, ys)] rfl rfl rfl ⟨rfl, rfl, rfl, rfl, trivial⟩ Tryz.underlying68 Tryz.ti23 rfl rfl rfl rfl rfl rfl pS.cells rfl rfl hw) rfl (fun v_2 _ => ?_)))))))
    refine l_imp (s_many_nil qZ 900) ?_
    refine l_imp (s_many_snoc (q := qZ) (z := (sx, xs)) 900 1 901 rfl rfl rfl rfl rfl) ?_
    refine l_imp (s_many_snoc (q := qZ) (z := (sx_2, ys)) 901 2 902 rfl rfl rfl rfl rfl) ?_
    refine l_imp (s_pub 4 rfl rfl pS) ?_
    refine l_imp (s_mkdeep 4 902 997 rfl rfl rfl rfl) ?_
    refine dt (d_len rfl rfl (i := 997) rfl rd_deep Tryz.underlying68) rfl ?_
    refine mv rfl rfl (l_nil (x_then (e_block ?_)))
    have hll : ([(sx, xs), (sx_2, ys)] : List (SL × List Int)).length = 2 := rfl
    refine e_lp [(0, _), (1, _), (47, _), (48, _)] [(0, _), (1, _), (2, _), (999, _), (3, _), (971, _), (4, _), (997, _)] (fun (i : Nat) => [(49, .int .i64 (i : Int))]) (fun (i : Nat) => []) (fun (i : Nat) => (i ≤ 2) ∧ (∀ k, k < i → s8 ([(sx, xs), (sx_2, ys)].getD k Z0).2)) (fun (i : Nat) => 2 - i) 0 ⟨by first | omega | (dsimp only <;> omega), fun k hk => absurd hk (Nat.not_lt_zero _)⟩ ⟨rfl, rfl, rfl, rfl, rfl, trivial⟩ ⟨rfl, rfl, rfl, rfl, rfl, rfl, rfl, rfl, trivial⟩ ?_
    rintro i ⟨hi, ha⟩
    simp only [List.cons_append, List.nil_append]
    refine e_seq (e_reg (dt (d_lss rfl rfl rfl) rfl ?_))
    refine l_nil (x_then (e_seq (e_cond rfl (fun h192 => ?_) (fun h192 => ?_))))
    ·refine e_skip ?_
     refine x_then (e_seq (e_block (e_seq (e_reg (dt (d_ixa (ii := 997) rfl rfl rfl rfl rd_deep Tryz.underlying68 Tryz.sizeOf23 rfl (by first | omega | (simp only [List.length_set]; omega))) rfl ?_)))))
     refine dt (d_lde (ii := 997) Z0 rfl rfl rfl rd_deep pS (by first | omega | (simp only [List.length_set]; omega))) rfl ?_
     refine as_ rfl rfl (l_nil (x_then (e_seq (e_imp (s_deep 997 991 ([(sx, xs), (sx_2, ys)].getD i Z0) rfl rfl (getD_mem (by omega)) rfl) ?_))))
     refine e_fact (f_len (i := 991) rfl rd_slp) (fun hlr => ?_)
     refine e_reg (mv rfl rfl (dt (d_len rfl rfl (i := 991) rfl rd_slp Tryz.underlying23) rfl ?_))
     refine mv rfl rfl (l_nil (x_then (e_block (e_lp [(0, _), (1, _), (47, _), (48, _), (49, _), (53, _), (54, _)] [(0, _), (1, _), (2, _), (999, _), (3, _), (971, _), (4, _), (997, _), (991, _)] (fun (j : Nat) => [(55, .int .i64 (j : Int))]) (fun (j : Nat) => []) (fun (j : Nat) => (j ≤ ([(sx, xs), (sx_2, ys)].getD i Z0).2.length) ∧ (s8 (([(sx, xs), (sx_2, ys)].getD i Z0).2.take j))) (fun (j : Nat) => ([(sx, xs), (sx_2, ys)].getD i Z0).2.length - j) 0 ⟨by first | omega | (dsimp only <;> omega), s8_zero _⟩ ⟨rfl, rfl, rfl, rfl, rfl, rfl, rfl, rfl, trivial⟩ ⟨rfl, rfl, rfl, rfl, rfl, rfl, rfl, rfl, rfl, trivial⟩ ?_))))
     rintro j ⟨hj, hb⟩
     simp only [List.cons_append, List.nil_append]
     refine e_seq (e_reg (dt (d_lss rfl rfl rfl) rfl ?_))
     refine l_nil (x_then (e_seq (e_cond rfl (fun h193 => ?_) (fun h193 => ?_))))
     ·refine e_skip ?_
      refine x_then (e_seq (e_block (e_seq (e_reg (dt (d_ixa (ii := 991) rfl rfl rfl rfl rd_slp Tryz.underlying23 Tryz.sizeOf25 rfl (by first | omega | (simp only [List.length_set]; omega))) rfl ?_)))))
      refine dt (d_lde (ii := 991) 0 rfl rfl rfl rd_slp pV (by first | omega | (simp only [List.length_set]; omega))) rfl ?_
      refine tt (t_alloc (i := 5) rfl rfl rfl Tryz.zeroValue25 rfl rfl hw) rfl (fun b _ => ?_)
      refine tt (t_stw (i := 5) rfl rfl rfl rfl rfl (by decide) rfl Tryz.sizeOf25 rfl rfl ⟨(one_rfl rfl), (one_rfl rfl), trivial⟩ rfl hw trivial) rfl (fun _ _ => ?_)
      refine l_nil (x_then (e_seq (e_reg (dt (d_fa rfl rfl Tryz.underlying25 rfl Tryz.sizeOf9 rfl rfl) rfl ?_))))
      refine dt (d_lb (i := 5) rfl rfl rfl Tryz.isAgg9 rfl) rfl ?_
      refine dt (d_lens rfl rfl Tryz.underlying9) rfl ?_
      refine dt (d_gtr rfl rfl rfl) rfl ?_
      refine l_nil (x_then (e_cond rfl (fun h194 => ?_) (fun h194 => ?_)))
      ·refine e_seq (e_reg (tt (t_call (n := 5) (law_known) rfl rfl rfl trivial Tryz.call11 pre_nil rfl hw) rfl (fun _ _ => ?_)))
       refine as_ rfl rfl (l_nil (x_then (e_ret (x_br ?_))))
       refine x_ret ?_
       refine x_ret ?_
       refine x_br ?_
       refine x_br ?_
       refine x_ret ?_
       refine x_ret ?_
       refine x_br ?_
       refine x_ret ?_
       exact x_end (.inl rfl) hsc () _ (fun a w hs => res1 hs Tryz.results6 rfl) rfl trivial rfl give_nil
      ·refine e_skip ?_
       refine x_bn ?_
       refine x_then (e_reg (dt (d_add rfl rfl rfl ⟨by omega, by omega⟩) rfl ?_))
       refine mv rfl rfl (l_nil ?_)
       exact x_rnd (j + 1) ⟨by first | omega | (dsimp only <;> omega), s8_snoc (by omega) hb (by omega)⟩ (by first | omega | (dsimp only <;> omega)) ⟨rfl, rfl, rfl, rfl, rfl, rfl, rfl, rfl, trivial⟩ ⟨rfl, rfl, rfl, rfl, rfl, rfl, rfl, rfl, rfl, trivial⟩
     ·refine e_exit ?_
      refine x_exit (x_exit (x_be ?_))
      refine x_bn ?_
      refine x_then (e_reg (dt (d_add rfl rfl rfl ⟨by omega, by omega⟩) rfl ?_))
      refine mv rfl rfl (l_nil ?_)
      exact x_rnd (i + 1) ⟨by first | omega | (dsimp only <;> omega), s8_next ha hb (by omega)⟩ (by first | omega | (dsimp only <;> omega)) ⟨rfl, rfl, rfl, rfl, rfl, trivial⟩ ⟨rfl, rfl, rfl, rfl, rfl, rfl, rfl, rfl, trivial⟩
    ·refine e_exit ?_
     refine x_exit (x_exit (x_be ?_))
     refine x_then (e_seq ?_)
     have hx9 : xs.length ≤ 9 := by omega
     have hy9 : ys.length ≤ 9 := by omega
     obtain ⟨h8x, h8y⟩ : s8 xs ∧ s8 ys := s8_two ha (by omega)
     have hxs := s8_sz h8x
     have hys := s8_sz h8y
     have hmx := msz_le hxs
     have hmy := msz_le hys
     have hE := eok9g hv.tr hu.tr hmx hmy hx9 hy9
     have hE2 := eok9 hv.tr hu.tr hmx hmy hx9 hy9
     have hd : derr xs ys ≠ 0 := by rw [derr_z xs hy0]; decide
     refine e_reg (mv rfl rfl (mv rfl rfl (tt (t_call (n := 5) (poly_rest_err _ _ _ _ hv hu hd) rfl rfl rfl ⟨rfl, rfl, trivial⟩ Tryz.call37 (pre_same 1 rfl rfl rfl (pre_same 2 rfl rfl rfl pre_nil)) rfl hw) rfl (fun _ _ => ?_))))
     refine mv rfl rfl (dt (d_ex rfl rfl rfl) rfl ?_)
     refine dt (d_ex rfl rfl rfl) rfl ?_
     refine as_ rfl rfl (as_ rfl rfl (l_nil (x_then (e_seq (e_reg (mv rfl rfl (mv rfl rfl (tt (t_call (n := 5) (poly_divide_err _ _ _ _ hv hu hd) rfl rfl rfl ⟨rfl, rfl, trivial⟩ Tryz.call38 (pre_same 1 rfl rfl rfl (pre_same 2 rfl rfl rfl pre_nil)) rfl hw) rfl (fun _ _ => ?_)))))))))
     refine mv rfl rfl (dt (d_ex rfl rfl rfl) rfl ?_)
     refine dt (d_ex rfl rfl rfl) rfl ?_
     refine as_ rfl rfl (as_ rfl rfl (l_nil (x_then (e_seq (e_reg (mv rfl rfl (mv rfl rfl (tt (t_call (n := 6) (poly_gcd _ _ _ _ hv hu 12 (gfull9 hmx hmy hx9 hy9) hE) rfl rfl rfl ⟨rfl, rfl, trivial⟩ Tryz.call39 (pre_same 1 rfl rfl rfl (pre_same 2 rfl rfl rfl pre_nil)) rfl hw) rfl (fun _ _ => ?_)))))))))
     refine mv rfl rfl (dt (d_ex rfl rfl rfl) rfl ?_)
     refine dt (d_ex rfl rfl rfl) rfl ?_
     refine as_ rfl rfl (as_ rfl rfl (l_nil (x_then (e_seq (e_seq (e_reg (mv rfl rfl (mv rfl rfl (tt (t_bsg (i := 7) (ivs := [(0, _), (1, _)]) (enc := encS) [(sx, xs), (sx_2, ys)] rfl rfl rfl ⟨rfl, rfl, rfl, rfl, trivial⟩ Tryz.underlying68 Tryz.ti23 rfl rfl rfl rfl rfl rfl pS.cells rfl rfl hw) rfl (fun v_3 _ => ?_))))))))))
     refine l_imp (s_many_nil qZ 900) ?_
     refine l_imp (s_many_snoc (q := qZ) (z := (sx, xs)) 900 1 901 rfl rfl rfl rfl rfl) ?_
     refine l_imp (s_many_snoc (q := qZ) (z := (sx_2, ys)) 901 2 902 rfl rfl rfl rfl rfl) ?_
     refine l_imp (s_pub 7 rfl rfl pS) ?_
     refine l_imp (s_mkdeep 7 902 1036 rfl rfl rfl rfl) ?_
     refine tt (t_call (n := 7) (law_valid_z _ _ (fun z hz => by cases hz with | head => exact hv | tail _ hz => cases hz with | head => exact hu | tail _ h => cases h)) rfl rfl rfl ⟨rfl, trivial⟩ Tryz.call16 (pre_same 1036 rfl rfl rfl pre_nil) rfl hw) rfl (fun _ _ => ?_)
     refine dt (d_notb rfl rfl) rfl ?_
     refine l_nil (x_then (e_condf rfl ?_))
     refine e_skip ?_
     refine x_then (e_seq (e_reg (mv rfl rfl (tt (t_call (n := 8) (rp_from _ _ (hxs.mono (by omega)) (by omega)) rfl rfl rfl ⟨rfl, trivial⟩ Tryz.call17 (pre_same 1 rfl rfl rfl pre_nil) rfl hw) rfl (fun g hg => ?_)))))
     have hl_hf := congrArg List.length hg
     rw [length_ints] at hl_hf
     refine mv rfl rfl (tt (t_call (n := 9) (rp_from _ _ (hys.mono (by omega)) (by omega)) rfl rfl rfl ⟨rfl, trivial⟩ Tryz.call17 (pre_same 2 rfl rfl rfl pre_nil) rfl hw) rfl (fun g_2 hg_2 => ?_))
     have hl_hf2 := congrArg List.length hg_2
     rw [length_ints] at hl_hf2
     refine as_ rfl rfl (as_ rfl rfl (l_nil (x_then (e_seq (e_seq (e_reg (mv rfl rfl (mv rfl rfl (mv rfl rfl (mv rfl rfl (tt (t_call (n := 10) (rp_gcd _ _ _ _ 12 (by rw [hg]; exact hv) (by rw [hg_2]; exact hu) (by rw [hg, hg_2]; exact hE2)) rfl rfl rfl ⟨rfl, rfl, trivial⟩ Tryz.call40 (pre_same 8 rfl rfl rfl (pre_same 9 rfl rfl rfl pre_nil)) rfl hw) rfl (fun g_3 hg_3 => ?_))))))))))))
     refine tt (t_call (n := 10) (law_same _ _ _ _ _ rfl (by rw [hg_3, hg, hg_2]; exact (gcd_two hv.tr hu.tr hE2 hE).symm) (by rw [hg_3, hg, hg_2, gcd_two hv.tr hu.tr hE2 hE]; exact (vp_pgcd hv hu hE).sz) (by rw [← length_ints, hg_3, hg, hg_2, gcd_two hv.tr hu.tr hE2 hE]; exact (vp_pgcd hv hu hE).len)) rfl rfl rfl ⟨rfl, rfl, rfl, trivial⟩ Tryz.call19 (pre_same 6 rfl rfl rfl (pre_same 10 rfl rfl rfl pre_nil)) rfl hw) rfl (fun _ _ => ?_)
     refine dt (d_notb rfl rfl) rfl ?_
     refine l_nil (x_then (e_condf rfl ?_))
     refine e_skip ?_
     refine x_then (e_seq (e_seq (e_reg (mv rfl rfl (dt (d_len rfl rfl (i := 9) rfl rd_deep Tryz.underlying35) rfl ?_)))))
     refine dt (d_eql rfl rfl rfl) rfl ?_
     refine l_nil (x_then (e_cond rfl (fun h209 => ?_) (fun h209 => ?_)))
     ·refine e_seq (e_reg (mv rfl rfl (dt (d_len rfl rfl (i := 999) rfl rd_slp Tryz.underlying23) rfl ?_)))
      refine dt (det_is (r' := .bool true) (d_eql rfl rfl rfl) (congrArg Value.bool (by decide))) rfl ?_
      refine mv rfl rfl (gdt (d_mv rfl rfl) rfl rfl rfl rfl ?_)
      refine gdt (det_is (r' := .bool true) (d_eql rfl rfl rfl) (congrArg Value.bool (by simp [derr_z xs hy0]))) rfl rfl rfl rfl ?_
      refine dt (d_pickt rfl rfl rfl) rfl ?_
      refine mv rfl rfl (gdt (d_mv rfl rfl) rfl rfl rfl rfl ?_)
      refine gdt (d_len rfl rfl (i := 999) rfl rd_slp Tryz.underlying23) rfl rfl rfl rfl ?_
      refine gdt (det_is (r' := .bool true) (d_eql rfl rfl rfl) (congrArg Value.bool (by decide))) rfl rfl rfl rfl ?_
      refine dt (d_pickt rfl rfl rfl) rfl ?_
      refine mv rfl rfl (gdt (d_mv rfl rfl) rfl rfl rfl rfl ?_)
      refine gdt (det_is (r' := .bool true) (d_eql rfl rfl rfl) (congrArg Value.bool (by simp [derr_z xs hy0]))) rfl rfl rfl rfl ?_
      refine dt (d_pickt rfl rfl rfl) rfl ?_
      refine mv rfl rfl (gtt (t_call (n := 10) (law_known) rfl rfl rfl trivial Tryz.call11 pre_nil rfl hw) rfl rfl rfl rfl (fun _ _ => ?_))
      refine dt (d_pickt rfl rfl rfl) rfl ?_
      refine as_ rfl rfl (l_nil (x_then (e_ret (x_ret ?_))))
      exact x_end (.inl rfl) hsc () _ (fun a w hs => res1 hs Tryz.results6 rfl) rfl trivial rfl give_nil
     ·exfalso; omega
set_option maxHeartbeats 4000000 in
theorem law_divides_bad (v u : Value) (r t : RW) (hb : okP r = true → okP t = true → False) : Cal Tryz.prog 6 #[v, u] [slp 2 encW v r, slp 2 encW u t] false (G := Unit) (fun _ => True) (fun _ => .bool true) (fun _ => []) := by
 refine cal_in Tryz.func6 rfl Tryz.ntmps6 rfl ⟨rfl, rfl, trivial⟩ ?_
 intro w0 sc hw hsc
 simp only [enumEnv, enumPre]
 refine e_imp (s_nil 999 2 25 wv) ?_
 refine e_imp (s_pub 999 rfl rfl pV) ?_
 refine e_seq (e_ex (f_slice 1 rfl rd_slp) (fun sx hssx => ?_))
 subst hssx
 refine e_ex (f_slice 2 rfl rd_slp) (fun sx_2 hssx_2 => ?_)
 subst hssx_2
 refine e_reg (as_ rfl rfl (l_nil (x_then (e_seq (e_jn [(0, _), (1, _)] [(0, _), (1, _), (2, _), (999, _)] (fun (b43 : Bool) => [(43, .bool b43)]) (fun (b43 : Bool) => []) (fun (b43 : Bool) => True) ⟨rfl, rfl, trivial⟩ ⟨rfl, rfl, rfl, rfl, trivial⟩ ?_ ?_)))))
 ·refine e_reg (mv rfl rfl (mv rfl rfl (tt (t_bsg (i := 3) (ivs := [(0, _), (1, _)]) (enc := encS) [(sx, r), (sx_2, t)] rfl rfl rfl ⟨rfl, rfl, rfl, rfl, trivial⟩ Tryz.underlying68 Tryz.ti23 rfl rfl rfl rfl rfl rfl pS.cells rfl rfl hw) rfl (fun v _ => ?_))))
  refine l_imp (s_many_nil qR 900) ?_
  refine l_imp (s_many_snoc (q := qR) (z := (sx, r)) 900 1 901 rfl rfl rfl rfl rfl) ?_
  refine l_imp (s_many_snoc (q := qR) (z := (sx_2, t)) 901 2 902 rfl rfl rfl rfl rfl) ?_
  refine l_imp (s_pub 3 rfl rfl pS) ?_
  refine l_imp (s_mkdeep 3 902 971 rfl rfl rfl rfl) ?_
  refine tt (t_call (n := 3) (law_short _ _) rfl rfl rfl ⟨rfl, trivial⟩ Tryz.call10 (pre_same 971 rfl rfl rfl pre_nil) rfl hw) rfl (fun _ _ => ?_)
  refine dt (d_notb rfl rfl) rfl ?_
  refine mv rfl rfl (l_splitb (d := 24) rfl (fun s189 => ?_) (fun s189 => ?_))
  ·refine gsk rfl rfl rfl rfl rfl (gsk rfl rfl rfl rfl rfl (gsk rfl rfl rfl rfl rfl (gsk rfl rfl rfl rfl rfl (gsku rfl rfl rfl ?_))))
   refine gsku rfl rfl rfl ?_
   refine gsku rfl rfl rfl ?_
   refine gsk rfl rfl rfl rfl rfl (dt (d_pickt rfl rfl rfl) rfl ?_)
   refine mv rfl rfl (gsk rfl rfl rfl rfl rfl (gsk rfl rfl rfl rfl rfl (gsk rfl rfl rfl rfl rfl (gsk rfl rfl rfl rfl rfl (gsku rfl rfl rfl ?_)))))
   refine gsku rfl rfl rfl ?_
   refine gsku rfl rfl rfl ?_
   refine gsk rfl rfl rfl rfl rfl (dt (d_pickt rfl rfl rfl) rfl ?_)
   refine l_nil ?_
   exact x_jn _ trivial ⟨rfl, rfl, rfl, trivial⟩ ⟨rfl, rfl, rfl, rfl, trivial⟩
  ·refine gdt (d_mv rfl rfl) rfl rfl rfl rfl ?_
   refine gdt (d_len rfl rfl (i := 1) rfl rd_slp Tryz.underlying23) rfl rfl rfl rfl ?_
   refine gdt (d_gtr rfl rfl rfl) rfl rfl rfl rfl ?_
   refine gdt (d_mv rfl rfl) rfl rfl rfl rfl ?_
   refine l_split (d := 28) rfl (fun s189_2 => ?_) (fun s189_2 => ?_)
   ·refine gdt (d_mv rfl rfl) rfl rfl rfl rfl ?_
    refine gdt (d_len rfl rfl (i := 1) rfl rd_slp Tryz.underlying23) rfl rfl rfl rfl ?_
    refine gdt (d_neq rfl rfl rfl) rfl rfl rfl rfl ?_
    refine gdt (d_pickt rfl rfl rfl) rfl rfl rfl rfl ?_
    refine dt (d_pickf rfl rfl rfl) rfl ?_
    refine mv rfl rfl (l_split (d := 34) rfl (fun s189_3 => ?_) (fun s189_3 => ?_))
    ·refine gsk rfl rfl rfl rfl rfl (gsk rfl rfl rfl rfl rfl (gsk rfl rfl rfl rfl rfl (gsk rfl rfl rfl rfl rfl (gsku rfl rfl rfl ?_))))
     refine gsku rfl rfl rfl ?_
     refine gsku rfl rfl rfl ?_
     refine gsk rfl rfl rfl rfl rfl (dt (d_pickt rfl rfl rfl) rfl ?_)
     refine l_nil ?_
     exact x_jn _ trivial ⟨rfl, rfl, rfl, trivial⟩ ⟨rfl, rfl, rfl, rfl, trivial⟩
    ·refine gdt (d_mv rfl rfl) rfl rfl rfl rfl ?_
     refine gdt (d_len rfl rfl (i := 2) rfl rd_slp Tryz.underlying23) rfl rfl rfl rfl ?_
     refine gdt (d_gtr rfl rfl rfl) rfl rfl rfl rfl ?_
     refine gdt (d_mv rfl rfl) rfl rfl rfl rfl ?_
     refine l_split (d := 38) rfl (fun s189_4 => ?_) (fun s189_4 => ?_)
     ·refine gdt (d_mv rfl rfl) rfl rfl rfl rfl ?_
      refine gdt (d_len rfl rfl (i := 2) rfl rd_slp Tryz.underlying23) rfl rfl rfl rfl ?_
      refine gdt (d_neq rfl rfl rfl) rfl rfl rfl rfl ?_
      refine gdt (d_pickt rfl rfl rfl) rfl rfl rfl rfl ?_
      refine dt (d_pickf rfl rfl rfl) rfl ?_
      refine l_nil ?_
      exact x_jn _ trivial ⟨rfl, rfl, rfl, trivial⟩ ⟨rfl, rfl, rfl, rfl, trivial⟩
     ·refine gsk rfl rfl rfl rfl rfl (gsk rfl rfl rfl rfl rfl (gsk rfl rfl rfl rfl rfl (gdt (d_pickf rfl rfl rfl) rfl rfl rfl rfl ?_)))
      refine dt (d_pickf rfl rfl rfl) rfl ?_
      refine l_nil ?_
      exact x_jn _ trivial ⟨rfl, rfl, rfl, trivial⟩ ⟨rfl, rfl, rfl, rfl, trivial⟩
   ·refine gsk rfl rfl rfl rfl rfl (gsk rfl rfl rfl rfl rfl (gsk rfl rfl rfl rfl rfl (gdt (d_pickf rfl rfl rfl) rfl rfl rfl rfl ?_)))
    refine dt (d_pickf rfl rfl rfl) rfl ?_
    refine mv rfl rfl (gdt (d_mv rfl rfl) rfl rfl rfl rfl ?_)
    refine gdt (d_len rfl rfl (i := 2) rfl rd_slp Tryz.underlying23) rfl rfl rfl rfl ?_
    refine gdt (d_gtr rfl rfl rfl) rfl rfl rfl rfl ?_
    refine gdt (d_mv rfl rfl) rfl rfl rfl rfl ?_
    refine l_split (d := 38) rfl (fun s189_5 => ?_) (fun s189_5 => ?_)
    ·refine gdt (d_mv rfl rfl) rfl rfl rfl rfl ?_
     refine gdt (d_len rfl rfl (i := 2) rfl rd_slp Tryz.underlying23) rfl rfl rfl rfl ?_
     refine gdt (d_neq rfl rfl rfl) rfl rfl rfl rfl ?_
     refine gdt (d_pickt rfl rfl rfl) rfl rfl rfl rfl ?_
     refine dt (d_pickf rfl rfl rfl) rfl ?_
     refine l_nil ?_
     exact x_jn _ trivial ⟨rfl, rfl, rfl, trivial⟩ ⟨rfl, rfl, rfl, rfl, trivial⟩
    ·refine gsk rfl rfl rfl rfl rfl (gsk rfl rfl rfl rfl rfl (gsk rfl rfl rfl rfl rfl (gdt (d_pickf rfl rfl rfl) rfl rfl rfl rfl ?_)))
     refine dt (d_pickf rfl rfl rfl) rfl ?_
     refine l_nil ?_
     exact x_jn _ trivial ⟨rfl, rfl, rfl, trivial⟩ ⟨rfl, rfl, rfl, rfl, trivial⟩
 ·rintro b43 -
  simp only [List.cons_append, List.nil_append]
  refine e_condb rfl (fun h189 => ?_) (fun h189 => ?_)
  ·refine e_seq (e_reg (tt (t_call (n := 3) (law_known) rfl rfl rfl trivial Tryz.call11 pre_nil rfl hw) rfl (fun _ _ => ?_)))
   refine as_ rfl rfl (l_nil (x_then (e_ret (x_ret ?_))))
   exact x_end (.inl rfl) hsc () _ (fun a w hs => res1 hs Tryz.results6 rfl) rfl trivial rfl give_nil
  ·refine e_skip ?_
   refine x_then (e_seq (e_seq (e_reg (mv rfl rfl (mv rfl rfl (tt (t_bsg (i := 4) (ivs := [(0, _), (1, _)]) (enc := encS) [(sx, r), (sx_2, t)] rfl rfl rfl ⟨rfl, rfl, rfl, rfl, trivial⟩ Tryz.underlying68 Tryz.ti23 rfl rfl rfl rfl rfl rfl pS.cells rfl rfl hw) rfl (fun v_2 _ => ?_)))))))
   refine l_imp (s_many_nil qR 900) ?_
   refine l_imp (s_many_snoc (q := qR) (z := (sx, r)) 900 1 901 rfl rfl rfl rfl rfl) ?_
   refine l_imp (s_many_snoc (q := qR) (z := (sx_2, t)) 901 2 902 rfl rfl rfl rfl rfl) ?_
   refine l_imp (s_pub 4 rfl rfl pS) ?_
   refine l_imp (s_mkdeep 4 902 997 rfl rfl rfl rfl) ?_
   refine dt (d_len rfl rfl (i := 997) rfl rd_deep Tryz.underlying68) rfl ?_
   refine mv rfl rfl (l_nil (x_then (e_block ?_)))
   have hll : ([(sx, r), (sx_2, t)] : List (SL × RW)).length = 2 := rfl
   refine e_lp [(0, _), (1, _), (47, _), (48, _)] [(0, _), (1, _), (2, _), (999, _), (4, _), (997, _)] (fun (i : Nat) => [(49, .int .i64 (i : Int))]) (fun (i : Nat) => []) (fun (i : Nat) => (i ≤ 2)) (fun (i : Nat) => 2 - i) 0 (by first | omega | (dsimp only <;> omega)) ⟨rfl, rfl, rfl, rfl, rfl, trivial⟩ ⟨rfl, rfl, rfl, rfl, rfl, rfl, trivial⟩ ?_
   rintro i hi
   simp only [List.cons_append, List.nil_append]
   refine e_seq (e_reg (dt (d_lss rfl rfl rfl) rfl ?_))
   refine l_nil (x_then (e_seq (e_cond rfl (fun h192 => ?_) (fun h192 => ?_))))
   ·refine e_skip ?_
    refine x_then (e_seq (e_block (e_seq (e_reg (dt (d_ixa (ii := 997) rfl rfl rfl rfl rd_deep Tryz.underlying68 Tryz.sizeOf23 rfl (by first | omega | (simp only [List.length_set]; omega))) rfl ?_)))))
    refine dt (d_lde (ii := 997) R0 rfl rfl rfl rd_deep pS (by first | omega | (simp only [List.length_set]; omega))) rfl ?_
    refine as_ rfl rfl (l_nil (x_then (e_seq (e_imp (s_deep 997 991 ([(sx, r), (sx_2, t)].getD i R0) rfl rfl (getD_mem (by omega)) rfl) ?_))))
    refine e_fact (f_len (i := 991) rfl rd_slp) (fun hlr => ?_)
    refine e_reg (mv rfl rfl (dt (d_len rfl rfl (i := 991) rfl rd_slp Tryz.underlying23) rfl ?_))
    refine mv rfl rfl (l_nil (x_then (e_block (e_lp [(0, _), (1, _), (47, _), (48, _), (49, _), (53, _), (54, _)] [(0, _), (1, _), (2, _), (999, _), (4, _), (997, _), (991, _)] (fun (j : Nat) => [(55, .int .i64 (j : Int))]) (fun (j : Nat) => []) (fun (j : Nat) => (j ≤ ([(sx, r), (sx_2, t)].getD i R0).2.length)) (fun (j : Nat) => ([(sx, r), (sx_2, t)].getD i R0).2.length - j) 0 (by first | omega | (dsimp only <;> omega)) ⟨rfl, rfl, rfl, rfl, rfl, rfl, rfl, rfl, trivial⟩ ⟨rfl, rfl, rfl, rfl, rfl, rfl, rfl, trivial⟩ ?_))))
    rintro j hj
    simp only [List.cons_append, List.nil_append]
    refine e_seq (e_reg (dt (d_lss rfl rfl rfl) rfl ?_))
    refine l_nil (x_then (e_seq (e_cond rfl (fun h193 => ?_) (fun h193 => ?_))))
    ·refine e_skip ?_
     refine x_then (e_seq (e_block (e_seq (e_reg (dt (d_ixa (ii := 991) rfl rfl rfl rfl rd_slp Tryz.underlying23 Tryz.sizeOf25 rfl (by first | omega | (simp only [List.length_set]; omega))) rfl ?_)))))
     refine dt (d_lde (ii := 991) (false, ⟨#[]⟩) rfl rfl rfl rd_slp pW (by first | omega | (simp only [List.length_set]; omega))) rfl ?_
     refine tt (t_alloc (i := 5) rfl rfl rfl Tryz.zeroValue25 rfl rfl hw) rfl (fun b _ => ?_)
     refine tt (t_stw (i := 5) rfl rfl rfl rfl rfl (by decide) rfl Tryz.sizeOf25 rfl rfl ⟨(one_rfl rfl), (one_rfl rfl), trivial⟩ rfl hw trivial) rfl (fun _ _ => ?_)
     refine l_nil (x_then (e_seq (e_reg (dt (d_fa rfl rfl Tryz.underlying25 rfl Tryz.sizeOf9 rfl rfl) rfl ?_))))
     refine dt (d_lb (i := 5) rfl rfl rfl Tryz.isAgg9 rfl) rfl ?_
     refine dt (d_lens rfl rfl Tryz.underlying9) rfl ?_
     refine dt (d_gtr rfl rfl rfl) rfl ?_
     refine l_nil (x_then (e_cond rfl (fun h194 => ?_) (fun h194 => ?_)))
     ·refine e_seq (e_reg (tt (t_call (n := 5) (law_known) rfl rfl rfl trivial Tryz.call11 pre_nil rfl hw) rfl (fun _ _ => ?_)))
      refine as_ rfl rfl (l_nil (x_then (e_ret (x_br ?_))))
      refine x_ret ?_
      refine x_ret ?_
      refine x_br ?_
      refine x_br ?_
      refine x_ret ?_
      refine x_ret ?_
      refine x_br ?_
      refine x_ret ?_
      exact x_end (.inl rfl) hsc () _ (fun a w hs => res1 hs Tryz.results6 rfl) rfl trivial rfl give_nil
     ·refine e_skip ?_
      refine x_bn ?_
      refine x_then (e_reg (dt (d_add rfl rfl rfl ⟨by omega, by omega⟩) rfl ?_))
      refine mv rfl rfl (l_nil ?_)
      exact x_rnd (j + 1) (by first | omega | (dsimp only <;> omega)) (by first | omega | (dsimp only <;> omega)) ⟨rfl, rfl, rfl, rfl, rfl, rfl, rfl, rfl, trivial⟩ ⟨rfl, rfl, rfl, rfl, rfl, rfl, rfl, trivial⟩
    ·refine e_exit ?_
     refine x_exit (x_exit (x_be ?_))
     refine x_bn ?_
     refine x_then (e_reg (dt (d_add rfl rfl rfl ⟨by omega, by omega⟩) rfl ?_))
     refine mv rfl rfl (l_nil ?_)
     exact x_rnd (i + 1) (by first | omega | (dsimp only <;> omega)) (by first | omega | (dsimp only <;> omega)) ⟨rfl, rfl, rfl, rfl, rfl, trivial⟩ ⟨rfl, rfl, rfl, rfl, rfl, rfl, trivial⟩
   ·refine e_exit ?_
    refine x_exit (x_exit (x_be ?_))
    refine x_then (e_seq (e_reg (mv rfl rfl (mv rfl rfl (tt (t_call (n := 5) (poly_rest_bad _ _ _ _ hb) rfl rfl rfl ⟨rfl, rfl, trivial⟩ Tryz.call37 (pre_same 1 rfl rfl rfl (pre_same 2 rfl rfl rfl pre_nil)) rfl hw) rfl (fun _ _ => ?_))))))
    refine mv rfl rfl (dt (d_ex rfl rfl rfl) rfl ?_)
    refine dt (d_ex rfl rfl rfl) rfl ?_
    refine as_ rfl rfl (as_ rfl rfl (l_nil (x_then (e_seq (e_reg (mv rfl rfl (mv rfl rfl (tt (t_call (n := 5) (poly_divide_bad _ _ _ _ hb) rfl rfl rfl ⟨rfl, rfl, trivial⟩ Tryz.call38 (pre_same 1 rfl rfl rfl (pre_same 2 rfl rfl rfl pre_nil)) rfl hw) rfl (fun _ _ => ?_)))))))))
    refine mv rfl rfl (dt (d_ex rfl rfl rfl) rfl ?_)
    refine dt (d_ex rfl rfl rfl) rfl ?_
    refine as_ rfl rfl (as_ rfl rfl (l_nil (x_then (e_seq (e_reg (mv rfl rfl (mv rfl rfl (tt (t_call (n := 5) (poly_gcd_bad _ _ _ _ hb) rfl rfl rfl ⟨rfl, rfl, trivial⟩ Tryz.call39 (pre_same 1 rfl rfl rfl (pre_same 2 rfl rfl rfl pre_nil)) rfl hw) rfl (fun _ _ => ?_)))))))))
    refine mv rfl rfl (dt (d_ex rfl rfl rfl) rfl ?_)
    refine dt (d_ex rfl rfl rfl) rfl ?_
    refine as_ rfl rfl (as_ rfl rfl (l_nil (x_then (e_seq (e_seq (e_reg (mv rfl rfl (mv rfl rfl (tt (t_bsg (i := 6) (ivs := [(0, _), (1, _)]) (enc := encS) [(sx, r), (sx_2, t)] rfl rfl rfl ⟨rfl, rfl, rfl, rfl, trivial⟩ Tryz.underlying68 Tryz.ti23 rfl rfl rfl rfl rfl rfl pS.cells rfl rfl hw) rfl (fun v_3 _ => ?_))))))))))
    refine l_imp (s_many_nil qR 900) ?_
    refine l_imp (s_many_snoc (q := qR) (z := (sx, r)) 900 1 901 rfl rfl rfl rfl rfl) ?_
    refine l_imp (s_many_snoc (q := qR) (z := (sx_2, t)) 901 2 902 rfl rfl rfl rfl rfl) ?_
    refine l_imp (s_pub 6 rfl rfl pS) ?_
    refine l_imp (s_mkdeep 6 902 1036 rfl rfl rfl rfl) ?_
    refine tt (t_call (n := 6) (law_valid _ _) rfl rfl rfl ⟨rfl, trivial⟩ Tryz.call16 (pre_same 1036 rfl rfl rfl pre_nil) rfl hw) rfl (fun _ _ => ?_)
    refine dt (det_is (r' := .bool true) (d_notb rfl rfl) (congrArg Value.bool (by cases h1 : okP r <;> cases h2 : okP t <;> simp_all))) rfl ?_
    refine l_nil (x_then (e_condt rfl ?_))
    refine e_seq (e_reg (mv rfl rfl (dt (d_len rfl rfl (i := 999) rfl rd_slp Tryz.underlying23) rfl ?_)))
    refine dt (det_is (r' := .bool true) (d_eql rfl rfl rfl) (congrArg Value.bool (by decide))) rfl ?_
    refine mv rfl rfl (gdt (d_mv rfl rfl) rfl rfl rfl rfl ?_)
    refine gdt (det_is (r' := .bool true) (d_eql rfl rfl rfl) (congrArg Value.bool (by decide))) rfl rfl rfl rfl ?_
    refine dt (d_pickt rfl rfl rfl) rfl ?_
    refine mv rfl rfl (gdt (d_mv rfl rfl) rfl rfl rfl rfl ?_)
    refine gdt (d_len rfl rfl (i := 999) rfl rd_slp Tryz.underlying23) rfl rfl rfl rfl ?_
    refine gdt (det_is (r' := .bool true) (d_eql rfl rfl rfl) (congrArg Value.bool (by decide))) rfl rfl rfl rfl ?_
    refine dt (d_pickt rfl rfl rfl) rfl ?_
    refine mv rfl rfl (gdt (d_mv rfl rfl) rfl rfl rfl rfl ?_)
    refine gdt (det_is (r' := .bool true) (d_eql rfl rfl rfl) (congrArg Value.bool (by decide))) rfl rfl rfl rfl ?_
    refine dt (d_pickt rfl rfl rfl) rfl ?_
    refine mv rfl rfl (gdt (d_mv rfl rfl) rfl rfl rfl rfl ?_)
    refine gdt (d_len rfl rfl (i := 999) rfl rd_slp Tryz.underlying23) rfl rfl rfl rfl ?_
    refine gdt (det_is (r' := .bool true) (d_eql rfl rfl rfl) (congrArg Value.bool (by decide))) rfl rfl rfl rfl ?_
    refine dt (d_pickt rfl rfl rfl) rfl ?_
    refine mv rfl rfl (gdt (d_mv rfl rfl) rfl rfl rfl rfl ?_)
    refine gdt (det_is (r' := .bool true) (d_eql rfl rfl rfl) (congrArg Value.bool (by decide))) rfl rfl rfl rfl ?_
    refine dt (d_pickt rfl rfl rfl) rfl ?_
    refine mv rfl rfl (gtt (t_call (n := 6) (law_known) rfl rfl rfl trivial Tryz.call11 pre_nil rfl hw) rfl rfl rfl rfl (fun _ _ => ?_))
    refine dt (d_pickt rfl rfl rfl) rfl ?_
    refine as_ rfl rfl (l_nil (x_then (e_ret (x_ret ?_))))
    exact x_end (.inl rfl) hsc () _ (fun a w hs => res1 hs Tryz.results6 rfl) rfl trivial rfl give_nil
end Go.Sky
namespace Go.Sky
open Go.Proofs
theorem law_divides (v : Value) (r : List (Bool × ByteArray)) (u : Value) (t : List (Bool × ByteArray)) : Cal Tryz.prog 6 #[v, u] [slp 2 encW v r, slp 2 encW u t] false (G := Unit) (fun _ => True) (fun _ => .bool true) (fun _ => []) := by
  by_cases h : okP r = true ∧ okP t = true
  · obtain ⟨xs, hv, rfl⟩ := okP_ex h.1
    obtain ⟨ys, hu, rfl⟩ := okP_ex h.2
    refine Cal.imp (p := slp 2 wv v xs) ?_ (slp_wr' v xs) (fun _ h => h)
    refine Cal.imp2 (p := slp 2 wv u ys) ?_ (slp_wr' u ys) (fun _ h => h)
    by_cases hF : ys.length = 0
    · exact law_divides_zero v u xs ys hv hu hF
    · exact law_divides_ok v u xs ys hv hu hF
  · exact law_divides_bad v u r t (fun a b => h ⟨a, b⟩)
end Go.Sky
