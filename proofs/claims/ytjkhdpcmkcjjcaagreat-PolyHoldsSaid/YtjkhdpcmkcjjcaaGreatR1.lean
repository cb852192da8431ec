/- the law
   Proved without conditions of its own: each theorem bears its own. -/
import Derived.Test.YtjkhdpcmkcjjcaaGreatK
import Derived.Test.YtjkhdpcmkcjjcaaGreatD
set_option linter.all false
namespace Go.Sky
open Go.Proofs
set_option linter.unusedVariables false
end Go.Sky
namespace Go.Sky
open Go.Proofs
set_option linter.unusedVariables false
theorem ev_nf {p : List Int} {x y : Int} {n m : Nat} (hp : Sz n p) (hx : bl x.natAbs ≤ m) (hy : bl y.natAbs ≤ m) (hl : p.length ≤ 25) (hF : n + 24 * m + 8 ≤ 65536) : ¬ evfull p x y := fun h => by
  have h1 := msz_le hp
  have h2 : msz [x, y] ≤ m := by simp only [msz]; omega
  have h3 : (p.length - 1) * msz [x, y] ≤ 24 * m := Nat.mul_le_mul (by omega) h2
  have h4 := h.2
  omega
theorem ev_pb {p : List Int} {x y : Int} (h : ¬ evfull p x y) (hv : Vp p) : bl (pev p x y).natAbs ≤ 65536 := by
  have h1 := evv_bl (p := p) (n := x) (d := y) hv.len
  rwa [show evv p x y = pev p x y from if_neg h] at h1
theorem lgcd_dv1 (x y : Int) : lgcd x y ∣ x := by
  unfold lgcd; split
  · exact Int.neg_dvd.2 (Int.gcd_dvd_left ..)
  · exact Int.gcd_dvd_left ..
theorem lgcd_dv2 (x y : Int) : lgcd x y ∣ y := by
  unfold lgcd; split
  · exact Int.neg_dvd.2 (Int.gcd_dvd_right ..)
  · exact Int.gcd_dvd_right ..
theorem ev_yb {p : List Int} {x y : Int} (h : ¬ evfull p x y) : bl (y ^ (p.length - 1)).natAbs ≤ 65536 := by
  by_cases hp : p = []
  · subst hp; show bl (y ^ 0).natAbs ≤ 65536; rw [Int.pow_zero]; show bl 1 ≤ _; rw [bl_one]; omega
  · exact ev_pw h _ (Nat.le_refl _)
end Go.Sky
/- The greatest common divisor, up to a factor. -/
namespace Go.Sky
set_option linter.unusedVariables false
theorem sumTo_only {f : Nat → Int} {k : Nat} : ∀ {n : Nat}, k < n → (∀ i, i < n → i ≠ k → f i = 0) → sumTo f n = f k
  | 0, hk, _ => absurd hk (Nat.not_lt_zero _)
  | n + 1, hk, h => by
    rw [sumTo_succ]
    by_cases e : k = n
    · subst e
      rw [sumTo_z fun i hi => h i (by omega) (by omega), Int.zero_add]
    · rw [h n (by omega) (fun x => e x.symm), sumTo_only (by omega) (fun i hi => h i (by omega)), Int.add_zero]
theorem conv_top {p q : List Int} {a b : Nat} (ha : ∀ i, a < i → cf p i = 0) (hb : ∀ i, b < i → cf q i = 0) : (ps p * ps q).c (a + b) = cf p a * cf q b := by
  rw [PS.mul_c, sumTo_only (k := a) (by omega) fun i hi hne => ?_]
  · rw [ps_c, ps_c, show a + b - a = b by omega]
  · rw [ps_c, ps_c]
    rcases Nat.lt_or_ge a i with h | h
    · rw [ha i h, Int.zero_mul]
    · rw [hb (a + b - i) (by omega), Int.mul_zero]
theorem mul_lin2 (s s' : List Int) (c c' : Int) (f : PS) (t : Nat) : (ps (psub (pscale s c) (pscale s' c')) * f).c t = c * (ps s * f).c t - c' * (ps s' * f).c t := by
  rw [PS.mul_c, PS.mul_c, PS.mul_c, ← sumTo_mul, Int.sub_eq_add_neg, ← Int.neg_mul, ← sumTo_mul, ← sumTo_add]
  refine sumTo_congr fun k _ => ?_
  rw [ps_c, ps_c, ps_c, cf_psub, cf_pscale, cf_pscale]
  grind
theorem mul_scale_r (f : PS) (q q' : List Int) (u v : Int) (h : ∀ i, u * cf q i = v * cf q' i) (t : Nat) : u * (f * ps q).c t = v * (f * ps q').c t := by
  rw [PS.mul_c, PS.mul_c, ← sumTo_mul, ← sumTo_mul]
  refine sumTo_congr fun k _ => ?_
  rw [ps_c, ps_c]
  have := h (t - k)
  grind
/-- a multiple of q of lower degree is zero -/
theorem mul_low {q s r : List Int} (hq : Tr q) (hq0 : q ≠ []) (h : ∀ t, (ps s * ps q).c t = cf r t) (hr : ∀ t, q.length - 1 ≤ t → cf r t = 0) : ∀ t, cf s t = 0 := by
  have hlead := hq.mem hq0
  have hlen : 0 < q.length := List.length_pos_iff.2 hq0
  have hs : tzl s = [] := by
    rcases snoc_or (tzl s) with h1 | ⟨ys, y, h1⟩
    · exact h1
    · exfalso
      have ht := tr_tzl s
      have hne : tzl s ≠ [] := by rw [h1]; simp
      have h2 := ht.mem hne
      have h3 := conv_top (p := tzl s) (q := q) (a := (tzl s).length - 1) (b := q.length - 1) (fun i hi => cf_ge (by omega)) (fun i hi => cf_ge (by omega))
      have h4 : ps (tzl s) = ps s := PS.ext' fun i => cf_tzl s i
      rw [h4, h, hr _ (by omega)] at h3
      rcases Int.mul_eq_zero.1 h3.symm with h5 | h5
      · exact h2 h5
      · exact hlead h5
  exact (tzl_nil_iff s).1 hs
theorem mul_zero_l {s : List Int} (h : ∀ t, cf s t = 0) (f : PS) (t : Nat) : (ps s * f).c t = 0 := by
  rw [PS.mul_c]
  exact sumTo_z fun k _ => by rw [ps_c, h, Int.zero_mul]
theorem length_pmul {p q : List Int} (hp : Tr p) (hq : Tr q) (h1 : p ≠ []) (h2 : q ≠ []) : (pmul p q).length = p.length + q.length - 1 := by
  have l1 := List.length_pos_iff.2 h1
  have l2 := List.length_pos_iff.2 h2
  unfold pmul
  rw [tzl_tr, length_mk]
  right
  rw [length_mk, cf_mk, if_pos (by omega), show p.length + q.length - 1 - 1 = (p.length - 1) + (q.length - 1) by omega, conv_top (fun i hi => cf_ge (by omega)) (fun i hi => cf_ge (by omega))]
  exact Int.mul_ne_zero (hp.mem h1) (hq.mem h2)
/-! the rest -/
def mono (s : Nat) (c : Int) : List Int := List.replicate s 0 ++ [c]
theorem cf_mono (s : Nat) (c : Int) (i : Nat) : cf (mono s c) i = if i = s then c else 0 := by
  unfold mono
  rw [cf_append, List.length_replicate]
  split
  · rw [if_neg (by omega)]
    unfold cf
    simp [List.getD_eq_getElem?_getD, List.getElem?_replicate]
    split <;> rfl
  · rename_i h
    split
    · rename_i h2; subst h2; simp [cf]
    · exact cf_ge (by simp; omega)
theorem mono_mul (s : Nat) (c : Int) (f : PS) (t : Nat) : (ps (mono s c) * f).c t = if s ≤ t then c * f.c (t - s) else 0 := by
  rw [PS.mul_c]
  split
  · rw [sumTo_only (k := s) (by omega) fun i _ hne => by rw [ps_c, cf_mono, if_neg hne, Int.zero_mul], ps_c, cf_mono, if_pos rfl]
  · exact sumTo_z fun k hk => by rw [ps_c, cf_mono, if_neg (by omega), Int.zero_mul]
theorem rsteps_id {p q : List Int} (hq : 0 < q.length) (hl : q.length ≤ p.length) : ∀ j, j ≤ p.length - q.length + 1 → ∃ s : List Int, ∀ t, cf q (q.length - 1) ^ j * cf p t = (ps s * ps q).c t + cf (rsteps p q j) t
  | 0, _ => ⟨[], fun t => by rw [mul_zero_l (fun t => cf_ge (Nat.zero_le _)), Int.pow_zero]; unfold rsteps; omega⟩
  | j + 1, hj => by
    obtain ⟨s, ih⟩ := rsteps_id hq hl j (by omega)
    refine ⟨psub (pscale s (cf q (q.length - 1))) (pscale (mono (p.length - 1 - j - (q.length - 1)) (cf (rsteps p q j) (p.length - 1 - j))) (-1)), fun t => ?_⟩
    rw [mul_lin2, mono_mul]
    have h0 := ih t
    show _ = _ + cf (rstep q (rsteps p q j) (p.length - 1 - j)) t
    rw [Int.pow_succ]
    rcases Nat.lt_or_ge t p.length with h | h
    · rw [cf_rstep (by rw [length_rsteps]; exact h)]
      generalize p.length - 1 - j - (q.length - 1) = sh
      generalize cf (rsteps p q j) (p.length - 1 - j) = R
      generalize cf (rsteps p q j) t = R' at h0 ⊢
      generalize (ps s * ps q).c t = X at h0 ⊢
      generalize cf q (q.length - 1) ^ j = L at h0 ⊢
      generalize cf q (q.length - 1) = l at h0 ⊢
      have e : L * l * cf p t = l * X + R' * l := by rw [Int.mul_assoc, Int.mul_comm l, ← Int.mul_assoc, h0]; grind
      rw [e]
      by_cases h1 : sh ≤ t
      · rw [if_pos h1, ps_c]
        by_cases h2 : t < sh + q.length
        · rw [if_pos ⟨h1, h2⟩]; omega
        · rw [if_neg (by omega), cf_ge (p := q) (i := t - _) (by omega)]; omega
      · rw [if_neg h1, if_neg (by omega)]; omega
    · have z1 : cf p t = 0 := cf_ge h
      have z2 : cf (rsteps p q j) t = 0 := cf_ge (by rw [length_rsteps]; exact h)
      have z3 : cf (rstep q (rsteps p q j) (p.length - 1 - j)) t = 0 := cf_ge (by rw [length_rstep, length_rsteps]; exact h)
      have z4 : cf q (t - (p.length - 1 - j - (q.length - 1))) = 0 := cf_ge (by omega)
      rw [z1, z2, Int.mul_zero, Int.add_zero] at h0
      rw [z1, z3, if_pos (by omega), ps_c, z4, ← h0]; simp
theorem prest_id (p : List Int) {q : List Int} (hq : q ≠ []) : ∃ (k : Nat) (s : List Int), ∀ t, cf q (q.length - 1) ^ k * cf p t = (ps s * ps q).c t + cf (prest p q) t := by
  have hq' : 0 < q.length := List.length_pos_iff.2 hq
  rcases Nat.lt_or_ge p.length q.length with h | h
  · refine ⟨0, [], fun t => ?_⟩
    rw [mul_zero_l (fun t => cf_ge (Nat.zero_le _)), Int.pow_zero]
    unfold prest; rw [if_pos h]; omega
  · obtain ⟨s, hs⟩ := rsteps_id hq' h _ (Nat.le_refl _)
    refine ⟨p.length - q.length + 1, s, fun t => ?_⟩
    rw [hs t]
    unfold prest
    rw [if_neg (by omega), cf_tzl]
theorem length_prest_lt (p : List Int) {q : List Int} (hq : q ≠ []) : (prest p q).length < q.length := by
  have hq' : 0 < q.length := List.length_pos_iff.2 hq
  unfold prest
  split
  · assumption
  · have := tzl_len_le (p := rsteps p q (p.length - q.length + 1)) (n := q.length - 1) fun i hi => rsteps_top hq' (by omega) _ (Nat.le_refl _) i (by omega)
    omega
theorem tr_prest {p q : List Int} (hp : Tr p) : Tr (prest p q) := by
  unfold prest; split
  · exact hp
  · exact tr_tzl _
/-! the same but for a factor -/
def Sim (a b : List Int) : Prop := ∃ m n : Int, m ≠ 0 ∧ n ≠ 0 ∧ ∀ i, m * cf a i = n * cf b i
theorem Sim.refl (a : List Int) : Sim a a := ⟨1, 1, by decide, by decide, fun _ => rfl⟩
theorem Sim.symm {a b : List Int} : Sim a b → Sim b a := fun ⟨m, n, hm, hn, h⟩ => ⟨n, m, hn, hm, fun i => (h i).symm⟩
theorem Sim.trans {a b c : List Int} : Sim a b → Sim b c → Sim a c := fun ⟨m, n, hm, hn, h⟩ ⟨u, v, hu, hv, k⟩ =>
  ⟨m * u, n * v, Int.mul_ne_zero hm hu, Int.mul_ne_zero hn hv, fun i => by have h1 := h i; have h2 := k i; grind⟩
theorem Sim.zero {a b : List Int} (h : Sim a b) {i : Nat} (hi : cf a i = 0) : cf b i = 0 := by
  obtain ⟨m, n, hm, hn, h⟩ := h
  have := h i
  rw [hi, Int.mul_zero] at this
  rcases Int.mul_eq_zero.1 this.symm with h | h
  · exact absurd h hn
  · exact h
theorem Sim.len_le {a b : List Int} (h : Sim a b) (hb : Tr b) : b.length ≤ a.length := by
  rcases Nat.lt_or_ge a.length b.length with hl | hl
  · exfalso
    have hne : b ≠ [] := List.length_pos_iff.1 (by omega)
    exact hb.mem hne (h.zero (cf_ge (by omega)))
  · exact hl
theorem Sim.len {a b : List Int} (h : Sim a b) (ha : Tr a) (hb : Tr b) : a.length = b.length := Nat.le_antisymm (h.symm.len_le ha) (h.len_le hb)
theorem Sim.nil {a b : List Int} (h : Sim a b) (hb : Tr b) (ha : a = []) : b = [] := by
  have := h.len_le hb
  rw [ha] at this
  exact List.eq_nil_of_length_eq_zero (by simpa using this)
theorem prest_sim {a b a' b' : List Int} (ha : Tr a) (ha' : Tr a') (hb : Tr b) (hb' : Tr b') (h0 : b ≠ []) (h1 : Sim a a') (h2 : Sim b b') : Sim (prest a b) (prest a' b') := by
  have h0' : b' ≠ [] := fun e => h0 (h2.symm.nil hb e)
  have hlen := h2.len hb hb'
  obtain ⟨k, s, hs⟩ := prest_id a h0
  obtain ⟨k', s', hs'⟩ := prest_id a' h0'
  have hL : cf b (b.length - 1) ^ k ≠ 0 := int_pow_ne (hb.mem h0) k
  have hL' : cf b' (b'.length - 1) ^ k' ≠ 0 := int_pow_ne (hb'.mem h0') k'
  generalize cf b (b.length - 1) ^ k = L at hs hL
  generalize cf b' (b'.length - 1) ^ k' = L' at hs' hL'
  obtain ⟨m, n, hm, hn, e1⟩ := h1
  obtain ⟨u, v, hu, hv, e2⟩ := h2
  have l1 := length_prest_lt a h0
  have l2 := length_prest_lt a' h0'
  have key : ∀ t, (ps (psub (pscale s (L' * m * v)) (pscale s' (L * n * u))) * ps b').c t = cf (psub (pscale (prest a' b') (L * n * u)) (pscale (prest a b) (L' * m * u))) t := fun t => by
    rw [mul_lin2, cf_psub, cf_pscale, cf_pscale]
    have a1 := hs t
    have a2 := hs' t
    have a3 := e1 t
    have a4 := mul_scale_r (ps s) b b' u v e2 t
    generalize (ps s * ps b).c t = X at a1 a4
    generalize (ps s * ps b').c t = Y at a4
    generalize (ps s' * ps b').c t = Z at a2
    generalize cf a t = A at a1 a3
    generalize cf a' t = A' at a2 a3
    generalize cf (prest a b) t = R at a1
    generalize cf (prest a' b') t = R' at a2
    have : L' * m * v * Y = L' * m * u * X := by grind
    grind
  have z := mul_low hb' h0' key fun t ht => by
    rw [cf_psub, cf_pscale, cf_pscale, cf_ge (p := prest a' b') (by omega), cf_ge (p := prest a b) (by omega)]; omega
  refine ⟨L' * m * u, L * n * u, by simp [*], by simp [*], fun t => ?_⟩
  have := key t
  rw [mul_zero_l z, cf_psub, cf_pscale, cf_pscale] at this
  grind
/-! contents -/
theorem foldl_gcd_scale (c : Int) : ∀ (p : List Int) (g : Int), 0 ≤ g → (p.map (· * c)).foldl (fun g c => (Int.gcd g c : Int)) (g * c.natAbs) = p.foldl (fun g c => (Int.gcd g c : Int)) g * c.natAbs
  | [], g, _ => rfl
  | x :: p, g, hg => by
    rw [List.map_cons, List.foldl_cons, List.foldl_cons, ← foldl_gcd_scale c p _ (by omega)]
    congr 1
    have : Int.gcd (g * (c.natAbs : Int)) (x * c) = Int.gcd g x * c.natAbs := by
      unfold Int.gcd
      rw [Int.natAbs_mul, Int.natAbs_mul, Int.natAbs_natCast, Nat.gcd_mul_right]
    rw [this]; push_cast; rfl
theorem pcont_map (p : List Int) (c : Int) : pcont (p.map (· * c)) = pcont p * c.natAbs := by
  have := foldl_gcd_scale c p 0 (Int.le_refl _)
  rw [Int.zero_mul] at this
  exact this
theorem pprim_mul (p : List Int) (i : Nat) : cf (pprim p) i * pcont p = cf p i := by
  rw [cf_pprim]; exact Int.ediv_mul_cancel (pcont_dvd p i)
theorem pcont_ne {p : List Int} (h : Tr p) (h0 : p ≠ []) : pcont p ≠ 0 := fun e => h.mem h0 ((pcont_zero_iff p).1 e _)
theorem pcont_pprim {p : List Int} (h : Tr p) (h0 : p ≠ []) : pcont (pprim p) = 1 := by
  have h1 := pcont_ne h h0
  have h2 := pcont_map (pprim p) (pcont p)
  rw [show (pprim p).map (· * pcont p) = p from list_ext (by rw [List.length_map, length_pprim]) fun i _ => by rw [cf_map _ _ (by simp)]; exact pprim_mul p i] at h2
  have h3 := pcont_nonneg p
  have h4 : pcont p * (pcont (pprim p) - 1) = 0 := by
    rw [Int.mul_sub, Int.mul_one, Int.mul_comm]
    have : ((pcont p).natAbs : Int) = pcont p := by omega
    rw [this] at h2; omega
  rcases Int.mul_eq_zero.1 h4 with h5 | h5 <;> omega
theorem pprim_of_one {p : List Int} (h : pcont p = 1) : pprim p = p := list_ext (length_pprim p) fun i _ => by rw [cf_pprim, h, Int.ediv_one]
theorem pprim_idem {p : List Int} (h : Tr p) : pprim (pprim p) = pprim p := by
  by_cases h0 : p = []
  · subst h0; rfl
  · exact pprim_of_one (pcont_pprim h h0)
theorem sim_pprim {p : List Int} (h : Tr p) : Sim (pprim p) p := by
  by_cases h0 : p = []
  · subst h0; exact Sim.refl _
  · exact ⟨pcont p, 1, pcont_ne h h0, by decide, fun i => by rw [Int.one_mul, Int.mul_comm]; exact pprim_mul p i⟩
/-- primitive, with a positive leading coefficient -/
def nrm (p : List Int) : List Int := gnorm (pprim p)
theorem sim_sign {x y : List Int} (hx : Tr x) (hy : Tr y) (h0 : x ≠ []) (h1 : pcont x = 1) (h2 : pcont y = 1) (h : Sim x y) : x = y ∨ ∀ i, cf x i = - cf y i := by
  have hl := h.len hx hy
  obtain ⟨m, n, hm, hn, e⟩ := h
  have h3 := pcont_map x m
  have h4 := pcont_map y n
  rw [show x.map (· * m) = y.map (· * n) from list_ext (by simp [hl]) fun i _ => by
    rw [cf_map _ _ (by simp), cf_map _ _ (by simp), Int.mul_comm, Int.mul_comm (cf y i)]; exact e i, h4, h1, h2] at h3
  have h5 : m = n ∨ m = -n := by omega
  rcases h5 with rfl | rfl
  · exact .inl (list_ext hl fun i _ => Int.eq_of_mul_eq_mul_left hm (e i))
  · exact .inr fun i => Int.eq_of_mul_eq_mul_left hn (by have := e i; grind)
theorem cf_gnorm (g : List Int) (i : Nat) : cf (gnorm g) i = if g.length ≠ 0 ∧ cf g (g.length - 1) < 0 then - cf g i else cf g i := by
  unfold gnorm; split
  · rw [cf_pscale]; omega
  · rfl
theorem tr_gnorm {g : List Int} (h : Tr g) : Tr (gnorm g) := by
  unfold gnorm; split
  · exact tr_pscale _ _
  · exact h
theorem sim_gnorm (g : List Int) : Sim (gnorm g) g := by
  by_cases h : g.length ≠ 0 ∧ cf g (g.length - 1) < 0
  · exact ⟨-1, 1, by decide, by decide, fun i => by rw [cf_gnorm, if_pos h]; omega⟩
  · exact ⟨1, 1, by decide, by decide, fun i => by rw [cf_gnorm, if_neg h]⟩
theorem nrm_sim {a b : List Int} (ha : Tr a) (hb : Tr b) (h : Sim a b) : nrm a = nrm b := by
  by_cases h0 : a = []
  · rw [h.nil hb h0, h0]
  · have h0' : b ≠ [] := fun e => h0 (h.symm.nil ha e)
    have hs : Sim (pprim a) (pprim b) := (sim_pprim ha).trans (h.trans (sim_pprim hb).symm)
    have hx := tr_pprim ha
    have hy := tr_pprim hb
    have hl := hs.len hx hy
    have hx0 : pprim a ≠ [] := fun e => h0 (List.eq_nil_of_length_eq_zero (by rw [← length_pprim, e]; rfl))
    rcases sim_sign hx hy hx0 (pcont_pprim ha h0) (pcont_pprim hb h0') hs with e | e
    · unfold nrm; rw [e]
    · unfold nrm
      refine (tr_gnorm hx).ext (tr_gnorm hy) fun i => ?_
      rw [cf_gnorm, cf_gnorm, ← hl, e i, e ((pprim a).length - 1)]
      have hne : cf (pprim b) ((pprim a).length - 1) ≠ 0 := by rw [hl]; exact hy.mem (fun e2 => hx0 (List.eq_nil_of_length_eq_zero (by rw [hl, e2]; rfl)))
      have hl0 : (pprim a).length ≠ 0 := fun e2 => hx0 (List.eq_nil_of_length_eq_zero e2)
      by_cases h3 : cf (pprim b) ((pprim a).length - 1) < 0
      · rw [if_neg (by omega), if_pos ⟨hl0, h3⟩]
      · rw [if_pos (by omega), if_neg (by omega)]; omega
/-! Euclid's chain -/
theorem eu_sim : ∀ (f : Nat) {a b a' b' : List Int}, Tr a → Tr a' → Tr b → Tr b' → Sim a a' → Sim b b' → Sim (eu f a b) (eu f a' b')
  | 0, _, _, _, _, _, _, _, _, h, _ => h
  | f + 1, a, b, a', b', ha, ha', hb, hb', h1, h2 => by
    unfold eu
    by_cases h0 : b = []
    · rw [if_pos h0, if_pos (h2.nil hb' h0)]; exact h1
    · rw [if_neg h0, if_neg (fun e => h0 (h2.symm.nil hb e))]
      have t1 := tr_prest (q := b) ha
      have t2 := tr_prest (q := b') ha'
      exact eu_sim f hb hb' (tr_pprim t1) (tr_pprim t2) h2 ((sim_pprim t1).trans ((prest_sim ha ha' hb hb' h0 h1 h2).trans (sim_pprim t2).symm))
theorem eu_tr : ∀ (f : Nat) {a b : List Int}, Tr a → Tr b → Tr (eu f a b)
  | 0, _, _, h, _ => h
  | f + 1, a, b, ha, hb => by
    unfold eu
    split
    · exact ha
    · exact eu_tr f hb (tr_pprim (tr_prest ha))
theorem eu_prim : ∀ (f : Nat) {a b : List Int}, Tr a → Tr b → pprim a = a → pprim b = b → pprim (eu f a b) = eu f a b
  | 0, _, _, _, _, h, _ => h
  | f + 1, a, b, ha, hb, h1, h2 => by
    unfold eu
    split
    · exact h1
    · exact eu_prim f hb (tr_pprim (tr_prest ha)) h2 (pprim_idem (tr_prest ha))
theorem tr_gA {p q : List Int} (hp : Tr p) (hq : Tr q) : Tr (gA p q) := by unfold gA; split <;> exact tr_pprim (by assumption)
theorem tr_gB {p q : List Int} (hp : Tr p) (hq : Tr q) : Tr (gB p q) := by unfold gB; split <;> exact tr_pprim (by assumption)
theorem pgcd_nrm {F : Nat} {p q : List Int} (hp : Tr p) (hq : Tr q) : pgcd F p q = nrm (eu F (gA p q) (gB p q)) := by
  unfold pgcd nrm
  rw [eu_prim F (tr_gA hp hq) (tr_gB hp hq)]
  · unfold gA; split
    · exact pprim_idem hq
    · exact pprim_idem hp
  · unfold gB; split
    · exact pprim_idem hp
    · exact pprim_idem hq
/-! sizes of Euclid's chain -/
def chk : Nat → Nat → Nat → Nat → Nat → Bool
  | 0, _, lb, _, _ => Nat.beq lb 0
  | f + 1, la, lb, A, B => Nat.beq lb 0 || (bif Nat.blt la lb then chk f lb la B A else
      Nat.ble (A + (la - lb + 1) * B) 65537 && (List.range lb).all fun l => chk f lb l B (bif Nat.ble l 1 then 2 else A + (la - lb + 1) * B))
theorem msz_pprim {p : List Int} : msz (pprim p) ≤ msz p := msz_le (sz_pprim (msz_sz p))
theorem msz_pprim1 {p : List Int} (h : Tr p) (hl : p.length ≤ 1) : msz (pprim p) ≤ 1 := by
  match p, hl with
  | [], _ => exact Nat.zero_le _
  | [x], _ =>
    have hx : x ≠ 0 := h.mem (by simp)
    have h1 : pcont [x] = x.natAbs := by
      show ((Int.gcd 0 x : Nat) : Int) = _
      rw [Int.gcd_zero_left]
    show msz [x / pcont [x]] ≤ 1
    rw [h1]
    have : x / (x.natAbs : Int) = 1 ∨ x / (x.natAbs : Int) = -1 := by
      rcases Int.lt_or_gt_of_ne hx with h | h
      · right; rw [show (x.natAbs : Int) = -x by omega, Int.ediv_neg, Int.ediv_self hx]
      · left; rw [show (x.natAbs : Int) = x by omega, Int.ediv_self hx]
    rcases this with h | h <;> rw [h] <;> decide
theorem msz_prest {p q : List Int} (h : q.length ≤ p.length) : msz (prest p q) ≤ msz p + (p.length - q.length + 1) * (msz q + 1) := by
  unfold prest
  rw [if_neg (by omega)]
  exact msz_le (sz_rsteps p q _).tzl
theorem eok_chk : ∀ (f : Nat) {a b : List Int} {A B : Nat}, Tr a → Tr b → msz a + 1 ≤ A → msz b + 1 ≤ B → chk f a.length b.length A B = true → eok f a b
  | 0, a, b, A, B, _, _, _, _, h => List.eq_nil_of_length_eq_zero (Nat.eq_of_beq_eq_true h)
  | f + 1, a, b, A, B, ha, hb, h1, h2, h => by
    by_cases h0 : b = []
    · exact .inl h0
    · have hl : 0 < b.length := List.length_pos_iff.2 h0
      unfold chk at h
      rw [Bool.or_eq_true] at h
      rcases h with h | h
      · have := Nat.eq_of_beq_eq_true h; omega
      · right
        unfold derr
        rw [if_neg (by omega)]
        cases hlt : Nat.blt a.length b.length with
        | true =>
          rw [hlt, cond_true] at h
          have hlt : a.length < b.length := by simpa using hlt
          rw [if_pos hlt, show prest a b = a from if_pos hlt]
          refine ⟨rfl, eok_chk f hb (tr_pprim ha) h2 (Nat.le_trans (Nat.add_le_add_right msz_pprim 1) h1) ?_⟩
          rw [length_pprim]; exact h
        | false =>
          rw [hlt, cond_false, Bool.and_eq_true] at h
          have hge : b.length ≤ a.length := by
            rcases Nat.lt_or_ge a.length b.length with h3 | h3
            · have : Nat.blt a.length b.length = true := by simpa using h3
              rw [hlt] at this; cases this
            · exact h3
          have h3 : A + (a.length - b.length + 1) * B ≤ 65537 := Nat.le_of_ble_eq_true h.1
          have h4 : (a.length - b.length + 1) * (msz b + 1) ≤ (a.length - b.length + 1) * B := Nat.mul_le_mul_left _ h2
          rw [if_neg (by omega), if_neg (by omega)]
          refine ⟨rfl, ?_⟩
          have h5 := length_prest_lt a h0
          have h6 := List.all_eq_true.1 h.2 (prest a b).length (List.mem_range.2 h5)
          have t1 := tr_prest (q := b) ha
          refine eok_chk f hb (tr_pprim t1) h2 ?_ (by rw [length_pprim]; exact h6)
          cases hb1 : Nat.ble (prest a b).length 1 with
          | true => exact Nat.succ_le_succ (msz_pprim1 t1 (Nat.le_of_ble_eq_true hb1))
          | false =>
            rw [cond_false]
            have := msz_prest (p := a) (q := b) hge
            have := msz_pprim (p := prest a b)
            omega
end Go.Sky
namespace Go.Sky
open Go.Proofs
set_option linter.unusedVariables false
/-- at most 8 bytes each -/
def s8 (l : List Int) : Prop := ∀ x ∈ l, (bstr x.natAbs).size ≤ 8
theorem s8_zero (l : List Int) : s8 (l.take 0) := fun x hx => by rw [List.take_zero] at hx; cases hx
theorem s8_snoc {l : List Int} {j : Nat} (hj : j < l.length) (h : s8 (l.take j)) (hx : (bstr (l.getD j 0).natAbs).size ≤ 8) : s8 (l.take (j + 1)) := fun x hm => by
  rw [take_snoc 0 l j hj, List.mem_append] at hm
  rcases hm with hm | hm
  · exact h x hm
  · rw [List.mem_singleton.1 hm]; exact hx
theorem s8_all {l : List Int} {j : Nat} (h : s8 (l.take j)) (hj : l.length ≤ j) : s8 l := by rwa [List.take_of_length_le hj] at h
theorem s8_sz {l : List Int} (h : s8 l) : Sz 64 l := Sz.of_mem fun x hx => bstr_bl (n := 8) (h x hx)
abbrev Z0 : SL × List Int := ((none, 0, 0), [])
theorem s8_two {a b : SL × List Int} {i : Nat} (h : ∀ k, k < i → s8 ([a, b].getD k Z0).2) (hi : i = 2) : s8 a.2 ∧ s8 b.2 := by
  subst hi
  exact ⟨h 0 (by omega), h 1 (by omega)⟩
theorem s8_next {ls : List (SL × List Int)} {i j : Nat} (h : ∀ k, k < i → s8 (ls.getD k Z0).2) (hb : s8 ((ls.getD i Z0).2.take j)) (hj : (ls.getD i Z0).2.length ≤ j) : ∀ k, k < i + 1 → s8 (ls.getD k Z0).2 := fun k hk => by
  rcases Nat.lt_or_ge k i with h1 | h1
  · exact h k h1
  · obtain rfl : k = i := by omega
    exact s8_all hb hj
theorem vp_eu : ∀ (f : Nat) {a b : List Int}, Vp a → Vp b → eok f a b → Vp (eu f a b)
  | 0, _, _, h, _, _ => h
  | f + 1, a, b, ha, hb, h => by
    unfold eu
    split
    · exact ha
    · rcases h with h | h
      · contradiction
      · exact vp_eu f hb (vp_pprim (vp_prest ha h.1)) h.2
theorem vp_gnorm {g : List Int} (h : Vp g) : Vp (gnorm g) := by
  unfold gnorm
  split
  · refine ⟨fun i => by rw [cf_pscale]; exact bl_negm h.sz i, tr_pscale _ _, Nat.le_trans (pscale_len _ _) h.len⟩
  · exact h
theorem vp_pgcd {F : Nat} {p q : List Int} (hp : Vp p) (hq : Vp q) (h : eok F (gA p q) (gB p q)) : Vp (pgcd F p q) := vp_gnorm (vp_eu F (vp_gA hp hq) (vp_gB hp hq) h)
end Go.Sky
/- What holds of sums, products, quotients and values. -/
namespace Go.Sky
set_option linter.unusedVariables false
/-! values -/
def pevn (p : List Int) (x y : Int) (n : Nat) : Int := sumTo (fun i => cf p i * (x ^ i * y ^ (n - 1 - i))) n
def dn (p : List Int) (y : Int) : Int := y ^ (p.length - 1)
theorem pevn_more (p : List Int) (x y : Int) {n : Nat} (h : p.length ≤ n) (h1 : 0 < n) : pevn p x y n * dn p y = pev p x y * y ^ (n - 1) := by
  unfold pevn dn
  rw [sumTo_ext h fun i h1 _ => by rw [cf_ge h1, Int.zero_mul]]
  unfold pev
  rw [← sumTo_mulr, ← sumTo_mulr]
  refine sumTo_congr fun i hi => ?_
  have e1 : y ^ (n - 1 - i) * y ^ (p.length - 1) = y ^ (p.length - 1 - i) * y ^ (n - 1) := by
    rw [← Int.pow_add, ← Int.pow_add]; congr 1; omega
  rw [Int.mul_assoc, Int.mul_assoc, e1]
  rw [Int.mul_assoc, Int.mul_assoc]
theorem pevn_add (p q : List Int) (x y : Int) (n : Nat) : pevn (padd p q) x y n = pevn p x y n + pevn q x y n := by
  unfold pevn
  rw [← sumTo_add]
  exact sumTo_congr fun i _ => by rw [cf_padd, Int.add_mul]
theorem pev_add (p q : List Int) (x : Int) {y : Int} (hy : y ≠ 0) : pev (padd p q) x y * (dn p y * dn q y) = (pev p x y * dn q y + pev q x y * dn p y) * dn (padd p q) y := by
  have hl := padd_len p q
  have h0 := pevn_add p q x y (p.length + q.length + 1)
  have h1 := pevn_more p x y (n := p.length + q.length + 1) (by omega) (by omega)
  have h2 := pevn_more q x y (n := p.length + q.length + 1) (by omega) (by omega)
  have h3 := pevn_more (padd p q) x y (n := p.length + q.length + 1) (by omega) (by omega)
  have hz := int_pow_ne hy (p.length + q.length + 1 - 1)
  generalize y ^ (p.length + q.length + 1 - 1) = Y at *
  generalize pevn p x y (p.length + q.length + 1) = A at *
  generalize pevn q x y (p.length + q.length + 1) = B at *
  generalize pevn (padd p q) x y (p.length + q.length + 1) = C at *
  generalize dn p y = a at *
  generalize dn q y = b at *
  generalize dn (padd p q) y = c at *
  generalize pev p x y = u at *
  generalize pev q x y = v at *
  generalize pev (padd p q) x y = w at *
  subst h0
  refine Int.eq_of_mul_eq_mul_left hz ?_
  grind
theorem dn_mul {p q : List Int} (hp : Tr p) (hq : Tr q) (h1 : p ≠ []) (h2 : q ≠ []) (y : Int) : dn (pmul p q) y = dn p y * dn q y := by
  have l1 := List.length_pos_iff.2 h1
  have l2 := List.length_pos_iff.2 h2
  unfold dn
  rw [length_pmul hp hq h1 h2, ← Int.pow_add]; congr 1; omega
theorem pev_mul0 {p q : List Int} (hp : Tr p) (hq : Tr q) (h1 : p ≠ []) (h2 : q ≠ []) (x y : Int) : pev (pmul p q) x y = pev p x y * pev q x y := by
  have l1 := List.length_pos_iff.2 h1
  have l2 := List.length_pos_iff.2 h2
  unfold pev
  rw [length_pmul hp hq h1 h2]
  obtain ⟨Fk, hF⟩ : ∃ Fk : Nat → Nat → Int, ∀ k j, Fk k j = cf p k * cf q j * (x ^ (k + j) * y ^ (p.length + q.length - 1 - 1 - (k + j))) := ⟨_, fun _ _ => rfl⟩
  have e1 : sumTo (fun i => cf (pmul p q) i * (x ^ i * y ^ (p.length + q.length - 1 - 1 - i))) (p.length + q.length - 1) = sumTo (fun i => sumTo (fun k => Fk k (i - k)) (i + 1)) (p.length + q.length - 1) := by
    refine sumTo_congr fun i _ => ?_
    rw [cf_pmul, PS.mul_c, ← sumTo_mulr]
    exact sumTo_congr fun k hk => by
      rw [hF, show k + (i - k) = i by omega]; rfl
  rw [e1, sumTo_tri, sumTo_ext (m := p.length) (by omega) fun k h1 h2 => sumTo_z fun j _ => by rw [hF, cf_ge h1, Int.zero_mul, Int.zero_mul], ← sumTo_mulr]
  refine sumTo_congr fun k hk => ?_
  rw [sumTo_ext (m := q.length) (by omega) fun j h1 h2 => by rw [hF, cf_ge h1, Int.mul_zero, Int.zero_mul], ← sumTo_mul]
  refine sumTo_congr fun j hj => ?_
  rw [hF, Int.pow_add, show p.length + q.length - 1 - 1 - (k + j) = (p.length - 1 - k) + (q.length - 1 - j) by omega, Int.pow_add]
  generalize x ^ k = a; generalize x ^ j = b; generalize y ^ (p.length - 1 - k) = c; generalize y ^ (q.length - 1 - j) = d
  grind
theorem pev_nil (x y : Int) : pev [] x y = 0 := rfl
theorem pmul_nil_l (q : List Int) : pmul [] q = [] := pmul_nil (.inl rfl)
theorem pmul_nil_r (p : List Int) : pmul p [] = [] := pmul_nil (.inr rfl)
theorem pev_mul {p q : List Int} (hp : Tr p) (hq : Tr q) (x y : Int) : pev (pmul p q) x y * (dn p y * dn q y) = (pev p x y * pev q x y) * dn (pmul p q) y := by
  by_cases h1 : p = []
  · subst h1; rw [pmul_nil_l, pev_nil]; simp
  by_cases h2 : q = []
  · subst h2; rw [pmul_nil_r, pev_nil]; simp
  rw [pev_mul0 hp hq h1 h2, dn_mul hp hq h1 h2]
/-! lowest terms -/
theorem lgcd_rel (N D : Int) : N / lgcd N D * D = N * (D / lgcd N D) := by
  have h1 := Int.ediv_mul_cancel (lgcd_dv1 N D)
  have h2 := Int.ediv_mul_cancel (lgcd_dv2 N D)
  generalize N / lgcd N D = n at *
  generalize D / lgcd N D = d at *
  generalize lgcd N D = g at *
  subst h1 h2
  grind
theorem lgcd_den {N D : Int} (h : D ≠ 0) : D / lgcd N D ≠ 0 := fun e => by
  have h2 := Int.ediv_mul_cancel (lgcd_dv2 N D)
  rw [e, Int.zero_mul] at h2
  exact h h2.symm
theorem lgcd_denp {N D : Int} (h : 0 < D) : 0 < D / lgcd N D := by
  have h1 : lgcd N D = (Int.gcd N D : Int) := if_neg (by omega)
  have h2 := Int.ediv_mul_cancel (lgcd_dv2 N D)
  rw [h1] at h2 ⊢
  generalize D / (Int.gcd N D : Int) = d at *
  rcases Int.lt_or_le 0 d with h3 | h3
  · exact h3
  · exfalso
    have : d * (Int.gcd N D : Int) ≤ 0 := Int.mul_nonpos_of_nonpos_of_nonneg h3 (by omega)
    omega
/-- a sum of two ratios in lowest terms, and the ratio of the sum -/
theorem sum_rel {N1 D1 N2 D2 N D n1 d1 n2 d2 n d : Int} (hD1 : D1 ≠ 0) (hD2 : D2 ≠ 0) (hD : D ≠ 0) (h1 : n1 * D1 = N1 * d1) (h2 : n2 * D2 = N2 * d2) (h : n * D = N * d) (hs : N * (D1 * D2) = (N1 * D2 + N2 * D1) * D) :
    (n1 * d2 + n2 * d1) * d = n * (d1 * d2) := by
  refine Int.eq_of_mul_eq_mul_left (Int.mul_ne_zero hD (Int.mul_ne_zero hD1 hD2)) ?_
  have e1 : D * (D1 * D2) * ((n1 * d2 + n2 * d1) * d) = ((n1 * D1) * D2 * d2 + (n2 * D2) * D1 * d1) * d * D := by grind
  have e2 : D * (D1 * D2) * (n * (d1 * d2)) = (n * D) * (D1 * D2) * (d1 * d2) := by grind
  rw [e1, e2, h1, h2, h]
  have e3 : (N1 * d1 * D2 * d2 + N2 * d2 * D1 * d1) * d * D = ((N1 * D2 + N2 * D1) * D) * (d * d1 * d2) := by grind
  rw [e3, ← hs]; grind
theorem mul_rel {N1 D1 N2 D2 N D n1 d1 n2 d2 n d : Int} (hD1 : D1 ≠ 0) (hD2 : D2 ≠ 0) (hD : D ≠ 0) (h1 : n1 * D1 = N1 * d1) (h2 : n2 * D2 = N2 * d2) (h : n * D = N * d) (hs : N * (D1 * D2) = (N1 * N2) * D) :
    (n1 * n2) * d = n * (d1 * d2) := by
  refine Int.eq_of_mul_eq_mul_left (Int.mul_ne_zero hD (Int.mul_ne_zero hD1 hD2)) ?_
  have e1 : D * (D1 * D2) * ((n1 * n2) * d) = (n1 * D1) * (n2 * D2) * d * D := by grind
  have e2 : D * (D1 * D2) * (n * (d1 * d2)) = (n * D) * (D1 * D2) * (d1 * d2) := by grind
  rw [e1, e2, h1, h2, h]
  have e3 : N1 * d1 * (N2 * d2) * d * D = ((N1 * N2) * D) * (d * d1 * d2) := by grind
  rw [e3, ← hs]; grind
theorem cmp_zero {N D n d : Int} (hD : D ≠ 0) (h : N * d = n * D) : (N / lgcd N D * d - n * (D / lgcd N D)).sign = 0 := by
  have h1 := Int.ediv_mul_cancel (lgcd_dv1 N D)
  have h2 := Int.ediv_mul_cancel (lgcd_dv2 N D)
  have hg : lgcd N D ≠ 0 := lgcd_ne hD
  generalize N / lgcd N D = a at *
  generalize D / lgcd N D = b at *
  generalize lgcd N D = g at *
  subst h1 h2
  have : a * d = n * b := Int.eq_of_mul_eq_mul_left hg (by grind)
  rw [this, Int.sub_self]; rfl
theorem dn_ne {y : Int} (h : y ≠ 0) (p : List Int) : dn p y ≠ 0 := int_pow_ne h _
theorem dn_pos {y : Int} (h : 0 < y) (p : List Int) : 0 < dn p y := Int.pow_pos h
theorem holds_sum {p q : List Int} {x y : Int} (hy : y ≠ 0) {n1 d1 n2 d2 n d : Int} (h1 : n1 = pev p x y / lgcd (pev p x y) (dn p y)) (k1 : d1 = dn p y / lgcd (pev p x y) (dn p y))
    (h2 : n2 = pev q x y / lgcd (pev q x y) (dn q y)) (k2 : d2 = dn q y / lgcd (pev q x y) (dn q y)) (h : n = pev (padd p q) x y / lgcd (pev (padd p q) x y) (dn (padd p q) y)) (k : d = dn (padd p q) y / lgcd (pev (padd p q) x y) (dn (padd p q) y)) :
    ((n1 * d2 + n2 * d1) / lgcd (n1 * d2 + n2 * d1) (d1 * d2) * d - n * (d1 * d2 / lgcd (n1 * d2 + n2 * d1) (d1 * d2))).sign = 0 := by
  subst h1 k1 h2 k2 h k
  exact cmp_zero (Int.mul_ne_zero (lgcd_den (dn_ne hy p)) (lgcd_den (dn_ne hy q))) (sum_rel (dn_ne hy p) (dn_ne hy q) (dn_ne hy _) (lgcd_rel _ _) (lgcd_rel _ _) (lgcd_rel _ _) (pev_add p q x hy))
theorem holds_mul {p q : List Int} (hp : Tr p) (hq : Tr q) {x y : Int} (hy : y ≠ 0) {n1 d1 n2 d2 n d : Int} (h1 : n1 = pev p x y / lgcd (pev p x y) (dn p y)) (k1 : d1 = dn p y / lgcd (pev p x y) (dn p y))
    (h2 : n2 = pev q x y / lgcd (pev q x y) (dn q y)) (k2 : d2 = dn q y / lgcd (pev q x y) (dn q y)) (h : n = pev (pmul p q) x y / lgcd (pev (pmul p q) x y) (dn (pmul p q) y)) (k : d = dn (pmul p q) y / lgcd (pev (pmul p q) x y) (dn (pmul p q) y)) :
    ((n1 * n2) / lgcd (n1 * n2) (d1 * d2) * d - n * (d1 * d2 / lgcd (n1 * n2) (d1 * d2))).sign = 0 := by
  subst h1 k1 h2 k2 h k
  exact cmp_zero (Int.mul_ne_zero (lgcd_den (dn_ne hy p)) (lgcd_den (dn_ne hy q))) (mul_rel (dn_ne hy p) (dn_ne hy q) (dn_ne hy _) (lgcd_rel _ _) (lgcd_rel _ _) (lgcd_rel _ _) (pev_mul hp hq x y))
/-! the quotient of a product -/
section
variable {p q : List Int}
theorem dsteps_mul (hp : Tr p) (hq : Tr q) (h1 : p ≠ []) (h2 : q ≠ []) : ∀ j, j ≤ p.length → ∀ t, cf (dsteps (pmul p q) q j) t = (ps (p.take (p.length - j)) * ps q).c t
  | 0, _, t => by
    rw [Nat.sub_zero, List.take_length]; exact cf_pmul p q t
  | j + 1, hj, t => by
    have ih := dsteps_mul hp hq h1 h2 j (by omega)
    have l1 := List.length_pos_iff.2 h1
    have l2 := List.length_pos_iff.2 h2
    have hl := length_pmul hp hq h1 h2
    have e0 : dsteps (pmul p q) q (j + 1) = dstep q (dsteps (pmul p q) q j) (p.length - 1 - j) := by
      show dstep q _ _ = _; rw [hl]; congr 1; omega
    have hq0 := hq.mem h2
    have htop : cf (dsteps (pmul p q) q j) (p.length - 1 - j + q.length - 1) = cf p (p.length - 1 - j) * cf q (q.length - 1) := by
      rw [ih, show p.length - 1 - j + q.length - 1 = (p.length - 1 - j) + (q.length - 1) by omega, conv_top (fun i hi => by rw [cf_take, if_neg (by omega)]) (fun i hi => cf_ge (by omega)), cf_take, if_pos (by omega)]
    have hdq : dq q (dsteps (pmul p q) q j) (p.length - 1 - j) = cf p (p.length - 1 - j) := by
      unfold dq; rw [htop]; exact Int.mul_ediv_cancel _ hq0
    have e1 : (ps (p.take (p.length - j)) * ps q).c t = (ps (p.take (p.length - (j + 1))) * ps q).c t + (ps (mono (p.length - 1 - j) (cf p (p.length - 1 - j))) * ps q).c t := by
      rw [PS.mul_c, PS.mul_c, PS.mul_c, ← sumTo_add]
      refine sumTo_congr fun k _ => ?_
      rw [ps_c, ps_c, ps_c, ps_c, cf_take, cf_take, cf_mono]
      by_cases a1 : k = p.length - 1 - j
      · rw [if_pos (by omega), if_neg (by omega), if_pos a1, ← a1]; omega
      · rw [if_neg a1]
        by_cases a2 : k < p.length - j
        · rw [if_pos a2, if_pos (by omega)]; omega
        · rw [if_neg a2, if_neg (by omega)]; omega
    rw [e0]
    unfold dstep
    rw [cf_mk, length_dsteps, hl, hdq, ih, e1, mono_mul, ps_c]
    by_cases b1 : t < p.length + q.length - 1
    · rw [if_pos b1]
      by_cases b2 : p.length - 1 - j ≤ t
      · rw [if_pos b2]
        by_cases b3 : t < p.length - 1 - j + q.length
        · rw [if_pos ⟨b2, b3⟩]; omega
        · rw [if_neg (by omega), cf_ge (p := q) (by omega)]; omega
      · rw [if_neg b2, if_neg (by omega)]; omega
    · rw [if_neg b1, PS.mul_c]
      refine (sumTo_z fun k _ => ?_).symm
      rw [ps_c, ps_c, cf_take]
      split
      · rw [cf_ge (p := q) (by omega), Int.mul_zero]
      · rw [Int.zero_mul]
theorem pdv_mul (hp : Tr p) (hq : Tr q) (h2 : q ≠ []) : pdv (pmul p q) q ∧ pquoz (pmul p q) q = p := by
  by_cases h1 : p = []
  · subst h1; rw [pmul_nil_l]; exact ⟨.inl rfl, rfl⟩
  have l1 := List.length_pos_iff.2 h1
  have l2 := List.length_pos_iff.2 h2
  have hl := length_pmul hp hq h1 h2
  have hq0 := hq.mem h2
  have hd : ∀ k, k ≤ p.length - 1 → cf (dsteps (pmul p q) q (p.length - 1 - k)) (k + q.length - 1) = cf p k * cf q (q.length - 1) := fun k hk => by
    rw [dsteps_mul hp hq h1 h2 _ (by omega), show k + q.length - 1 = k + (q.length - 1) by omega, conv_top (fun i hi => by rw [cf_take, if_neg (by omega)]) (fun i hi => cf_ge (by omega)), cf_take, if_pos (by omega)]
  have hn : (pmul p q).length - q.length = p.length - 1 := by omega
  have hne : pmul p q ≠ [] := List.length_pos_iff.1 (by omega)
  refine ⟨.inr ⟨by omega, fun k hk => ?_, ?_⟩, ?_⟩
  · unfold dexact; rw [hn] at hk ⊢; rw [hd k hk]; exact Int.mul_emod_left _ _
  · rw [hn, show p.length - 1 + 1 = p.length by omega]
    refine (tzl_nil_iff _).2 fun i => ?_
    rw [dsteps_mul hp hq h1 h2 _ (Nat.le_refl _), Nat.sub_self, List.take_zero]
    exact mul_zero_l (fun t => cf_ge (Nat.zero_le _)) _ _
  · rw [pquoz_eq hne]
    unfold pquo
    rw [hn, show p.length - 1 + 1 = p.length by omega, mk_congr (g := cf p) fun k hk => ?_, mk_self, tzl_tr hp]
    unfold dcoef dq
    rw [hn, hd k (by omega)]
    exact Int.mul_ediv_cancel _ hq0
end
/-! what the greatest common divisor divides -/
def Dv (g a : List Int) : Prop := ∃ (k : Int) (s : List Int), k ≠ 0 ∧ ∀ t, k * cf a t = (ps s * ps g).c t
theorem one_mulc (f : PS) (t : Nat) : (ps [1] * f).c t = f.c t := by
  rw [PS.mul_c, sumTo_only (k := 0) (by omega) fun i _ hne => by rw [ps_c, cf_ge (p := [1]) (by simp; omega), Int.zero_mul], ps_c, show cf [1] 0 = 1 from rfl, Int.one_mul, Nat.sub_zero]
theorem Dv.refl (a : List Int) : Dv a a := ⟨1, [1], by decide, fun t => by rw [one_mulc, Int.one_mul, ps_c]⟩
theorem Dv.nil (g : List Int) : Dv g [] := ⟨1, [], by decide, fun t => by rw [mul_zero_l (fun t => cf_ge (Nat.zero_le _)), cf_ge (Nat.zero_le _)]; rfl⟩
theorem Dv.sim {g a b : List Int} : Dv g a → Sim a b → Dv g b := fun ⟨k, s, hk, h⟩ ⟨m, n, hm, hn, e⟩ =>
  ⟨k * n, pscale s m, Int.mul_ne_zero hk hn, fun t => by
    rw [PS.mul_c, show (fun i => (ps (pscale s m)).c i * (ps g).c (t - i)) = fun i => m * ((ps s).c i * (ps g).c (t - i)) from funext fun i => by rw [ps_c, ps_c, ps_c, cf_pscale]; grind, sumTo_mul, ← PS.mul_c, ← h, Int.mul_assoc, ← e]; grind⟩
theorem Dv.lin {g a b c : List Int} (ha : Dv g a) (hb : Dv g b) (s : List Int) (L : Int) (hL : L ≠ 0) (h : ∀ t, L * cf c t = (ps s * ps a).c t + cf b t) : Dv g c := by
  obtain ⟨k, u, hk, h1⟩ := ha
  obtain ⟨m, v, hm, h2⟩ := hb
  refine ⟨L * (k * m), padd (pscale (pmul s u) m) (pscale v k), Int.mul_ne_zero hL (Int.mul_ne_zero hk hm), fun t => ?_⟩
  have e1 : ps g = ps g := rfl
  have e2 : k * (ps s * ps a).c t = (ps (pmul s u) * ps g).c t := by
    rw [ps_pmul, PS.mul_assoc', PS.mul_c, PS.mul_c, ← sumTo_mul]
    refine sumTo_congr fun i _ => ?_
    rw [← h1, ps_c, ps_c]; grind
  have e3 : (ps (padd (pscale (pmul s u) m) (pscale v k)) * ps g).c t = m * (ps (pmul s u) * ps g).c t + k * (ps v * ps g).c t := by
    rw [PS.mul_c, PS.mul_c, PS.mul_c, ← sumTo_mul, ← sumTo_mul, ← sumTo_add]
    refine sumTo_congr fun i _ => ?_
    rw [ps_c, ps_c, ps_c, ps_c, cf_padd, cf_pscale, cf_pscale]; grind
  have h0 := h t
  have h3 := h2 t
  rw [e3, ← e2, ← h3]
  generalize (ps s * ps a).c t = X at *
  generalize cf c t = C at *
  generalize cf b t = B at *
  have : L * (k * m) * C = k * m * (L * C) := by grind
  rw [this, h0]; grind
theorem eu_dv : ∀ (f : Nat) {a b : List Int}, Tr a → Tr b → eok f a b → Dv (eu f a b) a ∧ Dv (eu f a b) b
  | 0, a, b, ha, hb, h => by rw [show b = [] from h]; exact ⟨Dv.refl _, Dv.nil _⟩
  | f + 1, a, b, ha, hb, h => by
    by_cases h0 : b = []
    · subst h0; rw [eu_nil]; exact ⟨Dv.refl _, Dv.nil _⟩
    · rcases h with h | h
      · exact absurd h h0
      · have e : eu (f + 1) a b = eu f b (pprim (prest a b)) := by
          conv => lhs; unfold eu
          rw [if_neg h0]
        rw [e]
        have t1 := tr_prest (q := b) ha
        obtain ⟨d1, d2⟩ := eu_dv f hb (tr_pprim t1) h.2
        obtain ⟨k, s, hs⟩ := prest_id a h0
        exact ⟨d1.lin (d2.sim (sim_pprim t1)) s _ (int_pow_ne (hb.mem h0) k) hs, d1⟩
theorem Dv.of_sim {g g' a : List Int} : Dv g a → Sim g g' → Dv g' a := fun ⟨k, s, hk, h⟩ ⟨m, n, hm, hn, e⟩ =>
  ⟨m * k, pscale s n, Int.mul_ne_zero hm hk, fun t => by
    rw [Int.mul_assoc, h, PS.mul_c, PS.mul_c, ← sumTo_mul]
    refine sumTo_congr fun i _ => ?_
    rw [ps_c, ps_c, ps_c, ps_c, cf_pscale]
    have := e (t - i)
    grind⟩
theorem dv_rest {g a : List Int} (hg : Tr g) (h0 : g ≠ []) (ha : Tr a) (h : Dv g a) : prest a g = [] := by
  obtain ⟨k, s, hs⟩ := prest_id a h0
  obtain ⟨m, u, hm, hu⟩ := h
  have hl := length_prest_lt a h0
  generalize cf g (g.length - 1) ^ k = L at hs
  have key : ∀ t, (ps (psub (pscale u L) (pscale s m)) * ps g).c t = cf (pscale (prest a g) m) t := fun t => by
    rw [mul_lin2, cf_pscale, ← hu]
    have := hs t
    grind
  have z := mul_low hg h0 key fun t ht => by rw [cf_pscale, cf_ge (by omega), Int.zero_mul]
  have : ∀ t, cf (prest a g) t = 0 := fun t => by
    have h1 := key t
    rw [mul_zero_l z, cf_pscale] at h1
    rcases Int.mul_eq_zero.1 h1.symm with h2 | h2
    · exact h2
    · exact absurd h2 hm
  have h3 := (tzl_nil_iff _).2 this
  rwa [tzl_tr (tr_prest ha)] at h3
theorem Dv.zero {a : List Int} (ha : Tr a) (h : Dv [] a) : a = [] := by
  obtain ⟨k, s, hk, h⟩ := h
  rw [← tzl_tr ha, tzl_nil_iff]
  intro i
  have h1 := h i
  rw [PS.mul_comm', mul_zero_l (fun t => cf_ge (Nat.zero_le _))] at h1
  rcases Int.mul_eq_zero.1 h1 with h2 | h2
  · exact absurd h2 hk
  · exact h2
theorem pgcd_dv {F : Nat} {p q : List Int} (hp : Tr p) (hq : Tr q) (h : eok F (gA p q) (gB p q)) : Dv (pgcd F p q) p ∧ Dv (pgcd F p q) q := by
  have hA := tr_gA hp hq
  have hB := tr_gB hp hq
  obtain ⟨h1, h2⟩ := eu_dv F hA hB h
  have hs : Sim (eu F (gA p q) (gB p q)) (pgcd F p q) := (sim_gnorm _).symm
  have h1 := h1.of_sim hs
  have h2 := h2.of_sim hs
  by_cases hl : p.length < q.length
  · rw [show gA p q = pprim q from if_pos hl] at h1
    rw [show gB p q = pprim p from if_pos hl] at h2
    exact ⟨h2.sim (sim_pprim hp), h1.sim (sim_pprim hq)⟩
  · rw [show gA p q = pprim p from if_neg hl] at h1
    rw [show gB p q = pprim q from if_neg hl] at h2
    exact ⟨h1.sim (sim_pprim hp), h2.sim (sim_pprim hq)⟩
theorem tr_pgcd {F : Nat} {p q : List Int} (hp : Tr p) (hq : Tr q) : Tr (pgcd F p q) := tr_gnorm (eu_tr F (tr_gA hp hq) (tr_gB hp hq))
theorem pgcd_sim {F : Nat} {p p' q : List Int} (hp : Tr p) (hp' : Tr p') (hq : Tr q) (h : Sim p p') : pgcd F p q = pgcd F p' q := by
  rw [pgcd_nrm hp hq, pgcd_nrm hp' hq]
  have hl := h.len hp hp'
  have hs : Sim (pprim p) (pprim p') := (sim_pprim hp).trans (h.trans (sim_pprim hp').symm)
  refine nrm_sim (eu_tr _ (tr_gA hp hq) (tr_gB hp hq)) (eu_tr _ (tr_gA hp' hq) (tr_gB hp' hq)) (eu_sim F (tr_gA hp hq) (tr_gA hp' hq) (tr_gB hp hq) (tr_gB hp' hq) ?_ ?_)
  · unfold gA; rw [hl]; split
    · exact Sim.refl _
    · exact hs
  · unfold gB; rw [hl]; split
    · exact hs
    · exact Sim.refl _
theorem sim_pscale (p : List Int) {c : Int} (h : c ≠ 0) : Sim p (pscale p c) := ⟨c, 1, h, by decide, fun i => by rw [cf_pscale]; grind⟩
/-! how large it is -/
def fin8 (la A : Nat) : Bool := Nat.ble la 2 || Nat.ble (64 + (9 - la) * A) 65536
def chk2 : Nat → Nat → Nat → Nat → Nat → Bool
  | 0, la, _, A, _ => fin8 la A
  | f + 1, la, lb, A, B => bif Nat.beq lb 0 then fin8 la A else bif Nat.blt la lb then chk2 f lb la B A else
      (List.range lb).all fun l => chk2 f lb l B (bif Nat.ble l 1 then 2 else A + (la - lb + 1) * B)
theorem eu_chk : ∀ (f : Nat) {a b : List Int} {A B : Nat}, Tr a → Tr b → msz a + 1 ≤ A → msz b + 1 ≤ B → chk2 f a.length b.length A B = true → eok f a b → ∃ U, msz (eu f a b) + 1 ≤ U ∧ fin8 (eu f a b).length U = true
  | 0, a, b, A, B, _, _, h1, _, h, _ => ⟨A, h1, h⟩
  | f + 1, a, b, A, B, ha, hb, h1, h2, h, hk => by
    unfold chk2 at h
    by_cases h0 : b = []
    · subst h0
      rw [eu_nil]
      exact ⟨A, h1, h⟩
    · have hl : 0 < b.length := List.length_pos_iff.2 h0
      have hbe : Nat.beq b.length 0 = false := by
        cases hx : Nat.beq b.length 0
        · rfl
        · have := Nat.eq_of_beq_eq_true hx; omega
      rw [hbe, cond_false] at h
      have e : eu (f + 1) a b = eu f b (pprim (prest a b)) := by
        conv => lhs; unfold eu
        rw [if_neg h0]
      rw [e]
      rcases hk with hk | hk
      · exact absurd hk h0
      have t1 := tr_prest (q := b) ha
      cases hlt : Nat.blt a.length b.length with
      | true =>
        rw [hlt, cond_true] at h
        have hlt : a.length < b.length := by simpa using hlt
        have hk2 := hk.2
        rw [show prest a b = a from if_pos hlt] at hk2 ⊢
        exact eu_chk f hb (tr_pprim ha) h2 (Nat.le_trans (Nat.add_le_add_right msz_pprim 1) h1) (by rw [length_pprim]; exact h) hk2
      | false =>
        rw [hlt, cond_false] at h
        have hge : b.length ≤ a.length := by
          rcases Nat.lt_or_ge a.length b.length with h3 | h3
          · have : Nat.blt a.length b.length = true := by simpa using h3
            rw [hlt] at this; cases this
          · exact h3
        have h4 : (a.length - b.length + 1) * (msz b + 1) ≤ (a.length - b.length + 1) * B := Nat.mul_le_mul_left _ h2
        have h5 := length_prest_lt a h0
        have h6 := List.all_eq_true.1 h (prest a b).length (List.mem_range.2 h5)
        refine eu_chk f hb (tr_pprim t1) h2 ?_ (by rw [length_pprim]; exact h6) hk.2
        cases hb1 : Nat.ble (prest a b).length 1 with
        | true => exact Nat.succ_le_succ (msz_pprim1 t1 (Nat.le_of_ble_eq_true hb1))
        | false =>
          rw [cond_false]
          have := msz_prest (p := a) (q := b) hge
          have := msz_pprim (p := prest a b)
          omega
theorem chk8 : ((List.range 9).all fun a => (List.range 9).all fun b => chk 12 a b 67 67 && chk2 12 a b 65 65) = true := by decide +kernel
theorem eok8g {a b : List Int} (ha : Tr a) (hb : Tr b) (h1 : msz a ≤ 66) (h2 : msz b ≤ 66) (l1 : a.length ≤ 8) (l2 : b.length ≤ 8) : eok 12 (gA a b) (gB a b) := by
  have m1 := msz_pprim (p := a)
  have m2 := msz_pprim (p := b)
  have hx := List.all_eq_true.1 (List.all_eq_true.1 chk8 (gA a b).length (List.mem_range.2 (by unfold gA; split <;> rw [length_pprim] <;> omega))) (gB a b).length (List.mem_range.2 (by unfold gB; split <;> rw [length_pprim] <;> omega))
  rw [Bool.and_eq_true] at hx
  refine eok_chk 12 (tr_gA ha hb) (tr_gB ha hb) (A := 67) (B := 67) ?_ ?_ hx.1
  · unfold gA; split <;> omega
  · unfold gB; split <;> omega
theorem gfull8 {a b : List Int} (h1 : msz a ≤ 66) (h2 : msz b ≤ 66) (l1 : a.length ≤ 8) (l2 : b.length ≤ 8) : ¬ gfull a b := fun h => by
  have h3 : (max a.length b.length + 2) * (max a.length b.length + 2) * (max (msz a) (msz b) + 8) ≤ 10 * 10 * 74 := Nat.mul_le_mul (Nat.mul_le_mul (by omega) (by omega)) (by omega)
  have := h.2.2
  omega
theorem msz_gnorm (g : List Int) : msz (gnorm g) ≤ msz g := msz_le fun i => by
  rw [cf_gnorm]; split
  · rw [Int.natAbs_neg]; exact msz_sz g i
  · exact msz_sz g i
theorem length_gnorm {g : List Int} (h : Tr g) : (gnorm g).length = g.length := (sim_gnorm g).len (tr_gnorm h) h
theorem pow_dvd_of_coprime {c0 c1 s : Int} {K : Nat} (hc : Int.gcd c0 c1 = 1) (h : c1 ^ K ∣ s * c0) : c1 ^ K ∣ s := by
  have h1 := Int.natAbs_dvd_natAbs.2 h
  rw [Int.natAbs_mul, Int.natAbs_pow] at h1
  refine Int.natAbs_dvd_natAbs.1 ?_
  rw [Int.natAbs_pow]
  have hc' : Nat.Coprime (c1.natAbs ^ K) c0.natAbs := (Nat.Coprime.pow_left K (Nat.Coprime.symm hc))
  exact hc'.dvd_of_dvd_mul_right h1
theorem first_ne {f : Nat → Int} : ∀ n, f n ≠ 0 → ∃ m, f m ≠ 0 ∧ ∀ k, k < m → f k = 0 := by
  intro n
  induction n using Nat.strongRecOn with
  | _ n ih =>
    intro h
    by_cases hx : ∃ k, k < n ∧ f k ≠ 0
    · obtain ⟨k, hk, hf⟩ := hx; exact ih k hk hf
    · exact ⟨n, h, fun k hk => Classical.byContradiction fun hf => hx ⟨k, hk, hf⟩⟩
theorem bl_of_dvd {x y : Int} (h : x ∣ y) (hy : y ≠ 0) : bl x.natAbs ≤ bl y.natAbs := bl_mono (Nat.le_of_dvd (by omega) (Int.natAbs_dvd_natAbs.2 h))
/-- a divisor of degree 1 is no larger -/
theorem lin_sz {a : List Int} {c0 c1 : Int} {n : Nat} (hc : Int.gcd c0 c1 = 1) (h1 : c1 ≠ 0) (ha : Tr a) (h0 : a ≠ []) (hr : prest a [c0, c1] = []) (hs : Sz n a) : msz [c0, c1] ≤ n := by
  have hne : ([c0, c1] : List Int) ≠ [] := by simp
  obtain ⟨K, s, h⟩ := prest_id a hne
  rw [hr] at h
  replace h : ∀ t, c1 ^ K * cf a t = cf s t * c0 + if t = 0 then 0 else cf s (t - 1) * c1 := fun t => by
    have h2 := h t
    rw [mul_lin, cf_ge (p := []) (Nat.zero_le _), Int.add_zero] at h2
    exact h2
  have hk := int_pow_ne h1 K
  have hd : ∀ t, c1 ^ K ∣ cf s t := fun t => by
    induction t with
    | zero =>
      have h2 := h 0
      rw [if_pos rfl, Int.add_zero] at h2
      exact pow_dvd_of_coprime hc ⟨_, h2.symm⟩
    | succ t ih =>
      have h2 := h (t + 1)
      rw [if_neg (by omega), Nat.add_sub_cancel] at h2
      refine pow_dvd_of_coprime hc ?_
      obtain ⟨u, hu⟩ := ih
      exact ⟨cf a (t + 1) - u * c1, by rw [Int.mul_sub, h2, hu]; grind⟩
  have ha0 := ha.mem h0
  have hsne : ∃ t, cf s t ≠ 0 := Classical.byContradiction fun hx => by
    have hz : ∀ t, cf s t = 0 := fun t => Classical.byContradiction fun hy => hx ⟨t, hy⟩
    have h2 := h (a.length - 1)
    rw [hz, hz, Int.zero_mul, Int.zero_mul, Int.zero_add, ite_self] at h2
    rcases Int.mul_eq_zero.1 h2 with h2 | h2
    · exact hk h2
    · exact ha0 h2
  obtain ⟨t, ht⟩ := hsne
  -- the lowest coefficient
  obtain ⟨m, hm, hlow⟩ := first_ne t ht
  have b0 : bl c0.natAbs ≤ n := by
    by_cases hc0 : c0 = 0
    · rw [hc0]; exact Nat.zero_le _
    have h2 := h m
    have h3 : cf s m * c0 = c1 ^ K * cf a m := by
      rw [h2]; split
      · omega
      · rw [hlow (m - 1) (by omega)]; omega
    obtain ⟨u, hu⟩ := hd m
    rw [hu, Int.mul_assoc] at h3
    have h4 := Int.eq_of_mul_eq_mul_left hk h3
    have hu0 : u ≠ 0 := fun e => hm (by rw [hu, e, Int.mul_zero])
    exact Nat.le_trans (bl_of_dvd ⟨u, by rw [← h4, Int.mul_comm]⟩ (by rw [← h4]; exact Int.mul_ne_zero hu0 hc0)) (hs m)
  -- the highest coefficient
  have b1 : bl c1.natAbs ≤ n := by
    have htz : tzl s ≠ [] := fun e => ht ((tzl_nil_iff s).1 e t)
    have hl := (tr_tzl s).mem htz
    have hlp := List.length_pos_iff.2 htz
    rw [cf_tzl] at hl
    have h2 := h (tzl s).length
    have hz : cf s (tzl s).length = 0 := by rw [← cf_tzl]; exact cf_ge (Nat.le_refl _)
    rw [hz, Int.zero_mul, Int.zero_add, if_neg (by omega)] at h2
    obtain ⟨u, hu⟩ := hd ((tzl s).length - 1)
    rw [hu, Int.mul_assoc] at h2
    have h4 := Int.eq_of_mul_eq_mul_left hk h2
    have hu0 : u ≠ 0 := fun e => hl (by rw [hu, e, Int.mul_zero])
    exact Nat.le_trans (bl_of_dvd ⟨u, by rw [h4, Int.mul_comm]⟩ (by rw [h4]; exact Int.mul_ne_zero hu0 h1)) (hs _)
  show max (bl c0.natAbs) (max (bl c1.natAbs) 0) ≤ n
  omega
theorem pcont_gnorm (g : List Int) : pcont (gnorm g) = pcont g := by
  have d1 : pcont (gnorm g) ∣ pcont g := dvd_pcont fun i => by
    have h := pcont_dvd (gnorm g) i
    rw [cf_gnorm] at h
    split at h
    · exact Int.dvd_neg.1 h
    · exact h
  have d2 : pcont g ∣ pcont (gnorm g) := dvd_pcont fun i => by
    rw [cf_gnorm]; split
    · exact Int.dvd_neg.2 (pcont_dvd g i)
    · exact pcont_dvd g i
  exact Int.dvd_antisymm (pcont_nonneg _) (pcont_nonneg _) d1 d2
theorem pcont_pgcd {F : Nat} {p q : List Int} (hp : Tr p) (hq : Tr q) (h0 : pgcd F p q ≠ []) : pcont (pgcd F p q) = 1 := by
  rw [pgcd_nrm hp hq] at h0 ⊢
  unfold nrm at h0 ⊢
  rw [pcont_gnorm]
  refine pcont_pprim (eu_tr F (tr_gA hp hq) (tr_gB hp hq)) fun e => h0 ?_
  rw [e]; rfl
theorem msz1_of_prim {c : List Int} (hc : Tr c) (h1 : pcont c = 1) (hl : c.length ≤ 1) : msz c ≤ 1 := by
  have := msz_pprim1 hc hl
  rwa [pprim_of_one h1] at this
/-- the divisor fits into a division -/
theorem derr8 {a b p : List Int} (ha : Tr a) (hb : Tr b) (h1 : msz a ≤ 64) (h2 : msz b ≤ 64) (l1 : a.length ≤ 8) (l2 : b.length ≤ 8) (hp : Tr p) (hpm : Sz 64 p) (hpl : p.length ≤ 8) (h0 : pgcd 12 a b ≠ []) (hd : Dv (pgcd 12 a b) p) :
    derr p (pgcd 12 a b) = 0 := by
  have hc := tr_pgcd (F := 12) ha hb
  have hlp := List.length_pos_iff.2 h0
  have hpz := msz_le hpm
  unfold derr
  rw [if_neg (by omega)]
  split
  · rfl
  rename_i hge
  rw [if_neg]
  by_cases hl1 : (pgcd 12 a b).length ≤ 1
  · have h3 := msz1_of_prim hc (pcont_pgcd ha hb h0) hl1
    have : (p.length - (pgcd 12 a b).length + 1) * (msz (pgcd 12 a b) + 1) ≤ 9 * 2 := Nat.mul_le_mul (by omega) (by omega)
    omega
  by_cases hl2 : (pgcd 12 a b).length ≤ 2
  · have hp0 : p ≠ [] := List.length_pos_iff.1 (by omega)
    have hcont := pcont_pgcd ha hb h0
    have hr := dv_rest hc h0 hp hd
    have hm : msz (pgcd 12 a b) ≤ 64 := by
      generalize pgcd 12 a b = c at *
      match c, hl1, hl2 with
      | [c0, c1], _, _ =>
        refine lin_sz ?_ (hc.mem (by simp)) hp hp0 hr hpm
        have h5 : ((Int.gcd ((Int.gcd 0 c0 : Nat) : Int) c1 : Nat) : Int) = 1 := hcont
        rw [Int.gcd_zero_left] at h5
        unfold Int.gcd at h5 ⊢
        rw [Int.natAbs_natCast] at h5
        omega
    have : (p.length - (pgcd 12 a b).length + 1) * (msz (pgcd 12 a b) + 1) ≤ 9 * 65 := Nat.mul_le_mul (by omega) (by omega)
    omega
  · have m1 := msz_pprim (p := a)
    have m2 := msz_pprim (p := b)
    have hx := List.all_eq_true.1 (List.all_eq_true.1 chk8 (gA a b).length (List.mem_range.2 (by unfold gA; split <;> rw [length_pprim] <;> omega))) (gB a b).length (List.mem_range.2 (by unfold gB; split <;> rw [length_pprim] <;> omega))
    rw [Bool.and_eq_true] at hx
    obtain ⟨U, hU, hf⟩ := eu_chk 12 (tr_gA ha hb) (tr_gB ha hb) (A := 65) (B := 65) (by unfold gA; split <;> omega) (by unfold gB; split <;> omega) hx.2 (eok8g ha hb (by omega) (by omega) l1 l2)
    have hlen : (pgcd 12 a b).length = (eu 12 (gA a b) (gB a b)).length := length_gnorm (eu_tr _ (tr_gA ha hb) (tr_gB ha hb))
    have hms : msz (pgcd 12 a b) ≤ msz (eu 12 (gA a b) (gB a b)) := msz_gnorm _
    unfold fin8 at hf
    rw [Bool.or_eq_true] at hf
    rcases hf with hf | hf
    · have := Nat.le_of_ble_eq_true hf; omega
    · have h5 := Nat.le_of_ble_eq_true hf
      rw [← hlen] at h5
      have : (p.length - (pgcd 12 a b).length + 1) * (msz (pgcd 12 a b) + 1) ≤ (9 - (pgcd 12 a b).length) * U := Nat.mul_le_mul (by omega) (by omega)
      omega
end Go.Sky
namespace Go.Sky
open Go.Proofs
set_option linter.unusedVariables false
theorem not_rfull {p : List Int} {x y : Int} (hE : ¬ evfull p x y) (hv : Vp p) : ¬ rfull (pev p x y) (y ^ (p.length - 1)) := fun h => by
  have h1 := ediv_bl_le (lgcd_dv1 (pev p x y) (y ^ (p.length - 1))) (ev_pb hE hv)
  have h2 := ediv_bl_le (lgcd_dv2 (pev p x y) (y ^ (p.length - 1))) (ev_yb hE)
  rcases h with h | h <;> omega
theorem rnum_ok {p : List Int} {x y : Int} (hE : ¬ evfull p x y) (hv : Vp p) : rnum (pev p x y) (y ^ (p.length - 1)) = pev p x y / lgcd (pev p x y) (dn p y) := if_neg (not_rfull hE hv)
theorem rden_ok {p : List Int} {x y : Int} (hE : ¬ evfull p x y) (hv : Vp p) : rden (pev p x y) (y ^ (p.length - 1)) = dn p y / lgcd (pev p x y) (dn p y) := if_neg (not_rfull hE hv)
theorem rerr_ok {p : List Int} {x y : Int} (hE : ¬ evfull p x y) (hv : Vp p) : rerr (pev p x y) (y ^ (p.length - 1)) = 0 := if_neg (not_rfull hE hv)
theorem rnum_b {p : List Int} {x y : Int} (hE : ¬ evfull p x y) (hv : Vp p) : bl (rnum (pev p x y) (y ^ (p.length - 1))).natAbs ≤ 65536 := by
  rw [rnum_ok hE hv]; exact ediv_bl_le (lgcd_dv1 (pev p x y) (y ^ (p.length - 1))) (ev_pb hE hv)
theorem rden_b {p : List Int} {x y : Int} (hE : ¬ evfull p x y) (hv : Vp p) : bl (rden (pev p x y) (y ^ (p.length - 1))).natAbs ≤ 65536 := by
  rw [rden_ok hE hv]; exact ediv_bl_le (lgcd_dv2 (pev p x y) (y ^ (p.length - 1))) (ev_yb hE)
theorem rden_p {p : List Int} {x y : Int} (hE : ¬ evfull p x y) (hv : Vp p) (hy : 0 < y) : 0 < rden (pev p x y) (y ^ (p.length - 1)) := by
  rw [rden_ok hE hv]; exact lgcd_denp (dn_pos hy p)
theorem okR_val {p : List Int} {x y : Int} (hE : ¬ evfull p x y) (hv : Vp p) (hy : 0 < y) : okR (decide (rnum (pev p x y) (y ^ (p.length - 1)) < 0)) (bstr (rnum (pev p x y) (y ^ (p.length - 1))).natAbs) (decide (rden (pev p x y) (y ^ (p.length - 1)) < 0)) (bstr (rden (pev p x y) (y ^ (p.length - 1))).natAbs) = true :=
  okR_wv (rnum_b hE hv) (rden_b hE hv) (rden_p hE hv hy)
theorem vp_padd {p q : List Int} (hp : Sz 64 p) (hq : Sz 64 q) (l1 : p.length ≤ 8) (l2 : q.length ≤ 8) : Vp (padd p q) ∧ Sz 65 (padd p q) :=
  ⟨⟨(sz_padd hp hq).mono (by omega), tr_padd _ _, by have := padd_len p q; omega⟩, sz_padd hp hq⟩
theorem vp_pmul {p q : List Int} (hp : Sz 64 p) (hq : Sz 64 q) (l1 : p.length ≤ 8) (l2 : q.length ≤ 8) : Vp (pmul p q) ∧ Sz 133 (pmul p q) := by
  have h := sz_pmul hp hq (by omega)
  exact ⟨⟨h.mono (by omega), tr_pmul _ _, by have := pmul_len p q; omega⟩, h⟩
theorem not_mulfull {p q : List Int} (hp : msz p ≤ 64) (hq : msz q ≤ 64) (l1 : p.length ≤ 8) (l2 : q.length ≤ 8) : ¬ mulfull p q := fun h => by
  have := h.2.2; omega
theorem derr_mul {p q : List Int} (hp : Sz 64 p) (hq : Sz 64 q) (l1 : p.length ≤ 8) (l2 : q.length ≤ 8) (h0 : q.length ≠ 0) : derr (pmul p q) q = 0 := by
  unfold derr
  rw [if_neg h0]
  split
  · rfl
  · have h1 := msz_le (vp_pmul hp hq l1 l2).2
    have h2 := msz_le hq
    have h3 := pmul_len p q
    have : ((pmul p q).length - q.length + 1) * (msz q + 1) ≤ 17 * 65 := Nat.mul_le_mul (by omega) (by omega)
    rw [if_neg (by omega)]
theorem mulfull_comm {p q : List Int} (h : ¬ mulfull p q) : ¬ mulfull q p := fun ⟨a, b, c⟩ => h ⟨b, a, by omega⟩
theorem sz_twice {p : List Int} (hp : Sz 64 p) (l1 : p.length ≤ 8) : Vp (pscale p (-2)) ∧ msz (pscale p (-2)) ≤ 66 ∧ (pscale p (-2)).length ≤ 8 := by
  have h := sz_pscale (c := -2) (m := 2) hp (by decide)
  have hl := pscale_len p (-2)
  exact ⟨⟨h.mono (by omega), tr_pscale _ _, by omega⟩, msz_le h, by omega⟩
theorem addq_n {a b c d : Int} (h1 : bl a.natAbs ≤ 65536) (h2 : bl b.natAbs ≤ 65536) (h3 : bl c.natAbs ≤ 65536) (h4 : bl d.natAbs ≤ 65536) (g : Int) (hg : g ∣ a * d + c * b) : bl ((a * d + c * b) / g).natAbs ≤ 100000000 :=
  ediv_bl_le hg (by have := bl_iadd (a * d) (c * b); have := bl_imul a d; have := bl_imul c b; omega)
theorem mulq_n {a c : Int} (h1 : bl a.natAbs ≤ 65536) (h3 : bl c.natAbs ≤ 65536) (g : Int) (hg : g ∣ a * c) : bl ((a * c) / g).natAbs ≤ 100000000 :=
  ediv_bl_le hg (by have := bl_imul a c; omega)
end Go.Sky

