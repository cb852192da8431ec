/- the law
   Proved without conditions of its own: each theorem bears its own. -/
import Derived.Test.YtjkhdpcmkcjjcaaC
import Derived.Test.YtjkhdpcmkcjjcaaD
import Derived.Test.YtjkhdpcmkcjjcaaB
import Derived.Test.YtjkhdpcmkcjjcaaG
import Derived.Test.YtjkhdpcmkcjjcaaK
set_option linter.all false
namespace Go.Sky
set_option linter.unusedVariables false
/-- the error of some results -/
def oe (f : Nat → Int) : Nat → Int
  | 0 => 0
  | k + 1 => err (oe f k) (f k)
theorem oe_succ (f : Nat → Int) (k : Nat) : oe f (k + 1) = err (oe f k) (f k) := rfl
theorem full_or (x : Int) : full x = 0 ∨ full x = 7 := by unfold full; split <;> simp
theorem oe_or (f : Nat → Int) : ∀ k, oe f k = 0 ∨ oe f k = 7
  | 0 => .inl rfl
  | k + 1 => by
    rw [oe_succ]; unfold err
    split
    · exact full_or _
    · exact oe_or f k
theorem oe_ne {f : Nat → Int} : ∀ {n : Nat}, oe f n = 0 → ∀ i, i < n → bl (f i).natAbs ≤ 65536
  | 0, _, i, hi => absurd hi (Nat.not_lt_zero i)
  | n + 1, h, i, hi => by
    rw [oe_succ] at h
    unfold err at h
    split at h
    · rename_i h0
      rcases Nat.lt_or_ge i n with h1 | h1
      · exact oe_ne h0 i h1
      · obtain rfl : i = n := by omega
        unfold full at h
        split at h
        · cases h
        · omega
    · rename_i h0; exact absurd h h0
theorem oe_full {f : Nat → Int} {n i : Nat} (hi : i < n) (h : 65536 < bl (f i).natAbs) : oe f n = 7 := by
  rcases oe_or f n with h1 | h1
  · have := oe_ne h1 i hi; omega
  · exact h1
end Go.Sky
/- The greatest common divisor, up to a factor. -/
namespace Go.Sky
set_option linter.unusedVariables false
theorem sumTo_only {f : Nat → Int} {k : Nat} : ∀ {n : Nat}, k < n → (∀ i, i < n → i ≠ k → f i = 0) → sumTo f n = f k
  | 0, hk, _ => absurd hk (Nat.not_lt_zero _)
  | n + 1, hk, h => by
    rw [sumTo_succ]
    by_cases e : k = n
    · subst e
      rw [sumTo_z fun i hi => h i (by omega) (by omega), Int.zero_add]
    · rw [h n (by omega) (fun x => e x.symm), sumTo_only (by omega) (fun i hi => h i (by omega)), Int.add_zero]
theorem conv_top {p q : List Int} {a b : Nat} (ha : ∀ i, a < i → cf p i = 0) (hb : ∀ i, b < i → cf q i = 0) : (ps p * ps q).c (a + b) = cf p a * cf q b := by
  rw [PS.mul_c, sumTo_only (k := a) (by omega) fun i hi hne => ?_]
  · rw [ps_c, ps_c, show a + b - a = b by omega]
  · rw [ps_c, ps_c]
    rcases Nat.lt_or_ge a i with h | h
    · rw [ha i h, Int.zero_mul]
    · rw [hb (a + b - i) (by omega), Int.mul_zero]
theorem mul_lin2 (s s' : List Int) (c c' : Int) (f : PS) (t : Nat) : (ps (psub (pscale s c) (pscale s' c')) * f).c t = c * (ps s * f).c t - c' * (ps s' * f).c t := by
  rw [PS.mul_c, PS.mul_c, PS.mul_c, ← sumTo_mul, Int.sub_eq_add_neg, ← Int.neg_mul, ← sumTo_mul, ← sumTo_add]
  refine sumTo_congr fun k _ => ?_
  rw [ps_c, ps_c, ps_c, cf_psub, cf_pscale, cf_pscale]
  grind
/-- a multiple of q of lower degree is zero -/
theorem mul_low {q s r : List Int} (hq : Tr q) (hq0 : q ≠ []) (h : ∀ t, (ps s * ps q).c t = cf r t) (hr : ∀ t, q.length - 1 ≤ t → cf r t = 0) : ∀ t, cf s t = 0 := by
  have hlead := hq.mem hq0
  have hlen : 0 < q.length := List.length_pos_iff.2 hq0
  have hs : tzl s = [] := by
    rcases snoc_or (tzl s) with h1 | ⟨ys, y, h1⟩
    · exact h1
    · exfalso
      have ht := tr_tzl s
      have hne : tzl s ≠ [] := by rw [h1]; simp
      have h2 := ht.mem hne
      have h3 := conv_top (p := tzl s) (q := q) (a := (tzl s).length - 1) (b := q.length - 1) (fun i hi => cf_ge (by omega)) (fun i hi => cf_ge (by omega))
      have h4 : ps (tzl s) = ps s := PS.ext' fun i => cf_tzl s i
      rw [h4, h, hr _ (by omega)] at h3
      rcases Int.mul_eq_zero.1 h3.symm with h5 | h5
      · exact h2 h5
      · exact hlead h5
  exact (tzl_nil_iff s).1 hs
theorem mul_zero_l {s : List Int} (h : ∀ t, cf s t = 0) (f : PS) (t : Nat) : (ps s * f).c t = 0 := by
  rw [PS.mul_c]
  exact sumTo_z fun k _ => by rw [ps_c, h, Int.zero_mul]
theorem length_pmul {p q : List Int} (hp : Tr p) (hq : Tr q) (h1 : p ≠ []) (h2 : q ≠ []) : (pmul p q).length = p.length + q.length - 1 := by
  have l1 := List.length_pos_iff.2 h1
  have l2 := List.length_pos_iff.2 h2
  unfold pmul
  rw [tzl_tr, length_mk]
  right
  rw [length_mk, cf_mk, if_pos (by omega), show p.length + q.length - 1 - 1 = (p.length - 1) + (q.length - 1) by omega, conv_top (fun i hi => cf_ge (by omega)) (fun i hi => cf_ge (by omega))]
  exact Int.mul_ne_zero (hp.mem h1) (hq.mem h2)
/-! the rest -/
def mono (s : Nat) (c : Int) : List Int := List.replicate s 0 ++ [c]
theorem cf_mono (s : Nat) (c : Int) (i : Nat) : cf (mono s c) i = if i = s then c else 0 := by
  unfold mono
  rw [cf_append, List.length_replicate]
  split
  · rw [if_neg (by omega)]
    unfold cf
    simp [List.getD_eq_getElem?_getD, List.getElem?_replicate]
    split <;> rfl
  · rename_i h
    split
    · rename_i h2; subst h2; simp [cf]
    · exact cf_ge (by simp; omega)
theorem mono_mul (s : Nat) (c : Int) (f : PS) (t : Nat) : (ps (mono s c) * f).c t = if s ≤ t then c * f.c (t - s) else 0 := by
  rw [PS.mul_c]
  split
  · rw [sumTo_only (k := s) (by omega) fun i _ hne => by rw [ps_c, cf_mono, if_neg hne, Int.zero_mul], ps_c, cf_mono, if_pos rfl]
  · exact sumTo_z fun k hk => by rw [ps_c, cf_mono, if_neg (by omega), Int.zero_mul]
theorem rsteps_id {p q : List Int} (hq : 0 < q.length) (hl : q.length ≤ p.length) : ∀ j, j ≤ p.length - q.length + 1 → ∃ s : List Int, ∀ t, cf q (q.length - 1) ^ j * cf p t = (ps s * ps q).c t + cf (rsteps p q j) t
  | 0, _ => ⟨[], fun t => by rw [mul_zero_l (fun t => cf_ge (Nat.zero_le _)), Int.pow_zero]; unfold rsteps; omega⟩
  | j + 1, hj => by
    obtain ⟨s, ih⟩ := rsteps_id hq hl j (by omega)
    refine ⟨psub (pscale s (cf q (q.length - 1))) (pscale (mono (p.length - 1 - j - (q.length - 1)) (cf (rsteps p q j) (p.length - 1 - j))) (-1)), fun t => ?_⟩
    rw [mul_lin2, mono_mul]
    have h0 := ih t
    show _ = _ + cf (rstep q (rsteps p q j) (p.length - 1 - j)) t
    rw [Int.pow_succ]
    rcases Nat.lt_or_ge t p.length with h | h
    · rw [cf_rstep (by rw [length_rsteps]; exact h)]
      generalize p.length - 1 - j - (q.length - 1) = sh
      generalize cf (rsteps p q j) (p.length - 1 - j) = R
      generalize cf (rsteps p q j) t = R' at h0 ⊢
      generalize (ps s * ps q).c t = X at h0 ⊢
      generalize cf q (q.length - 1) ^ j = L at h0 ⊢
      generalize cf q (q.length - 1) = l at h0 ⊢
      have e : L * l * cf p t = l * X + R' * l := by rw [Int.mul_assoc, Int.mul_comm l, ← Int.mul_assoc, h0]; grind
      rw [e]
      by_cases h1 : sh ≤ t
      · rw [if_pos h1, ps_c]
        by_cases h2 : t < sh + q.length
        · rw [if_pos ⟨h1, h2⟩]; omega
        · rw [if_neg (by omega), cf_ge (p := q) (i := t - _) (by omega)]; omega
      · rw [if_neg h1, if_neg (by omega)]; omega
    · have z1 : cf p t = 0 := cf_ge h
      have z2 : cf (rsteps p q j) t = 0 := cf_ge (by rw [length_rsteps]; exact h)
      have z3 : cf (rstep q (rsteps p q j) (p.length - 1 - j)) t = 0 := cf_ge (by rw [length_rstep, length_rsteps]; exact h)
      have z4 : cf q (t - (p.length - 1 - j - (q.length - 1))) = 0 := cf_ge (by omega)
      rw [z1, z2, Int.mul_zero, Int.add_zero] at h0
      rw [z1, z3, if_pos (by omega), ps_c, z4, ← h0]; simp
theorem prest_id (p : List Int) {q : List Int} (hq : q ≠ []) : ∃ (k : Nat) (s : List Int), ∀ t, cf q (q.length - 1) ^ k * cf p t = (ps s * ps q).c t + cf (prest p q) t := by
  have hq' : 0 < q.length := List.length_pos_iff.2 hq
  rcases Nat.lt_or_ge p.length q.length with h | h
  · refine ⟨0, [], fun t => ?_⟩
    rw [mul_zero_l (fun t => cf_ge (Nat.zero_le _)), Int.pow_zero]
    unfold prest; rw [if_pos h]; omega
  · obtain ⟨s, hs⟩ := rsteps_id hq' h _ (Nat.le_refl _)
    refine ⟨p.length - q.length + 1, s, fun t => ?_⟩
    rw [hs t]
    unfold prest
    rw [if_neg (by omega), cf_tzl]
theorem length_prest_lt (p : List Int) {q : List Int} (hq : q ≠ []) : (prest p q).length < q.length := by
  have hq' : 0 < q.length := List.length_pos_iff.2 hq
  unfold prest
  split
  · assumption
  · have := tzl_len_le (p := rsteps p q (p.length - q.length + 1)) (n := q.length - 1) fun i hi => rsteps_top hq' (by omega) _ (Nat.le_refl _) i (by omega)
    omega
theorem tr_prest {p q : List Int} (hp : Tr p) : Tr (prest p q) := by
  unfold prest; split
  · exact hp
  · exact tr_tzl _
/-! the same but for a factor -/
def Sim (a b : List Int) : Prop := ∃ m n : Int, m ≠ 0 ∧ n ≠ 0 ∧ ∀ i, m * cf a i = n * cf b i
theorem Sim.refl (a : List Int) : Sim a a := ⟨1, 1, by decide, by decide, fun _ => rfl⟩
theorem Sim.symm {a b : List Int} : Sim a b → Sim b a := fun ⟨m, n, hm, hn, h⟩ => ⟨n, m, hn, hm, fun i => (h i).symm⟩
theorem Sim.trans {a b c : List Int} : Sim a b → Sim b c → Sim a c := fun ⟨m, n, hm, hn, h⟩ ⟨u, v, hu, hv, k⟩ =>
  ⟨m * u, n * v, Int.mul_ne_zero hm hu, Int.mul_ne_zero hn hv, fun i => by have h1 := h i; have h2 := k i; grind⟩
theorem Sim.zero {a b : List Int} (h : Sim a b) {i : Nat} (hi : cf a i = 0) : cf b i = 0 := by
  obtain ⟨m, n, hm, hn, h⟩ := h
  have := h i
  rw [hi, Int.mul_zero] at this
  rcases Int.mul_eq_zero.1 this.symm with h | h
  · exact absurd h hn
  · exact h
theorem Sim.len_le {a b : List Int} (h : Sim a b) (hb : Tr b) : b.length ≤ a.length := by
  rcases Nat.lt_or_ge a.length b.length with hl | hl
  · exfalso
    have hne : b ≠ [] := List.length_pos_iff.1 (by omega)
    exact hb.mem hne (h.zero (cf_ge (by omega)))
  · exact hl
theorem Sim.len {a b : List Int} (h : Sim a b) (ha : Tr a) (hb : Tr b) : a.length = b.length := Nat.le_antisymm (h.symm.len_le ha) (h.len_le hb)
theorem Sim.nil {a b : List Int} (h : Sim a b) (hb : Tr b) (ha : a = []) : b = [] := by
  have := h.len_le hb
  rw [ha] at this
  exact List.eq_nil_of_length_eq_zero (by simpa using this)
/-! contents -/
/-- primitive, with a positive leading coefficient -/
def nrm (p : List Int) : List Int := gnorm (pprim p)
/-! Euclid's chain -/
/-! sizes of Euclid's chain -/
def chk : Nat → Nat → Nat → Nat → Nat → Bool
  | 0, _, lb, _, _ => Nat.beq lb 0
  | f + 1, la, lb, A, B => Nat.beq lb 0 || (bif Nat.blt la lb then chk f lb la B A else
      Nat.ble (A + (la - lb + 1) * B) 65537 && (List.range lb).all fun l => chk f lb l B (bif Nat.ble l 1 then 2 else A + (la - lb + 1) * B))
end Go.Sky
namespace Go.Sky
set_option linter.unusedVariables false
/-- one power of x, times a power of 2 -/
def mon (d n : Nat) : List Int := mono d ((2 : Int) ^ n)
theorem length_mono (d : Nat) (c : Int) : (mono d c).length = d + 1 := by simp [mono]
theorem cf_mon (d n i : Nat) : cf (mon d n) i = if i = d then (2 : Int) ^ n else 0 := cf_mono _ _ _
theorem bl_pow2 (n : Nat) : bl ((2 : Int) ^ n).natAbs = n + 1 := by
  rw [Int.natAbs_pow]
  refine Nat.le_antisymm ((bl_le (n + 1) _).2 (Nat.pow_lt_pow_right (by decide) (Nat.lt_succ_self n))) ?_
  rcases Nat.lt_or_ge n (bl (Int.natAbs 2 ^ n)) with h | h
  · exact h
  · have := (bl_le n _).1 h
    exact absurd this (Nat.lt_irrefl _)
theorem pow2_pos (n : Nat) : (0 : Int) < 2 ^ n := Int.pow_pos (by decide)
theorem tr_mon (d n : Nat) : Tr (mon d n) := by
  right
  have := pow2_pos n
  rw [show (mon d n).length = d + 1 from length_mono _ _, cf_mon, if_pos (by omega)]; omega
theorem sz_mon (d n : Nat) : Sz (n + 1) (mon d n) := fun i => by
  rw [cf_mon]; split
  · rw [bl_pow2]; exact Nat.le_refl _
  · exact Nat.zero_le _
theorem msz_mon (d n : Nat) : msz (mon d n) = n + 1 := by
  refine Nat.le_antisymm (msz_le (sz_mon d n)) ?_
  have h := msz_sz (mon d n) d
  rw [cf_mon, if_pos rfl, bl_pow2] at h
  exact h
theorem mon_ne (d n : Nat) : mon d n ≠ [] := by unfold mon mono; simp
theorem length_mon (d n : Nat) : (mon d n).length = d + 1 := length_mono _ _
theorem vp_mon {d n : Nat} (hd : d ≤ 24) (hn : n ≤ 65535) : Vp (mon d n) := ⟨(sz_mon d n).mono (by omega), tr_mon d n, by rw [length_mon]; omega⟩
theorem rep_set (d : Nat) (c : Int) : (List.replicate (d + 1) (0 : Int)).set d c = mono d c := by
  refine list_ext (by rw [length_mono]; simp) fun i _ => ?_
  rw [cf_mono, cf_set _ _ _ _ (by simp)]
  split
  · rfl
  · unfold cf; simp [List.getD, List.getElem?_replicate]; split <;> rfl
/-! the calls -/
theorem mulfull_mon (d n e m : Nat) : mulfull (mon d n) (mon e m) ↔ (24 < d + e ∨ 65536 < (n + 1) + (m + 1) + 5) := by
  unfold mulfull
  rw [msz_mon, msz_mon, length_mon, length_mon]
  constructor
  · rintro ⟨_, _, h⟩; omega
  · intro h; exact ⟨mon_ne _ _, mon_ne _ _, by omega⟩
theorem len_mul_mon (d n e m : Nat) : (pmul (mon d n) (mon e m)).length = d + e + 1 := by
  rw [length_pmul (tr_mon _ _) (tr_mon _ _) (mon_ne _ _) (mon_ne _ _), length_mon, length_mon]; omega
theorem pow2_two (n : Nat) : (2 : Int) ^ n + 2 ^ n = 2 ^ (n + 1) := by rw [Int.pow_succ]; omega
theorem add_mon (d n i : Nat) : cf (mon d n) i + cf (mon d n) i = cf (mon d (n + 1)) i := by
  rw [cf_mon, cf_mon]; split
  · exact pow2_two n
  · rfl
theorem padd_mon (d n : Nat) : padd (mon d n) (mon d n) = mon d (n + 1) := (tr_padd _ _).ext (tr_mon _ _) fun i => by rw [cf_padd, add_mon]
theorem evfull_mon (d n m : Nat) : evfull (mon d n) (2 ^ m) 1 ↔ 65536 < (n + 1) + d * (m + 1) + 8 := by
  unfold evfull
  have : msz [(2 : Int) ^ m, 1] = m + 1 := by
    show max (bl ((2 : Int) ^ m).natAbs) (max (bl 1) 0) = _
    rw [bl_pow2, bl_one]; omega
  rw [msz_mon, length_mon, this, Nat.add_sub_cancel]
  exact ⟨fun h => h.2, fun h => ⟨mon_ne _ _, h⟩⟩
theorem cpfull_mon (d n m : Nat) : cpfull (mon d n) (2 ^ m) (2 ^ 0) (2 ^ 0) ↔ 65536 < (n + 1) + d * (m + 1 + 1) + 8 := by
  unfold cpfull
  have : msz [(2 : Int) ^ m, 2 ^ 0, 2 ^ 0] = m + 1 := by
    show max (bl ((2 : Int) ^ m).natAbs) (max (bl ((2 : Int) ^ 0).natAbs) (max (bl ((2 : Int) ^ 0).natAbs) 0)) = _
    rw [bl_pow2, bl_pow2]; omega
  rw [msz_mon, length_mon, this, Nat.add_sub_cancel]
  exact ⟨fun h => h.2, fun h => ⟨mon_ne _ _, h⟩⟩
theorem gfull_mon (d n e m : Nat) : gfull (mon d n) (mon e m) ↔ 65536 < (max d e + 3) * (max d e + 3) * (max (n + 1) (m + 1) + 8) := by
  unfold gfull
  rw [msz_mon, msz_mon, length_mon, length_mon, show max (d + 1) (e + 1) + 2 = max d e + 3 by omega]
  exact ⟨fun h => h.2.2, fun h => ⟨by omega, by omega, h⟩⟩
theorem derr_mon (d n e m : Nat) : derr (mon d n) (mon e m) = if e ≤ d ∧ 65536 < (n + 1) + (d - e + 1) * (m + 1 + 1) then 7 else 0 := by
  unfold derr
  rw [msz_mon, msz_mon, length_mon, length_mon, if_neg (by omega), show d + 1 - (e + 1) = d - e by omega]
  by_cases h : d < e
  · rw [if_pos (by omega), if_neg (by omega)]
  · rw [if_neg (by omega)]
    by_cases h2 : 65536 < (n + 1) + (d - e + 1) * (m + 1 + 1)
    · rw [if_pos h2, if_pos ⟨by omega, h2⟩]
    · rw [if_neg h2, if_neg (by omega)]
theorem pcont_mon (d n : Nat) : pcont (mon d n) = 2 ^ n := by
  have h := pcont_dvd (mon d n) d
  rw [cf_mon, if_pos rfl] at h
  have h2 : (2 : Int) ^ n ∣ pcont (mon d n) := dvd_pcont fun i => by
    rw [cf_mon]; split
    · exact Int.dvd_refl _
    · exact Int.dvd_zero _
  exact Int.dvd_antisymm (pcont_nonneg _) (Int.le_of_lt (pow2_pos n)) h h2
theorem pprim_mon (d n : Nat) : pprim (mon d n) = mon d 0 := list_ext (by rw [length_pprim, length_mon, length_mon]) fun i _ => by
  rw [cf_pprim, pcont_mon, cf_mon, cf_mon]
  split
  · rw [Int.ediv_self (Int.ne_of_gt (pow2_pos n))]; rfl
  · simp
theorem prest_mon {d e : Nat} (h : e ≤ d) : prest (mon d 0) (mon e 0) = [] := by
  obtain ⟨k, s, hs⟩ := prest_id (mon d 0) (mon_ne e 0)
  have hl := length_prest_lt (mon d 0) (mon_ne e 0)
  have hp1 : (2 : Int) ^ 0 = 1 := rfl
  have hlead : cf (mon e 0) ((mon e 0).length - 1) = 1 := by rw [length_mon, cf_mon, if_pos (by omega)]; rfl
  rw [hlead, Int.one_pow] at hs
  have key : ∀ t, (ps (psub (pscale (mono (d - e) 1) 1) (pscale s 1)) * ps (mon e 0)).c t = cf (prest (mon d 0) (mon e 0)) t := fun t => by
    rw [mul_lin2, mono_mul]
    have h1 := hs t
    have h2 : (if d - e ≤ t then 1 * (ps (mon e 0)).c (t - (d - e)) else 0) = cf (mon d 0) t := by
      rw [cf_mon]
      split
      · rw [ps_c, cf_mon]
        by_cases h3 : t = d
        · rw [if_pos (by omega), if_pos h3]; rfl
        · rw [if_neg (by omega), if_neg h3]; rfl
      · rw [if_neg (by omega)]
    rw [h2]
    omega
  have z := mul_low (tr_mon e 0) (mon_ne e 0) key fun t ht => cf_ge (by omega)
  have h3 : ∀ t, cf (prest (mon d 0) (mon e 0)) t = 0 := fun t => by rw [← key t]; exact mul_zero_l z _ t
  have h4 := (tzl_nil_iff _).2 h3
  rwa [tzl_tr (tr_prest (tr_mon d 0))] at h4
theorem eok_mon {d e : Nat} (h : e ≤ d) (hd : d ≤ 24) : eok 2 (mon d 0) (mon e 0) := by
  right
  refine ⟨?_, .inl (by rw [prest_mon h]; rfl)⟩
  rw [derr_mon, if_neg]
  have : (d - e + 1) * (0 + 1 + 1) ≤ 25 * 2 := Nat.mul_le_mul (by omega) (by omega)
  omega
theorem eok_limits {d n e m : Nat} (hd : d ≤ 24) (he : e ≤ 24) : eok 2 (gA (mon d n) (mon e m)) (gB (mon d n) (mon e m)) := by
  unfold gA gB
  rw [length_mon, length_mon, pprim_mon, pprim_mon]
  split
  · exact eok_mon (by omega) he
  · exact eok_mon (by omega) hd
/-! a power of 2 as bytes -/
theorem dg_pow2 (n : Nat) : dg 256 (2 ^ n) = List.replicate (n / 8) 0 ++ [2 ^ (n % 8)] := by
  have hlt : 2 ^ (n % 8) < 256 := Nat.lt_of_lt_of_le (Nat.pow_lt_pow_right (by decide) (Nat.mod_lt n (by decide))) (by decide)
  have hp : 0 < 2 ^ (n % 8) := Nat.pow_pos (by decide)
  have e : 2 ^ n = 256 ^ (n / 8) * 2 ^ (n % 8) := by
    rw [show (256 : Nat) = 2 ^ 8 from rfl, ← Nat.pow_mul, ← Nat.pow_add]; congr 1; omega
  have hlen : (dg 256 (2 ^ n)).length = n / 8 + 1 := by
    refine Nat.le_antisymm ((dg_length_le (by omega) (n / 8 + 1) (2 ^ n)).2 ?_) ?_
    · rw [e, Nat.pow_succ]; exact Nat.mul_lt_mul_of_pos_left hlt (Nat.pow_pos (by decide))
    · rcases Nat.lt_or_ge (n / 8) (dg 256 (2 ^ n)).length with h | h
      · exact h
      · have := (dg_length_le (by omega) (n / 8) (2 ^ n)).1 h
        rw [e] at this
        have h3 : 256 ^ (n / 8) * 1 ≤ 256 ^ (n / 8) * 2 ^ (n % 8) := Nat.mul_le_mul_left _ hp
        omega
  refine eq_of_getD (by rw [hlen]; simp) fun j hj => ?_
  rw [dg_getD (by omega), e]
  rw [hlen] at hj
  rcases Nat.lt_or_ge j (n / 8) with h | h
  · have e2 : 256 ^ (n / 8) * 2 ^ (n % 8) = 256 ^ j * (256 * (256 ^ (n / 8 - j - 1) * 2 ^ (n % 8))) := by
      rw [← Nat.mul_assoc, ← Nat.mul_assoc, ← Nat.pow_succ, ← Nat.pow_add]; congr 2; omega
    rw [e2, Nat.mul_div_cancel_left _ (Nat.pow_pos (by decide)), Nat.mul_mod_right]
    simp [List.getD, List.getElem?_append, h]
  · obtain rfl : j = n / 8 := by omega
    rw [Nat.mul_div_cancel_left _ (Nat.pow_pos (by decide)), Nat.mod_eq_of_lt hlt]
    simp [List.getD]
theorem bstr_pow2 (n : Nat) : bstr ((2 : Int) ^ n).natAbs = ⟨(((List.replicate (n / 8 + 1) 0).set 0 (2 ^ (n % 8))).map UInt8.ofNat).toArray⟩ := by
  unfold bstr
  rw [Int.natAbs_pow, show Int.natAbs 2 = 2 from rfl, dg_pow2, List.reverse_append, List.reverse_replicate]
  rfl
theorem wv_pow2 (n : Nat) : wv ((2 : Int) ^ n) = .agg #[.bool false, .string ⟨(((List.replicate (n / 8 + 1) 0).set 0 (2 ^ (n % 8))).map UInt8.ofNat).toArray⟩] := by
  have := pow2_pos n
  unfold wv
  rw [bstr_pow2, decide_eq_false (by omega)]
variable {P : Program} {N : Nat} {sc : Nat → Prop} {env : Env} {H : Hp}
theorem d_shl8 {o : Oper} {t t' : TypeId} {x y : Operand} {m n : Nat} {n' : Int} (ho : o.op = .binOp .shl t x y t') (hx : ev env x = some (.int .u8 (m : Int))) (hy : ev env y = some (.int .i64 n')) (hn' : n' = (n : Int)) (hn : n ≤ 8) (hlt : m * 2 ^ n < 256) : Det P N sc o env H (.int .u8 ((m * 2 ^ n : Nat) : Int)) := fun a w hs => by
  subst hn'
  have h1 : min n 8 = n := by omega
  have h2 : IntKind.u8.wrap ((m : Int) * 2 ^ n) = ((m * 2 ^ n : Nat) : Int) := by
    simp only [IntKind.wrap, IntKind.bits, IntKind.signed]
    have : ((m : Int) * 2 ^ n) = ((m * 2 ^ n : Nat) : Int) := by push_cast; rfl
    rw [this]
    simp
    omega
  have h3 : ¬ ((n : Int) < 0) := by omega
  have h2' : IntKind.u8.wrap (↑m * 2 ^ n) = ↑m * 2 ^ n := by rw [h2]; push_cast; rfl
  simp [execOp, ho, hs.ev hx, hs.ev hy, eqGuard, binOp, Op.shift, IntKind.bits, h1, h2', h3]
/-- refused, or done: one contract -/
theorem Cal.either {f : FuncId} {args : Array Value} {pre : List Pc} {p : Prop} [Decidable p] {xs : List Int}
    (h1 : p → Cal P f args pre false (G := Unit) (fun _ => True) (fun _ => .tuple #[.slice none 0 0, .int .i64 7]) (fun _ => []))
    (h2 : ¬ p → Cal P f args pre true (G := Value) (fun r => True) (fun r => .tuple #[r, .int .i64 0]) (fun r => [slp 2 wv r xs])) :
    Cal P f args pre true (G := Value) (fun r => True) (fun r => .tuple #[r, .int .i64 (if p then 7 else 0)]) (fun r => [slp 2 wv r (if p then [] else xs)]) := by
  by_cases h : p
  · rw [if_pos h, if_pos h]
    intro w hp
    refine (h1 h w hp).mono fun e w' ⟨_, he, _, hb, _⟩ => ⟨_, he, trivial, hb, fun q hq => ?_⟩
    rcases List.mem_singleton.1 hq with rfl
    exact ⟨nil_holds 2 wv w', rfl, fun b hb => by simp [slp, Value.ownBlock] at hb⟩
  · rw [if_neg h, if_neg h]; exact h2 h
end Go.Sky
namespace Go.Sky
open Go.Proofs
set_option maxRecDepth 20000
set_option maxHeartbeats 4000000
set_option linter.unusedVariables false
set_option linter.unusedSimpArgs false
theorem combine_full (bd : Nat) (v u : Value) (xs ys : List Int) (hv : Vp xs) (hu : Vp ys) (hz : oe (fun i => cf xs i + cf ys i) (max xs.length ys.length) = 7) : CalB Try.prog 31 #[v, u, .pointer (some ⟨bd, 0, none⟩), .func (.func 28) #[.pointer (some ⟨bd, 0, none⟩)] #[]] [slp 2 wv v xs, slp 2 wv u ys] false bd 54 #[.int .i64 0] (G := Unit) (fun _ => True) (fun _ => .tuple #[.slice none 0 0, .int .i64 7]) (fun _ => #[.int .i64 7]) (fun _ => []) := by
  refine calb_in Try.func31 rfl Try.ntmps31 rfl ⟨rfl, rfl, trivial⟩ ?_
  intro w0 sc hw hsc
  simp only [enumEnv, enumPre]
  have hlen := hv.len
  have hlen2 := hu.len
  refine e_seq ?_
  refine e_reg ?_
  refine as_ rfl rfl ?_
  refine as_ rfl rfl ?_
  refine l_nil ?_
  refine x_then ?_
  refine e_seq ?_
  refine e_seq ?_
  refine e_reg ?_
  refine mv rfl rfl ?_
  refine tt (t_call (n := 3) (poly_valid_ok _ _ (by assumption)) rfl rfl rfl ⟨rfl, trivial⟩ Try.call26 (pre_same 2 rfl rfl rfl pre_nil) rfl hw) rfl (fun _ _ => ?_)
  refine dt (d_notb rfl rfl) rfl ?_
  refine mv rfl rfl ?_
  refine gdt (d_mv rfl rfl) rfl rfl rfl rfl ?_
  refine gtt (t_call (n := 3) (poly_valid_ok _ _ (by assumption)) rfl rfl rfl ⟨rfl, trivial⟩ Try.call26 (pre_same 3 rfl rfl rfl pre_nil) rfl hw) rfl rfl rfl rfl (fun _ _ => ?_)
  refine gdt (d_notb rfl rfl) rfl rfl rfl rfl ?_
  refine dt (d_pickf rfl rfl rfl) rfl ?_
  refine l_nil ?_
  refine x_then ?_
  refine e_condf rfl ?_
  refine e_skip ?_
  refine x_then ?_
  refine e_seq ?_
  refine e_reg ?_
  refine mv rfl rfl ?_
  refine dt (d_len rfl rfl (i := 2) rfl rd_slp Try.underlying24) rfl ?_
  refine mv rfl rfl ?_
  refine dt (d_len rfl rfl (i := 3) rfl rd_slp Try.underlying24) rfl ?_
  refine dt (d_max rfl rfl rfl) rfl ?_
  refine tt (t_mkn (i := 4) (n := (max xs.length ys.length)) (by_ := 24) (enc := wv) 0 rfl rfl rfl rfl rfl (by omega) Try.underlying24 Try.ti26 rfl pV.cells pV.pos rfl rfl (by omega) (by decide) rfl hw) rfl (fun v _ => ?_)
  refine as_ rfl rfl ?_
  refine l_nil ?_
  refine x_then ?_
  refine e_seq ?_
  refine e_seq ?_
  refine e_reg ?_
  refine mv rfl rfl ?_
  refine dt (d_len rfl rfl (i := 4) rfl (rd_osl pV) Try.underlying24) rfl ?_
  refine mv rfl rfl ?_
  refine l_nil ?_
  refine x_then ?_
  refine e_block ?_
  refine e_lp [(0, _), (1, _), (2, _), (3, _), (10, _), (29, _)] [(0, _), (2, _), (3, _)] (fun (k : Nat) => [(30, .int .i64 (k : Int))]) (fun (k : Nat) => [(4, osl 2 26 wv v (fill (max xs.length ys.length) k (fun i => clip ((fun i => cf xs i + cf ys i) i)))), (1, box bd 54 #[.int .i64 (oe (fun i => cf xs i + cf ys i) k)])]) (fun (k : Nat) => (k ≤ max xs.length ys.length)) (fun (k : Nat) => max xs.length ys.length - k) 0 (by first | omega | (dsimp only <;> omega)) ⟨rfl, rfl, rfl, rfl, rfl, rfl, rfl, trivial⟩ ⟨by rw [fill_zero (max xs.length ys.length) (fun i => clip ((fun i => cf xs i + cf ys i) i))]; rfl, rfl, rfl, rfl, rfl, trivial⟩ ?_
  rintro k hk
  simp only [List.cons_append, List.nil_append]
  have hlf : (fill (max xs.length ys.length) k (fun i => clip ((fun i => cf xs i + cf ys i) i))).length = (max xs.length ys.length) := length_fill _ _ _
  refine e_seq ?_
  refine e_reg ?_
  refine dt (d_lss rfl rfl rfl) rfl ?_
  refine l_nil ?_
  refine x_then ?_
  refine e_seq ?_
  refine e_cond rfl (fun h106 => ?_) (fun h106 => ?_)
  · try rw [List.length_replicate] at *
    refine e_skip ?_
    refine x_then ?_
    refine e_seq ?_
    refine e_block ?_
    refine e_seq ?_
    refine e_reg ?_
    refine mv rfl rfl ?_
    refine as_ rfl rfl ?_
    refine l_nil ?_
    refine x_then ?_
    refine e_seq ?_
    refine e_reg ?_
    refine tt (t_alloc (i := 5) rfl rfl rfl Try.zeroValue26 rfl rfl hw) rfl (fun b _ => ?_)
    refine tt (t_alloc (i := 6) rfl rfl rfl Try.zeroValue26 rfl rfl hw) rfl (fun b_2 _ => ?_)
    refine l_nil ?_
    refine x_then ?_
    refine e_jn [(0, _), (1, _), (2, _), (3, _), (10, _), (11, _), (12, _), (13, _), (29, _), (30, _)] [(0, _), (4, _), (1, _), (2, _), (3, _), (6, _)] (fun (_ : Unit) => []) (fun (_ : Unit) => [(5, box b 26 (wc (cf xs k)))]) (fun (_ : Unit) => True) ⟨rfl, rfl, rfl, rfl, rfl, rfl, rfl, rfl, rfl, rfl, trivial⟩ ⟨rfl, rfl, rfl, rfl, rfl, rfl, trivial⟩ ?_ ?_
    · refine e_seq ?_
      refine e_reg ?_
      refine mv rfl rfl ?_
      refine mv rfl rfl ?_
      refine dt (d_len rfl rfl (i := 2) rfl rd_slp Try.underlying24) rfl ?_
      refine dt (d_lss rfl rfl rfl) rfl ?_
      refine l_nil ?_
      refine x_then ?_
      refine e_cond rfl (fun h108 => ?_) (fun h108 => ?_)
      · refine e_reg ?_
        refine mv rfl rfl ?_
        refine mv rfl rfl ?_
        refine dt (d_ixa (ii := 2) rfl rfl rfl rfl rd_slp Try.underlying24 Try.sizeOf26 rfl (by first | omega | (simp only [List.length_set]; omega))) rfl ?_
        refine dt (d_lde (ii := 2) 0 rfl rfl rfl rd_slp pV (by first | omega | (simp only [List.length_set]; omega))) rfl ?_
        refine tt (t_stw (i := 5) rfl rfl rfl rfl rfl (by decide) rfl Try.sizeOf26 rfl rfl ⟨(one_rfl rfl), (one_rfl rfl), trivial⟩ rfl hw trivial) rfl (fun _ _ => ?_)
        refine l_nil ?_
        exact x_jn () trivial ⟨rfl, rfl, rfl, rfl, rfl, rfl, rfl, rfl, rfl, rfl, trivial⟩ ⟨by first | rfl | (rw [cf_ge (p := xs) (by omega)]; rfl), rfl, rfl, rfl, rfl, rfl, rfl, trivial⟩
      · refine e_skip ?_
        exact x_jn () trivial ⟨rfl, rfl, rfl, rfl, rfl, rfl, rfl, rfl, rfl, rfl, trivial⟩ ⟨by first | rfl | (rw [cf_ge (p := xs) (by omega)]; rfl), rfl, rfl, rfl, rfl, rfl, rfl, trivial⟩
    · rintro _ -
      simp only [List.cons_append, List.nil_append]
      refine e_jn [(0, _), (1, _), (2, _), (3, _), (10, _), (11, _), (12, _), (13, _), (29, _), (30, _)] [(0, _), (5, _), (4, _), (1, _), (2, _), (3, _)] (fun (_ : Unit) => []) (fun (_ : Unit) => [(6, box b_2 26 (wc (cf ys k)))]) (fun (_ : Unit) => True) ⟨rfl, rfl, rfl, rfl, rfl, rfl, rfl, rfl, rfl, rfl, trivial⟩ ⟨rfl, rfl, rfl, rfl, rfl, rfl, trivial⟩ ?_ ?_
      · refine e_seq ?_
        refine e_reg ?_
        refine mv rfl rfl ?_
        refine mv rfl rfl ?_
        refine dt (d_len rfl rfl (i := 3) rfl rd_slp Try.underlying24) rfl ?_
        refine dt (d_lss rfl rfl rfl) rfl ?_
        refine l_nil ?_
        refine x_then ?_
        refine e_cond rfl (fun h111 => ?_) (fun h111 => ?_)
        · refine e_reg ?_
          refine mv rfl rfl ?_
          refine mv rfl rfl ?_
          refine dt (d_ixa (ii := 3) rfl rfl rfl rfl rd_slp Try.underlying24 Try.sizeOf26 rfl (by first | omega | (simp only [List.length_set]; omega))) rfl ?_
          refine dt (d_lde (ii := 3) 0 rfl rfl rfl rd_slp pV (by first | omega | (simp only [List.length_set]; omega))) rfl ?_
          refine tt (t_stw (i := 6) rfl rfl rfl rfl rfl (by decide) rfl Try.sizeOf26 rfl rfl ⟨(one_rfl rfl), (one_rfl rfl), trivial⟩ rfl hw trivial) rfl (fun _ _ => ?_)
          refine l_nil ?_
          exact x_jn () trivial ⟨rfl, rfl, rfl, rfl, rfl, rfl, rfl, rfl, rfl, rfl, trivial⟩ ⟨by first | rfl | (rw [cf_ge (p := ys) (by omega)]; rfl), rfl, rfl, rfl, rfl, rfl, rfl, trivial⟩
        · refine e_skip ?_
          exact x_jn () trivial ⟨rfl, rfl, rfl, rfl, rfl, rfl, rfl, rfl, rfl, rfl, trivial⟩ ⟨by first | rfl | (rw [cf_ge (p := ys) (by omega)]; rfl), rfl, rfl, rfl, rfl, rfl, rfl, trivial⟩
      · rintro _ -
        simp only [List.cons_append, List.nil_append]
        refine e_reg ?_
        refine mv rfl rfl ?_
        refine mv rfl rfl ?_
        refine mv rfl rfl ?_
        refine dt (d_lb2 (i := 5) rfl rfl rfl Try.isAgg26 Try.sizeOf26 rfl rfl) rfl ?_
        refine dt (d_lb2 (i := 6) rfl rfl rfl Try.isAgg26 Try.sizeOf26 rfl rfl) rfl ?_
        refine tt (t_callbv (n := 6) (i := 1) (fs := [_]) (vs := [_, _]) (d_add_ _ (oe (fun i => cf xs i + cf ys i) k) _ _ (hv.sz _) (hu.sz _)) rfl rfl rfl rfl ⟨rfl, rfl, trivial⟩ Try.call28 rfl (by decide) pre_nil rfl hw trivial) rfl (fun _ _ => ?_)
        refine dt (d_ixa (ii := 4) (i := k) rfl rfl rfl rfl (rd_osl pV) Try.underlying24 Try.sizeOf26 rfl (by rw [length_fill]; omega)) rfl ?_
        refine tt (t_ste (i := 4) (enc := wv) _ rfl rfl rfl rfl rfl rfl (by decide) pV (by rw [length_fill]; omega) rfl hw) rfl (fun _ _ => ?_)
        refine l_nil ?_
        refine x_bn ?_
        refine x_then ?_
        refine e_reg ?_
        refine dt (d_add rfl rfl rfl ⟨by omega, by omega⟩) rfl ?_
        refine mv rfl rfl ?_
        refine l_nil ?_
        exact x_rnd (k + 1) (by first | omega | (dsimp only <;> omega)) (by first | omega | (dsimp only <;> omega)) ⟨rfl, rfl, rfl, rfl, rfl, rfl, rfl, trivial⟩ ⟨by rw [← fill_set (by omega)]; rfl, rfl, rfl, rfl, rfl, trivial⟩
  · try rw [List.length_replicate] at *
    refine e_exit ?_
    refine x_exit ?_
    refine x_exit ?_
    refine x_be ?_
    refine x_then ?_
    refine e_seq ?_
    obtain rfl : k = max xs.length ys.length := by omega
    refine e_imp (s_pub 4 rfl rfl pV) ?_
    refine e_reg ?_
    refine mv rfl rfl ?_
    refine mv rfl rfl ?_
    refine tt (t_callb (n := 6) (i := 1) (d_done_err _ _ _ (by rw [hz]; decide)) rfl rfl rfl ⟨rfl, rfl, trivial⟩ Try.call30 rfl (by decide) pre_nil rfl hw trivial) rfl (fun _ _ => ?_)
    refine dt (d_ex rfl rfl rfl) rfl ?_
    refine dt (d_ex rfl rfl rfl) rfl ?_
    refine as_ rfl rfl ?_
    refine as_ rfl rfl ?_
    refine l_nil ?_
    refine x_then ?_
    refine e_ret ?_
    exact x_endb (.inl rfl) hsc () _ (fun a w hs => res2 hs Try.results31 rfl rfl) (by rw [hz] <;> rfl) trivial 1 rfl (by rw [hz]) rfl rfl give_nil
theorem poly_add_full (v u : Value) (xs ys : List Int) (hv : Vp xs) (hu : Vp ys) (hz : oe (fun i => cf xs i + cf ys i) (max xs.length ys.length) = 7) : Cal Try.prog 7 #[v, u] [slp 2 wv v xs, slp 2 wv u ys] false (G := Unit) (fun _ => True) (fun _ => .tuple #[.slice none 0 0, .int .i64 7]) (fun _ => []) := by
  refine cal_in Try.func7 rfl Try.ntmps7 rfl ⟨rfl, rfl, trivial⟩ ?_
  intro w0 sc hw hsc
  simp only [enumEnv, enumPre]
  refine e_seq ?_
  refine e_reg ?_
  refine as_ rfl rfl ?_
  refine as_ rfl rfl ?_
  refine l_nil ?_
  refine x_then ?_
  refine e_seq ?_
  refine e_reg ?_
  refine tt (t_alloc (i := 3) rfl rfl rfl Try.zeroValue54 rfl rfl hw) rfl (fun b _ => ?_)
  refine l_nil ?_
  refine x_then ?_
  refine e_seq ?_
  refine e_reg ?_
  refine mv rfl rfl ?_
  refine mv rfl rfl ?_
  refine dt (d_mkf (vs := [_]) rfl ⟨rfl, trivial⟩) rfl ?_
  refine tt (t_callb (n := 3) (i := 3) (combine_full _ _ _ _ _ (by assumption) (by assumption) (by assumption)) rfl rfl rfl ⟨rfl, rfl, rfl, rfl, trivial⟩ Try.call31 rfl (by decide) (pre_same 1 rfl rfl rfl (pre_same 2 rfl rfl rfl pre_nil)) rfl hw trivial) rfl (fun _ _ => ?_)
  refine dt (d_ex rfl rfl rfl) rfl ?_
  refine dt (d_ex rfl rfl rfl) rfl ?_
  refine as_ rfl rfl ?_
  refine as_ rfl rfl ?_
  refine l_nil ?_
  refine x_then ?_
  refine e_ret ?_
  exact x_end (.inl rfl) hsc () _ (fun a w hs => res2 hs Try.results7 rfl rfl) rfl trivial rfl give_nil
end Go.Sky
namespace Go.Sky
open Go.Proofs
set_option maxRecDepth 20000
set_option maxHeartbeats 4000000
set_option linter.unusedVariables false
set_option linter.unusedSimpArgs false
theorem law_power (n : Nat) (hn : n ≤ 65535) : Cal Try.prog 5 #[.int .i64 (n : Int)] [] false (G := Unit) (fun _ => True) (fun _ => wv ((2 : Int) ^ n)) (fun _ => []) := by
 refine cal_in Try.func5 rfl Try.ntmps5 rfl trivial ?_
 intro w0 sc hw hsc
 simp only [enumEnv, enumPre]
 have h8 : 1 * 2 ^ (n % 8) < 256 := by rw [Nat.one_mul]; exact Nat.lt_of_lt_of_le (Nat.pow_lt_pow_right (by decide) (Nat.mod_lt n (by decide))) (by decide)
 refine e_seq (e_reg (tt (t_alloc (i := 1) rfl rfl rfl Try.zeroValue26 rfl rfl hw) rfl (fun b _ => ?_)))
 refine l_nil (x_then (e_seq (e_reg (mv rfl rfl (dt (d_quo rfl rfl rfl (by omega) (by omega) (by omega)) rfl ?_)))))
 refine dt (d_add rfl rfl rfl ⟨by omega, by omega⟩) rfl ?_
 refine tt (t_mkn (i := 2) (n := (n / 8 + 1)) (by_ := 1) (enc := encB) 0 rfl rfl rfl rfl rfl (by omega) Try.underlying48 Try.ti5 rfl pB.cells pB.pos rfl rfl (by omega) (by decide) rfl hw) rfl (fun v _ => ?_)
 refine as_ rfl rfl (l_nil (x_then (e_seq (e_reg (mv rfl rfl (mv rfl rfl (dt (d_rem rfl rfl rfl (by omega) (by omega)) rfl ?_)))))))
 refine dt (d_shl8 (m := 1) (n := n % 8) rfl rfl rfl (by omega) (by omega) h8) rfl ?_
 refine dt (d_ixa (ii := 2) (i := 0) rfl rfl rfl rfl (rd_osl pB) Try.underlying48 Try.sizeOf5 rfl (by simp)) rfl ?_
 refine tt (t_ste (i := 2) (enc := encB) (1 * 2 ^ (n % 8)) rfl rfl rfl rfl rfl rfl (by decide) pB (by simp) rfl hw) rfl (fun _ _ => ?_)
 refine l_nil (x_then (e_seq (e_reg (mv rfl rfl (dt (d_b2s rfl rfl (i := 2) rfl (rd_osl pB) Try.underlying48 Try.underlying9 Try.underlying5) rfl ?_)))))
 refine dt (d_bld (ivs := [(1, _)]) rfl ⟨rfl, rfl, trivial⟩ (fun a w hs => b26_1 ((one_rfl rfl) a w hs))) rfl ?_
 refine tt (t_stw (i := 1) rfl rfl rfl rfl rfl (by decide) rfl Try.sizeOf26 rfl rfl ⟨(one_rfl rfl), (one_rfl rfl), trivial⟩ rfl hw trivial) rfl (fun _ _ => ?_)
 refine l_nil (x_then (e_ret ?_))
 exact x_end (.inl rfl) hsc () _ (fun a w hs => res1 hs Try.results5 (rv_cell (i := 1) rfl rfl Try.isAgg26 Try.sizeOf26 rfl)) (by rw [wv_pow2, Nat.one_mul] <;> rfl) trivial rfl give_nil
end Go.Sky

