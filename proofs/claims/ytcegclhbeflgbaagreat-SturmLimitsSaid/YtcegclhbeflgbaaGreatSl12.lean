/- rules, arithmetic and contracts: part 13
   Proved without conditions of its own: each theorem bears its own. -/
import Derived.Test.YtcegclhbeflgbaaGreatSl11
import Derived.Test.YtcegclhbeflgbaaGreatSl02
import Derived.Test.YtcegclhbeflgbaaGreatSl01
import Derived.Test.YtcegclhbeflgbaaGreatSl03
set_option linter.all false
namespace Go.Sky
set_option linter.unusedVariables false
theorem st_fl {l : List (Int × Int)} {i : Nat} {a b f : Bool} (hi : i < l.length) (h : f = (a || (l.take i).any ef)) (hb : b = (f || ef (l.getD i (0, 0)))) : b = (a || (l.take (i + 1)).any ef) := by
  rw [hb, h, take_snoc (0, 0) l i hi, List.any_append]
  simp [Bool.or_assoc]
theorem int_sign_pos {z : Int} (h : 0 < z.sign) : 0 < z := by
  rcases Int.lt_trichotomy z 0 with h1 | h1 | h1
  · rw [Int.sign_eq_neg_one_of_neg h1] at h; omega
  · subst h1; simp at h
  · exact h1
theorem int_pos_sign {z : Int} (h : 0 < z) : z.sign = 1 := Int.sign_eq_one_of_pos h
theorem st_flt {xs : List Int} {x y x2 y2 : Int} (h : true = (!decide (sfits xs) || ([(x, y), (x2, y2)].take 2).any ef)) : ¬ (sfits xs ∧ ef (x, y) = false ∧ ef (x2, y2) = false) := fun ⟨h1, h2, h3⟩ => by
  simp [h1, h2, h3] at h
theorem st_flf {xs : List Int} {x y x2 y2 : Int} (h : false = (!decide (sfits xs) || ([(x, y), (x2, y2)].take 2).any ef)) : sfits xs ∧ ef (x, y) = false ∧ ef (x2, y2) = false := by
  have h := h.symm
  simp at h
  exact ⟨h.1, h.2.1, h.2.2⟩
theorem vp_pder {p : List Int} (h : Vp p) (hz : ∀ i, i < p.length → bl (cf p (i + 1) * ((i : Int) + 1)).natAbs ≤ 65536) : Vp (pder p) := by
  refine ⟨fun i => ?_, tr_pder h.tr, by rw [len_pder']; have := h.len; omega⟩
  rw [cf_pder']
  by_cases hi : i < p.length
  · exact hz i hi
  · rw [cf_ge (by omega)]; simp [bl_zero]
theorem sf_t {xs : List Int} (h : xs.length = 0) : Value.bool (decide (sfits xs)) = .bool true := congrArg Value.bool (decide_eq_true (.inl h))
theorem sf_i {xs : List Int} {n : Int} (h : xs.length ≠ 0) (hn : n = (((xs.length + 2) * (xs.length + 2) * (msz xs + 16) : Nat) : Int)) : Value.bool (decide (sfits xs)) = .bool (decide (n ≤ 65536)) := congrArg Value.bool (decide_eq_decide.2 (by
  subst hn
  show (xs.length = 0 ∨ (xs.length + 2) * (xs.length + 2) * (msz xs + 16) ≤ 65536) ↔ _
  constructor
  · intro h1; rcases h1 with h1 | h1
    · exact absurd h1 h
    · exact Int.ofNat_le.2 h1
  · intro h1; exact .inr (Int.ofNat_le.1 h1)))
theorem ef_1 {f : Bool} (z : Int × Int) (h : f = true) : true = (f || ef z) := by rw [h]; rfl
theorem ef_2 (f : Bool) {z : Int × Int} (h : (512 : Int) < (bl z.1.natAbs : Int)) : true = (f || ef z) := by
  unfold ef; rw [decide_eq_true (by omega)]; simp
theorem ef_3 {f : Bool} {z : Int × Int} (hf : f = false) (h : ¬ (512 : Int) < (bl z.1.natAbs : Int)) : decide ((512 : Int) < (bl z.2.natAbs : Int)) = (f || ef z) := by
  unfold ef; rw [hf, decide_eq_false (p := 512 < bl z.1.natAbs) (by omega)]
  simp only [Bool.false_or]
  rw [decide_eq_decide]; omega
theorem snext_nil {x y : List Int} (h : (prest x y).length = 0) : snext x y = [] := by
  have h1 : prest x y = [] := List.eq_nil_of_length_eq_zero h
  unfold snext; rw [h1]; split <;> rfl
theorem snext_a {x y : List Int} (hl : y.length ≤ x.length) (h1 : (cf y (y.length - 1)).sign < 0) (h2 : ((x.length : Int) - (y.length : Int) + 1) % 2 = 1) : snext x y = pprim (prest x y) := by
  unfold snext; rw [if_pos ⟨(sign_neg_iff _).1 h1, by omega⟩]
theorem snext_b {x y : List Int} (h1 : ¬ (cf y (y.length - 1)).sign < 0) : snext x y = pscale (pprim (prest x y)) (-1) := by
  unfold snext; rw [if_neg (fun h => h1 ((sign_neg_iff _).2 h.1))]
theorem snext_c {x y : List Int} (hl : y.length ≤ x.length) (h2 : ¬ ((x.length : Int) - (y.length : Int) + 1) % 2 = 1) : snext x y = pscale (pprim (prest x y)) (-1) := by
  unfold snext; rw [if_neg (fun h => h2 (by omega))]
end Go.Sky
namespace Go.Sky
theorem vp_sqf {xs : List Int} {F : Nat} (hv : Vp xs) (h0 : xs ≠ []) (h : sqOK F xs) : Vp (sqf F xs) := by
  obtain ⟨_, _, _, h4, h5⟩ := h
  have hn := vp_nrm hv
  unfold sqf pquoz
  split
  · exact ⟨Sz.nil _, Tr.nil, by simp⟩
  · rename_i h6
    rcases h5 with h5 | h5
    · exact absurd h5 h6
    · have h7 := (derr_ok h4).2 h5.1
      refine ⟨?_, tr_tzl _, ?_⟩
      · rw [← dout_all]; exact (sz_pquo h7 h5.2.1 _).tzl
      · have h8 := tzl_le (dout (nrm xs) (pgcd F (nrm xs) (pder (nrm xs))) ((nrm xs).length - (pgcd F (nrm xs) (pder (nrm xs))).length + 1))
        rw [dout_all, length_dout] at h8
        have := hn.len
        have := (derr_ok h4).1
        omega
theorem length_sqf {xs : List Int} {F : Nat} (hv : Vp xs) (h : sqOK F xs) : (sqf F xs).length ≤ xs.length := by
  obtain ⟨_, _, _, h4, h5⟩ := h
  have hl := length_nrm hv.tr
  unfold sqf pquoz
  split
  · exact Nat.zero_le _
  · rename_i h6
    rcases h5 with h5 | h5
    · exact absurd h5 h6
    · have h8 := tzl_le (dout (nrm xs) (pgcd F (nrm xs) (pder (nrm xs))) ((nrm xs).length - (pgcd F (nrm xs) (pder (nrm xs))).length + 1))
      rw [dout_all, length_dout] at h8
      have := (derr_ok h4).1
      have := h5.1
      omega
end Go.Sky
namespace Go.Sky
theorem chg_0 {L : List Int} {i : Nat} {n l s : Int} (hi : i < L.length) (h : (n, l) = (L.take i).foldl chg1 (0, 0)) (hs : L.getD i 0 = s) (h0 : s = 0) : (n, l) = (L.take (i + 1)).foldl chg1 (0, 0) := by
  rw [take_snoc 0 L i hi, foldl_snoc, ← h, hs]; unfold chg1; rw [if_pos h0]
theorem chg_a {L : List Int} {i : Nat} {n l s : Int} (hi : i < L.length) (h : (n, l) = (L.take i).foldl chg1 (0, 0)) (hs : L.getD i 0 = s) (h0 : s ≠ 0) (h1 : s = -l) : (n + 1, s) = (L.take (i + 1)).foldl chg1 (0, 0) := by
  rw [take_snoc 0 L i hi, foldl_snoc, ← h, hs]; unfold chg1; rw [if_neg h0]; dsimp only; rw [if_pos h1]
theorem chg_b {L : List Int} {i : Nat} {n l s : Int} (hi : i < L.length) (h : (n, l) = (L.take i).foldl chg1 (0, 0)) (hs : L.getD i 0 = s) (h0 : s ≠ 0) (h1 : ¬ s = -l) : (n, s) = (L.take (i + 1)).foldl chg1 (0, 0) := by
  rw [take_snoc 0 L i hi, foldl_snoc, ← h, hs]; unfold chg1; rw [if_neg h0]; dsimp only; rw [if_neg h1]
theorem chg_end {L : List Int} {i : Nat} {n l : Int} (hi : L.length ≤ i) (h : (n, l) = (L.take i).foldl chg1 (0, 0)) : n = chg L := by
  rw [List.take_of_length_le hi] at h
  unfold chg; rw [← h]
theorem sg_range (z : Int) : -1 ≤ z.sign ∧ z.sign ≤ 1 := by
  rcases Int.lt_trichotomy z 0 with h | h | h
  · rw [Int.sign_eq_neg_one_of_neg h]; omega
  · subst h; simp
  · rw [Int.sign_eq_one_of_pos h]; omega
theorem map_getD {α : Type} (d : α) (f : α → Int) (ls : List α) {i : Nat} (h : i < ls.length) : (ls.map f).getD i 0 = f (ls.getD i d) := by
  simp [List.getD_eq_getElem?_getD, h]
def sgx (ls : List (SL × List Int)) (f : List Int → Int) : List Int := ls.map fun z => f z.2
theorem sgx_getD (ls : List (SL × List Int)) (f : List Int → Int) {i : Nat} (h : i < ls.length) : (sgx ls f).getD i 0 = f (ls.getD i ((none, 0, 0), [])).2 := map_getD _ _ _ h
theorem length_sgx (ls : List (SL × List Int)) (f : List Int → Int) : (sgx ls f).length = ls.length := List.length_map ..
def fr (p : List Int) : Int := (cf p (p.length - 1)).sign
def fl (p : List Int) : Int := if p.length % 2 = 0 then - (cf p (p.length - 1)).sign else (cf p (p.length - 1)).sign
def fat (x y : Int) (p : List Int) : Int := (pev p x y).sign
theorem fr_r (p : List Int) : -1 ≤ fr p ∧ fr p ≤ 1 := sg_range _
theorem fl_r (p : List Int) : -1 ≤ fl p ∧ fl p ≤ 1 := by unfold fl; have := sg_range (cf p (p.length - 1)); split <;> omega
theorem fat_r (x y : Int) (p : List Int) : -1 ≤ fat x y p ∧ fat x y p ≤ 1 := sg_range _
end Go.Sky
namespace Go.Sky
theorem vp_schain : ∀ (f : Nat) {x y : List Int}, Vp x → Vp y → cok f x y → ∀ p ∈ schain f x y, Vp p
  | 0, x, y, hx, _, _, p, hp => by rw [List.mem_singleton.1 hp]; exact hx
  | f + 1, x, y, hx, hy, h, p, hp => by
    unfold schain at hp
    split at hp
    · rw [List.mem_singleton.1 hp]; exact hx
    · rcases h with h | h
      · contradiction
      · rcases List.mem_cons.1 hp with rfl | hp
        · exact hx
        · exact vp_schain f hy (vp_snext hx h.1) h.2.2 p hp
theorem ne_schain : ∀ (f : Nat) {x y : List Int}, x ≠ [] → ∀ p ∈ schain f x y, p ≠ []
  | 0, x, y, hx, p, hp => by rw [List.mem_singleton.1 hp]; exact hx
  | f + 1, x, y, hx, p, hp => by
    unfold schain at hp
    split at hp
    · rw [List.mem_singleton.1 hp]; exact hx
    · rename_i h
      rcases List.mem_cons.1 hp with rfl | hp
      · exact hx
      · exact ne_schain f h p hp
theorem vp_chn {xs : List Int} {F : Nat} (hv : Vp xs) (h0 : xs ≠ []) (hC : chOK F xs) : ∀ p ∈ chn F xs, Vp p := by
  obtain ⟨h1, h2, h3⟩ := hC
  have hq := vp_sqf hv h0 h1
  exact vp_schain F hq (vp_pprim (vp_pder hq (fun i hi => h2 i (by have := length_sqf hv h1; omega)))) h3
def cnt (F : Nat) (xs : List Int) (x y : Int) : Int := chg ((chn F xs).map (fat x y))
def sright (F : Nat) (xs : List Int) : Int := chg ((chn F xs).map fr)
def sleft (F : Nat) (xs : List Int) : Int := chg ((chn F xs).map fl)
theorem sgx_map {ls : List (SL × List Int)} {C : List (List Int)} (h : ls.map Prod.snd = C) (f : List Int → Int) : sgx ls f = C.map f := by
  rw [← h, List.map_map]; rfl
theorem mem_snd {ls : List (SL × List Int)} {C : List (List Int)} {p : List Int → Prop} (h : ls.map Prod.snd = C) (hp : ∀ q ∈ C, p q) : ∀ z ∈ ls, p z.2 := fun z hz => hp _ (h ▸ List.mem_map_of_mem hz)
theorem chk2_fits {xs : List Int} {x y x2 y2 : Int} (h : chk2r xs x y x2 y2 = 0) : xs ≠ [] ∧ sfits xs := by
  unfold chk2r at h
  by_cases h1 : xs.length = 0
  · rw [if_pos h1] at h; cases h
  · rw [if_neg h1] at h
    split at h
    · cases h
    · split at h
      · rename_i h3; exact ⟨fun e => h1 (by rw [e]; rfl), h3.1⟩
      · cases h
theorem chk0_fits {xs : List Int} (h : chk0 xs = 0) : xs ≠ [] ∧ sfits xs := by
  unfold chk0 at h
  by_cases h1 : xs.length = 0
  · rw [if_pos h1] at h; cases h
  · rw [if_neg h1] at h
    split at h
    · rename_i h3; exact ⟨fun e => h1 (by rw [e]; rfl), h3⟩
    · cases h
theorem chg_range (L : List Int) : 0 ≤ chg L ∧ chg L ≤ L.length := by
  unfold chg
  suffices h : ∀ (l : List Int) (s : Int × Int), s.1 ≤ (l.foldl chg1 s).1 ∧ (l.foldl chg1 s).1 ≤ s.1 + l.length by
    have := h L (0, 0); simpa using this
  intro l
  induction l with
  | nil => intro s; simp
  | cons x l ih =>
    intro s
    have h1 := ih (chg1 s x)
    have h2 := chg1_n s x
    simp only [List.foldl_cons, List.length_cons]
    omega
theorem length_schain : ∀ (f : Nat) (x y : List Int), (schain f x y).length ≤ f + 1
  | 0, x, y => Nat.le_refl _
  | f + 1, x, y => by
    unfold schain; split
    · simp
    · have := length_schain f y (snext x y); simp; omega
end Go.Sky
namespace Go.Sky
theorem smost_b {xs : List Int} {n : Nat} (h : Sz n xs) : bl (smost xs) ≤ n := by
  unfold smost
  suffices hh : ∀ (l : List Int) (m : Nat), (∀ c ∈ l, bl c.natAbs ≤ n) → bl m ≤ n → bl (l.foldl (fun m c => max m c.natAbs) m) ≤ n from
    hh _ 0 (fun c hc => h.mem (List.mem_of_mem_take hc)) (Nat.zero_le _)
  intro l
  induction l with
  | nil => intro m _ hm; exact hm
  | cons c l ih =>
    intro m hl hm
    refine ih _ (fun c hc => hl c (List.mem_cons_of_mem _ hc)) ?_
    have := hl c (List.mem_cons_self ..)
    show bl (max m c.natAbs) ≤ n
    rcases Nat.le_total m c.natAbs with h | h
    · rw [Nat.max_eq_right h]; exact this
    · rw [Nat.max_eq_left h]; exact hm
def sm (xs : List Int) (i : Nat) : Nat := (xs.take i).foldl (fun m c => max m c.natAbs) 0
theorem sm_succ {xs : List Int} {i : Nat} (h : i < xs.length) : sm xs (i + 1) = max (sm xs i) (cf xs i).natAbs := by
  unfold sm; rw [take_snoc 0 xs i h, foldl_snoc]; rfl
theorem sm_b {xs : List Int} {n : Nat} (h : Sz n xs) (i : Nat) : bl (sm xs i) ≤ n := by
  have := smost_b (xs := xs.take i ++ [0]) (n := n) (Sz.of_mem fun x hx => by
    rcases List.mem_append.1 hx with hx | hx
    · exact h.mem (List.mem_of_mem_take hx)
    · rw [List.mem_singleton.1 hx]; exact Nat.zero_le _)
  unfold smost at this
  rw [List.length_append, List.length_singleton, Nat.add_sub_cancel, List.take_append_of_le_length (Nat.le_refl _), List.take_length] at this
  exact this
theorem sign_sub_pos {a b : Nat} : 0 < ((a : Int) - (b : Int)).sign ↔ b < a := by
  constructor
  · intro h; have := int_sign_pos h; omega
  · intro h; rw [Int.sign_eq_one_of_pos (by omega)]; decide
theorem fits_msz {xs : List Int} (h : sfits xs) : msz xs ≤ 20000 := by
  rcases h with h | h
  · rw [List.eq_nil_of_length_eq_zero h]; exact Nat.zero_le _
  · have h2 : 2 * 2 * (msz xs + 16) ≤ (xs.length + 2) * (xs.length + 2) * (msz xs + 16) := Nat.mul_le_mul_right _ (Nat.mul_le_mul (by omega) (by omega))
    omega
theorem sbound_eq {xs : List Int} (h : xs ≠ []) : ((smost xs : Int)) / (((cf xs (xs.length - 1)).natAbs : Nat) : Int) + 2 = sbound xs := by
  unfold sbound; rw [Int.natCast_ediv]
theorem sbound_b {xs : List Int} {n : Nat} (h : Sz n xs) : bl (sbound xs).natAbs ≤ n + 2 := by
  unfold sbound
  have h1 : bl (smost xs / (cf xs (xs.length - 1)).natAbs) ≤ n := Nat.le_trans (bl_mono (Nat.div_le_self _ _)) (smost_b h)
  have h2 := (bl_le n _).1 h1
  rw [bl_le]
  generalize smost xs / (cf xs (xs.length - 1)).natAbs = q at h2 ⊢
  have h3 : 2 ^ (n + 2) = 4 * 2 ^ n := by rw [Nat.pow_add]; omega
  have h4 : 1 ≤ 2 ^ n := Nat.pow_pos (by decide)
  omega
end Go.Sky
namespace Go.Sky
theorem wv_abs (n : Nat) : wv (n : Int) = .agg #[.bool false, .string (bstr n)] := by
  unfold wv; rw [decide_eq_false (by omega)]; rfl
end Go.Sky
namespace Go.Sky
theorem nr_num {x y : Int} (h : ¬ rfull x y) : rnum x y = x / lgcd x y ∧ rden x y = y / lgcd x y ∧ rerr x y = 0 := ⟨if_neg h, if_neg h, if_neg h⟩
theorem nr_bl {x y : Int} (h : ¬ rfull x y) : bl (rnum x y).natAbs ≤ 65536 ∧ bl (rden x y).natAbs ≤ 65536 := by
  obtain ⟨h1, h2, _⟩ := nr_num h
  rw [h1, h2]
  unfold rfull at h
  omega
theorem nr_pos {x y : Int} (h : ¬ rfull x y) (hy : 0 < y) : 0 < rden x y := by
  rw [(nr_num h).2.1]; exact lgcd_denp hy
end Go.Sky
namespace Go.Sky
abbrev R2 := Int × Int
def smid (a b : R2) : R2 := (rnum (rnum (a.1 * b.2 + b.1 * a.2) (a.2 * b.2) * 1) (rden (a.1 * b.2 + b.1 * a.2) (a.2 * b.2) * 2), rden (rnum (a.1 * b.2 + b.1 * a.2) (a.2 * b.2) * 1) (rden (a.1 * b.2 + b.1 * a.2) (a.2 * b.2) * 2))
def midOK (a b : R2) : Prop := ¬ rfull (a.1 * b.2 + b.1 * a.2) (a.2 * b.2) ∧ ¬ rfull (rnum (a.1 * b.2 + b.1 * a.2) (a.2 * b.2) * 1) (rden (a.1 * b.2 + b.1 * a.2) (a.2 * b.2) * 2)
instance (a b : R2) : Decidable (midOK a b) := by unfold midOK; infer_instance
theorem midOK_bl {a b : R2} (h : midOK a b) : bl (smid a b).1.natAbs ≤ 65536 ∧ bl (smid a b).2.natAbs ≤ 65536 := nr_bl h.2
theorem midOK_pos {a b : R2} (h : midOK a b) (ha : 0 < a.2) (hb : 0 < b.2) : 0 < (smid a b).2 := nr_pos h.2 (Int.mul_pos (nr_pos h.1 (Int.mul_pos ha hb)) (by decide))
theorem midOK_err {a b : R2} (h : midOK a b) : rerr (rnum (a.1 * b.2 + b.1 * a.2) (a.2 * b.2) * 1) (rden (a.1 * b.2 + b.1 * a.2) (a.2 * b.2) * 2) = 0 := (nr_num h.2).2.2
def isp (cv : R2 → Int) (hv : Int) : Nat → R2 → R2 → Int → Int → Nat → List (R2 × R2)
  | 0, _, _, _, _, _ => []
  | f + 1, a, b, fr, to, d => if fr = to then [] else if fr - to = 1 ∧ hv ≤ (d : Int) then [(a, b)] else isp cv hv f a (smid a b) fr (cv (smid a b)) (d + 1) ++ isp cv hv f (smid a b) b (cv (smid a b)) to (d + 1)
def ispOK (cv : R2 → Int) (ok : R2 → Prop) (hv : Int) : Nat → R2 → R2 → Int → Int → Nat → Prop
  | 0, _, _, _, _, _ => False
  | f + 1, a, b, fr, to, d => fr = to ∨ (fr - to = 1 ∧ hv ≤ (d : Int)) ∨ (d < 1000 ∧ midOK a b ∧ ok (smid a b) ∧ ispOK cv ok hv f a (smid a b) fr (cv (smid a b)) (d + 1) ∧ ispOK cv ok hv f (smid a b) b (cv (smid a b)) to (d + 1))
instance ispDec (cv : R2 → Int) (ok : R2 → Prop) [DecidablePred ok] (hv : Int) : ∀ f a b fr to d, Decidable (ispOK cv ok hv f a b fr to d)
  | 0, _, _, _, _, _ => inferInstanceAs (Decidable False)
  | f + 1, a, b, fr, to, d => @instDecidableOr _ _ _ (@instDecidableOr _ _ _ (@instDecidableAnd _ _ _ (@instDecidableAnd _ _ _ (@instDecidableAnd _ _ _ (@instDecidableAnd _ _ (ispDec cv ok hv f a (smid a b) fr (cv (smid a b)) (d + 1)) (ispDec cv ok hv f (smid a b) b (cv (smid a b)) to (d + 1)))))))
def okQ (z : R2) : Prop := bl z.1.natAbs ≤ 65536 ∧ bl z.2.natAbs ≤ 65536 ∧ 0 < z.2
def evok (ls : List (SL × List Int)) (m : R2) : Prop := ∀ z ∈ ls, ¬ evfull z.2 m.1 m.2
def cvx (ls : List (SL × List Int)) (m : R2) : Int := chg (sgx ls (fat m.1 m.2))
end Go.Sky
namespace Go.Sky
def cvc (F : Nat) (xs : List Int) (m : R2) : Int := cnt F xs m.1 m.2
def evc (F : Nat) (xs : List Int) (m : R2) : Prop := ∀ p ∈ chn F xs, ¬ evfull p m.1 m.2
theorem cvx_eq {ls : List (SL × List Int)} {F : Nat} {xs : List Int} (h : ls.map Prod.snd = chn F xs) : cvx ls = cvc F xs := funext fun m => by
  unfold cvx cvc cnt; rw [sgx_map h]
theorem evok_eq {ls : List (SL × List Int)} {F : Nat} {xs : List Int} (h : ls.map Prod.snd = chn F xs) : evok ls = evc F xs := funext fun m => propext ⟨fun h1 p hp => by
  rw [← h] at hp
  obtain ⟨z, hz, rfl⟩ := List.mem_map.1 hp
  exact h1 z hz, fun h1 => mem_snd h h1⟩
def slow (a : R2) : R2 := (rnum a.1 a.2, rden a.1 a.2)
def sisol (F : Nat) (xs : List Int) (f : Nat) (a b : R2) (hq : Int) : List (R2 × R2) := isp (cvc F xs) hq f (slow a) (slow b) (cvc F xs a) (cvc F xs b) 0
def isOK (F : Nat) (xs : List Int) (f : Nat) (a b : R2) (hq : Int) : Prop := chOK F xs ∧ evc F xs a ∧ evc F xs b ∧ ¬ rfull a.1 a.2 ∧ ¬ rfull b.1 b.2 ∧ ispOK (cvc F xs) (evc F xs) hq f (slow a) (slow b) (cvc F xs a) (cvc F xs b) 0 ∧ (sisol F xs f a b hq).length ≤ 1000000
theorem slow_ok {a : R2} (ha : okQ a) (h : ¬ rfull a.1 a.2) : okQ (slow a) := ⟨(nr_bl h).1, (nr_bl h).2, nr_pos h ha.2.2⟩
end Go.Sky
namespace Go.Sky
theorem getD_inI {l : List Int} (h : ∀ x ∈ l, inI x) (i : Nat) : inI (l.getD i 0) := by
  rcases Nat.lt_or_ge i l.length with h1 | h1
  · exact h _ (by simp [List.getD_eq_getElem?_getD, h1])
  · simp [List.getD_eq_getElem?_getD, List.getElem?_eq_none h1, inI]
end Go.Sky
namespace Go.Sky
theorem snd_getD {ls : List (SL × List Int)} {C : List (List Int)} (h : ls.map Prod.snd = C) (i : Nat) : (ls.getD i ((none, 0, 0), [])).2 = C.getD i [] := by
  subst h
  simp only [List.getD_eq_getElem?_getD, List.getElem?_map]
  cases ls[i]? <;> rfl
theorem snd_len {ls : List (SL × List Int)} {C : List (List Int)} (h : ls.map Prod.snd = C) : ls.length = C.length := by rw [← h, List.length_map]
end Go.Sky
namespace Go.Sky
open Go.Proofs
set_option maxRecDepth 20000
set_option maxHeartbeats 4000000
set_option linter.unusedVariables false
set_option linter.unusedSimpArgs false
theorem st_fits (v : Value) (xs : List Int) (hv : Vp xs) : Cal Tryz.prog 14 #[v] [slp 2 wv v xs] false (G := Unit) (fun _ => True) (fun _ => .bool (decide (sfits xs))) (fun _ => []) := by
 refine Ye Tryz.func14 J Tryz.ntmps14 J K1 ?_
 intro w0 sc hw hsc
 simp only [Zq, Zo]
 have hlen := hv.len
 have hmz := msz_le hv.sz
 have q1 : (xs.length + 2) * (xs.length + 2) ≤ 27 * 27 := Nat.mul_le_mul (by omega) (by omega)
 have q2 : (xs.length + 2) * (xs.length + 2) * (msz xs + 16) ≤ 27 * 27 * 65552 := Nat.mul_le_mul q1 (by omega)
 have q3 : ((xs.length : Int) - 1 + 3) * ((xs.length : Int) - 1 + 3) = (((xs.length + 2) * (xs.length + 2) : Nat) : Int) := by rw [show (xs.length : Int) - 1 + 3 = ((xs.length + 2 : Nat) : Int) by omega]; push_cast; rfl
 have q4 : ((xs.length : Int) - 1 + 3) * ((xs.length : Int) - 1 + 3) * ((msz xs : Int) + 16) = (((xs.length + 2) * (xs.length + 2) * (msz xs + 16) : Nat) : Int) := by rw [q3]; push_cast; rfl
 refine Zb <|Ze <|Zm J J <|Zd <|Za <|Zb <|Zb <|Ze <|mv J J <|tt (Zh (n := 1) (poly_valid_ok _ _ (by assumption)) J J J K1 cF56 (Zg 1 J J J Zf) J hw) J fun _ _ => dt (Xx J J) J <|Zd <|Za <|Yc J <|Zk <|Za <|Zb <|Ze <|mv J J <|tt (Zh (n := 1) (poly_degree _ _ hv) J J J K1 cF57 (Zg 1 J J J Zf) J hw) J fun _ _ => mv J J <|dt (Zt J J J) J <|dt (Zt J J J) J <|Zm J J <|Zm J J <|Zd <|Za <|Zb <|Ze <|mv J J <|tt (Zh (n := 1) (poly_bits _ _ hv) J J J K1 cF58 (Zg 1 J J J Zf) J hw) J fun _ _ => mv J J <|dt (Zt J J J) J <|dt (Zt J J J) J <|Zm J J <|Zm J J <|Zd <|Za <|Zb <|Ze <|mv J J <|dt (Zy J J (i := 1) J Zi uT23) J <|dt (Xh J J J) J <|mv J J <|Xu (d := 23) J (fun s24 => ?_) (fun s24 => ?_)
 ·exact Xm J J J J J <|Xm J J J J J <|Xm J J J J J <|Xm J J J J J <|Xm J J J J J <|Xm J J J J J <|Xm J J J J J <|Xm J J J J J <|Xm J J J J J <|dt (Yp J J J) J <|Zm J J <|Zd <|Za <|Zr <|Zx (.inl J) hsc () _ (fun a w hs => Yt hs Tryz.results14 J) (by first | exact sf_t (by omega) | exact sf_i (by omega) q4) trivial J Zj
 ·exact Yr (Zw J J) J J J J <|Yr (Yl J J J ⟨by omega, by omega⟩) J J J J <|Yr (Zw J J) J J J J <|Yr (Yl J J J ⟨by omega, by omega⟩) J J J J <|Yr (d_mul J J J (by rw [q3]; exact ⟨by omega, by omega⟩)) J J J J <|Yr (Zw J J) J J J J <|Yr (Yl J J J ⟨by omega, by omega⟩) J J J J <|Yr (d_mul J J J (by rw [q4]; exact ⟨by omega, by omega⟩)) J J J J <|Yr (d_leq J J J) J J J J <|dt (Yd J J J) J <|Zm J J <|Zd <|Za <|Zr <|Zx (.inl J) hsc () _ (fun a w hs => Yt hs Tryz.results14 J) (by first | exact sf_t (by omega) | exact sf_i (by omega) q4) trivial J Zj
theorem st_check0 (v : Value) (xs : List Int) (hv : Vp xs) : Cal Tryz.prog 51 #[v, .slice none 0 0] [slp 2 wv v xs] false (G := Unit) (fun _ => True) (fun _ => .int .i64 (chk0 xs)) (fun _ => []) := by
 refine Ye Tryz.func51 J Tryz.ntmps51 J K1 ?_
 intro w0 sc hw hsc
 simp only [Zq, Zo]
 refine Yk (Qa 999 2 28 wv) <|Yk (Xa 999 J J pV) <|Zb <|Ze <|Zm J J <|Zd <|Za <|Zb <|Ze <|mv J J <|tt (Zh (n := 1) (st_fits _ _ hv) J J J K1 cF14 (Zg 1 J J J Zf) J hw) J fun _ _ => dt (d_not J J) J <|Zm J J <|Zd <|Za <|Zb <|Zb <|Ze <|mv J J <|dt (Zy J J (i := 999) J Zi uT87) J <|mv J J <|Zd <|Za <|Zv <|Qc [(0, _), (1, _), (13, _), (14, _)] [(0, _), (1, _), (999, _)] (fun (_ : Unit) => [(15, .int .i64 0), (5, .bool (decide (¬ sfits xs)))]) (fun (_ : Unit) => []) (fun (_ : Unit) => True) (fun (_ : Unit) => 0) () trivial K6 K3 ?_
 rintro _ -
 simp only [List.cons_append, List.nil_append]
 refine Zb <|Ze <|dt (Zu (r' := .bool false) (Xj J J J) (congrArg Value.bool (by decide))) J <|Zd <|Za <|Zb <|Yc J <|Yv <|Zz <|Zz <|Xz <|Za <|Zb <|Zb <|Ze <|mv J J <|tt (Zh (n := 1) (poly_valid_ok _ _ (by assumption)) J J J K1 cF56 (Zg 1 J J J Zf) J hw) J fun _ _ => dt (Xx J J) J <|Zd <|Za <|Yc J <|Zk <|Za <|Zb <|Zb <|Ze <|mv J J <|dt (Zy J J (i := 1) J Zi uT23) J <|dt (Xh J J J) J <|Zd <|Za <|Zn J (fun h39 => ?_) (fun h39 => ?_)
 ·exact Zb <|Ze <|Zm J J <|Zd <|Za <|Zr <|Yw <|Zx (.inl J) hsc () _ (fun a w hs => Yt hs Tryz.results51 J) (by unfold chk0; rw [if_pos (by omega)]) trivial J Zj
 ·refine Zk <|Za <|Zb <|Zb <|Ze <|mv J J <|dt (Zy J J (i := 999) J Zi uT87) J <|dt (Zu (r' := .bool false) (Xh J J J) (congrArg Value.bool (by decide))) J <|Zd <|Za <|Yc J <|Zk <|Za <|Zb <|Zb <|Ze <|mv J J <|Zd <|Za <|Qq J (fun h47 => ?_) (fun h47 => ?_)
  ·exact Zb <|Ze <|Zm J J <|Zd <|Za <|Zr <|Yw <|Zx (.inl J) hsc () _ (fun a w hs => Yt hs Tryz.results51 J) (by unfold chk0; rw [if_neg (by omega), if_neg (by simpa using h47)]) trivial J Zj
  ·exact Zk <|Za <|Zb <|Ze <|Zm J J <|Zd <|Za <|Zr <|Zx (.inl J) hsc () _ (fun a w hs => Yt hs Tryz.results51 J) (by unfold chk0; rw [if_neg (by omega), if_pos (by simpa using h47)]) trivial J Zj
theorem st_check2 (v : Value) (xs : List Int) (hv : Vp xs) (u : Value) (x y x2 y2 : Int) (hx : bl x.natAbs ≤ 65536) (hy : bl y.natAbs ≤ 65536) (hx2 : bl x2.natAbs ≤ 65536) (hy2 : bl y2.natAbs ≤ 65536) (hp : 0 < y) (hp2 : 0 < y2) : Cal Tryz.prog 51 #[v, u] [slp 2 wv v xs, slp 4 rq u [(x, y), (x2, y2)]] false (G := Unit) (fun _ => True) (fun _ => .int .i64 (chk2r xs x y x2 y2)) (fun _ => []) := by
 refine Ye Tryz.func51 J Tryz.ntmps51 J K2 ?_
 intro w0 sc hw hsc
 simp only [Zq, Zo]
 have hll : ([(x, y), (x2, y2)] : List (Int × Int)).length = 2 := rfl
 have hzx : ∀ i, i < 2 → bl ([(x, y), (x2, y2)].getD i (0, 0)).1.natAbs ≤ 65536 := fun i hi => by match i, hi with | 0, _ => exact hx | 1, _ => exact hx2
 have hzy : ∀ i, i < 2 → bl ([(x, y), (x2, y2)].getD i (0, 0)).2.natAbs ≤ 65536 := fun i hi => by match i, hi with | 0, _ => exact hy | 1, _ => exact hy2
 have hzp : ∀ i, i < 2 → 0 < ([(x, y), (x2, y2)].getD i (0, 0)).2 := fun i hi => by match i, hi with | 0, _ => exact hp | 1, _ => exact hp2
 refine Yk (Qa 999 2 28 wv) <|Yk (Xa 999 J J pV) <|Zb <|Ze <|Zm J J <|Zd <|Za <|Zb <|Ze <|mv J J <|tt (Zh (n := 2) (st_fits _ _ hv) J J J K1 cF14 (Zg 1 J J J Zf) J hw) J fun _ _ => dt (d_not J J) J <|Zm J J <|Zd <|Za <|Zb <|Zb <|Ze <|mv J J <|dt (Zy J J (i := 2) J Zi uT87) J <|mv J J <|Zd <|Za <|Zv <|Qc [(0, _), (1, _), (13, _), (14, _)] [(0, _), (1, _), (2, _), (999, _)] (fun (q : Nat × Bool) => [(15, .int .i64 (q.1 : Int)), (5, .bool q.2)]) (fun (q : Nat × Bool) => []) (fun (q : Nat × Bool) => (q.1 ≤ 2) ∧ (q.2 = (!decide (sfits xs) || ([(x, y), (x2, y2)].take q.1).any ef))) (fun (q : Nat × Bool) => 2 - q.1) (0, decide (¬ sfits xs)) ⟨by first | omega | (dsimp only <;> omega), by simp⟩ K6 K4 ?_
 rintro ⟨i, fl⟩ ⟨hi, hfl⟩
 dsimp only at hi hfl
 simp only [List.cons_append, List.nil_append]
 refine Zb <|Ze <|dt (Xj J J J) J <|Zd <|Za <|Zb <|Zn J (fun h30 => ?_) (fun h30 => ?_)
 ·refine Zk <|Za <|Zb <|Zv <|Zb <|Ze <|dt (Yn (ii := 2) J J J J Zi uT87 zT49 J (by first | omega | (simp only [List.length_set]; omega))) J <|dt (Ys (ii := 2) (0, 0) J J J Zi pQ (by first | omega | (simp only [List.length_set]; omega))) J <|tt (Zp (i := 3) J J J Tryz.zeroValue49 J J hw) J fun bx _ => tt (Zl (i := 3) J J J J J (by decide) J zT49 J J ⟨(Zc J), (Zc J), (Zc J), (Zc J), trivial⟩ J hw trivial) J fun _ _ => Zd <|Za <|Zb <|Zb <|Ze <|dt (Xb (i := 3) J J J iA49 zT49 J J J J) J <|tt (Zh (n := 3) (wide_validratio_ok _ _ (hzx i (by omega)) (hzy i (by omega)) (hzp i (by omega))) J J J K1 cF98 Zf J hw) J fun _ _ => dt (Xx J J) J <|Zd <|Za <|Yc J <|Zk <|Za <|Ze <|mv J J <|mv J J <|l_splitb (d := 23) J (fun s34 => ?_) (fun s34 => ?_)
  ·exact Xm J J J J J <|Xm J J J J J <|Xm J J J J J <|Xm J J J J J <|dt (Yp J J J) J <|mv J J <|Xm J J J J J <|Xm J J J J J <|Xm J J J J J <|Xm J J J J J <|dt (Yp J J J) J <|Zm J J <|Zd <|Xq <|Za <|Ze <|dt (Yl J J J ⟨by omega, by omega⟩) J <|mv J J <|Zd <|Xe (i + 1, _) ⟨by first | omega | (dsimp only <;> omega), st_fl (by omega) hfl (by first | exact ef_1 _ (by assumption) | exact ef_2 _ (by assumption) | exact ef_3 (by assumption) (by assumption))⟩ (by first | omega | (dsimp only <;> omega)) K6 K4
  ·refine Yr (Yu J J uT49 J zT28 J J) J J J J <|Yr (Yg (i := 3) J J J iA28 zT28 J J) J J J J <|gtt (Zh (n := 3) (wide_len _ (hzx i (by omega))) J J J K1 cF99 Zf J hw) J J J J fun _ _ => Yr (Xv J J J) J J J J <|dt (Yd J J J) J <|mv J J <|Xu (d := 29) J (fun s34_2 => ?_) (fun s34_2 => ?_)
   ·exact Xm J J J J J <|Xm J J J J J <|Xm J J J J J <|Xm J J J J J <|dt (Yp J J J) J <|Zm J J <|Zd <|Xq <|Za <|Ze <|dt (Yl J J J ⟨by omega, by omega⟩) J <|mv J J <|Zd <|Xe (i + 1, _) ⟨by first | omega | (dsimp only <;> omega), st_fl (by omega) hfl (by first | exact ef_1 _ (by assumption) | exact ef_2 _ (by assumption) | exact ef_3 (by assumption) (by assumption))⟩ (by first | omega | (dsimp only <;> omega)) K6 K4
   ·exact Yr (Yu J J uT49 J zT28 J J) J J J J <|Yr (Yg (i := 3) J J J iA28 zT28 J J) J J J J <|gtt (Zh (n := 3) (wide_len _ (hzy i (by omega))) J J J K1 cF99 Zf J hw) J J J J fun _ _ => Yr (Xv J J J) J J J J <|dt (Yd J J J) J <|Zm J J <|Zd <|Xq <|Za <|Ze <|dt (Yl J J J ⟨by omega, by omega⟩) J <|mv J J <|Zd <|Xe (i + 1, _) ⟨by first | omega | (dsimp only <;> omega), st_fl (by omega) hfl (by first | exact ef_1 _ (by assumption) | exact ef_2 _ (by assumption) | exact ef_3 (by assumption) (by assumption))⟩ (by first | omega | (dsimp only <;> omega)) K6 K4
 ·refine Yv <|Zz <|Zz <|Xz <|Za <|Zb <|Zb ?_
  obtain rfl : i = 2 := by omega
  refine Ze <|mv J J <|tt (Zh (n := 3) (poly_valid_ok _ _ (by assumption)) J J J K1 cF56 (Zg 1 J J J Zf) J hw) J fun _ _ => dt (Xx J J) J <|Zd <|Za <|Yc J <|Zk <|Za <|Zb <|Zb <|Ze <|mv J J <|dt (Zy J J (i := 1) J Zi uT23) J <|dt (Xh J J J) J <|Zd <|Za <|Zn J (fun h39 => ?_) (fun h39 => ?_)
  ·exact Zb <|Ze <|Zm J J <|Zd <|Za <|Zr <|Yw <|Zx (.inl J) hsc () _ (fun a w hs => Yt hs Tryz.results51 J) (by unfold chk2r; rw [if_pos (by omega)]) trivial J Zj
  ·refine Zk <|Za <|Zb <|Zb <|Ze <|mv J J <|dt (Zy J J (i := 2) J Zi uT87) J <|dt (Zu (r' := .bool true) (Xh J J J) (congrArg Value.bool (decide_eq_true J))) J <|Zd <|Za <|Ql J <|Zb <|Xd (fun _ => False) [(0, 0), (1, 0), (2, 0), (3, 0), (4, 0), (5, 0), (6, 1), (7, 0), (8, 0), (9, 0), (10, 0), (11, 3)] (by kernel_rfl) ?_ ?_
   ·kernel_rfl
   refine r0' J J J J (st0 (Zw J J)) <|r0' J J J J (st0 (Yn (ii := 2) J J J J Zi uT87 zT49 J (by first | omega | (simp only [List.length_set]; omega)))) <|r0' J J J J (st0 (Ys (ii := 2) (0, 0) J J J Zi pQ (by first | omega | (simp only [List.length_set]; omega)))) <|r0' J J J J (st0 (Zw J J)) <|r0' J J J J (st0 (Yn (ii := 2) J J J J Zi uT87 zT49 J (by first | omega | (simp only [List.length_set]; omega)))) <|r0' J J J J (st0 (Ys (ii := 2) (0, 0) J J J Zi pQ (by first | omega | (simp only [List.length_set]; omega)))) <|r1' J J (Zh (n := 3) (wide_compareratio _ _ _ _ hx hy hx2 hy2 hp hp2) J J J K2 cF100 Zf J hw) fun _ _ => r0' J J J J (st0 (Zw J J)) <|r0' J J J J (st0 (Zt J J J)) <|r0' J J J J (st0 (Zt J J J)) <|r0' J J J J (st0 (Qb J J)) <|r3' J J (Xw (Qb J J) J J) fun _ _ => Xo <|Za <|Zb <|Ze <|mv J J <|dt (Xv J J J) J <|Zd <|Za <|Zn J (fun h43 => ?_) (fun h43 => ?_)
   ·exact Zb <|Ze <|Zm J J <|Zd <|Za <|Zr <|Yw <|Zx (.inl J) hsc () _ (fun a w hs => Yt hs Tryz.results51 J) (by unfold chk2r; rw [if_neg (by omega), if_pos (int_sign_pos (by omega))]) trivial J Zj
   ·refine Zk <|Za <|Zb <|Zb <|Ze <|mv J J <|Zd <|Za <|Qq J (fun h47 => ?_) (fun h47 => ?_)
    ·exact Zb <|Ze <|Zm J J <|Zd <|Za <|Zr <|Yw <|Zx (.inl J) hsc () _ (fun a w hs => Yt hs Tryz.results51 J) (by unfold chk2r; rw [if_neg (by omega), if_neg (fun h => by have := int_pos_sign h; omega), if_neg (st_flt (h47 ▸ hfl))]) trivial J Zj
    ·exact Zk <|Za <|Zb <|Ze <|Zm J J <|Zd <|Za <|Zr <|Zx (.inl J) hsc () _ (fun a w hs => Yt hs Tryz.results51 J) (by unfold chk2r; rw [if_neg (by omega), if_neg (fun h => by have := int_pos_sign h; omega), if_pos (st_flf (h47 ▸ hfl))]) trivial J Zj
theorem st_positive (v : Value) (xs : List Int) (hv : Vp xs) (h0 : xs ≠ []) : Cal Tryz.prog 64 #[v] [slp 2 wv v xs] true (G := Value) (fun r => True) (fun r => .tuple #[r, .int .i64 0]) (fun r => [slp 2 wv r (nrm xs)]) := by
 refine Ye Tryz.func64 J Tryz.ntmps64 J K1 ?_
 intro w0 sc hw hsc
 simp only [Zq, Zo]
 have hvp := vp_pprim hv
 have hl0 := List.length_pos_iff.2 h0
 have hlp := length_pprim xs
 have hlen := hv.len
 refine Zb <|Ze <|Zm J J <|Zm J J <|Zd <|Za <|Zb <|Ze <|mv J J <|tt (Zh (n := 2) (poly_primitive _ _ hv) J J J K1 cF68 (Zg 1 J J J Zf) J hw) J fun _ _ => mv J J <|dt (Zt J J J) J <|dt (Zt J J J) J <|Zm J J <|Zm J J <|Zd <|Za <|Zb <|Zb <|Ze <|mv J J <|dt (Zu (r' := .bool true) (Xh J J J) (congrArg Value.bool (by decide))) J <|mv J J <|Yr (Zw J J) J J J J <|Yr (Zw J J) J J J J <|Yr (Zy J J (i := 2) J Zi uT23) J J J J <|Yr (Yz J J J ⟨by omega, by omega⟩) J J J J <|Yr (Yn (ii := 2) (i := ((pprim xs).length - 1)) J J J J Zi uT23 zT28 (by omega) (by omega)) J J J J <|Yr (Ys (ii := 2) 0 J J J Zi pV (by first | omega | (simp only [List.length_set]; omega))) J J J J <|gtt (Zh (n := 2) (wide_sign _ (hvp.sz _)) J J J K1 cF80 Zf J hw) J J J J fun _ _ => Yr (Xj J J J) J J J J <|dt (Yp J J J) J <|Zd <|Za <|Zn J (fun h56 => ?_) (fun h56 => ?_)
 ·exact Zb <|Ze <|mv J J <|tt (Zh (n := 2) (wide_of_int _ ⟨by decide, by decide⟩) J J J K1 cF55 Zf J hw) J fun _ _ => tt (Zh (n := 3) (poly_scale _ _ _ hvp (by decide +kernel) (fun i => bl_negm hvp.sz i)) J J J K2 cF113 (Zg 2 J J J Zf) J hw) J fun _ _ => dt (Zt J J J) J <|dt (Zt J J J) J <|Zm J J <|Zm J J <|Zd <|Za <|Zr <|Yw <|Zx (.inl J) hsc _ _ (fun a w hs => Xn hs Tryz.results64 J J) J trivial J (Yj 3 J J J (by rw [nrm_neg (by omega) ((sign_neg_iff _).1 (by assumption))] <;> rfl) Zj)
 ·exact Zk <|Za <|Zb <|Ze <|mv J J <|mv J J <|Zm J J <|Zm J J <|Zd <|Za <|Zr <|Zx (.inl J) hsc _ _ (fun a w hs => Xn hs Tryz.results64 J J) J trivial J (Yj 2 J J J (by rw [nrm_pos (fun h => by have h2 := (sign_neg_iff _).2 h; exact absurd h2 (by assumption))] <;> rfl) Zj)
theorem st_sqf (v : Value) (xs : List Int) (hv : Vp xs) (h0 : xs ≠ []) (hf : sfits xs) (F : Nat) (hS : sqOK F xs) : Cal Tryz.prog 19 #[v] [slp 2 wv v xs] true (G := Value) (fun r => True) (fun r => .tuple #[r, .int .i64 0]) (fun r => [slp 2 wv r (sqf F xs)]) := by
 refine Ye Tryz.func19 J Tryz.ntmps19 J K1 ?_
 intro w0 sc hw hsc
 simp only [Zq, Zo]
 obtain ⟨hS1, hS2, hS3, hS4, hS5⟩ := hS
 have hvn := vp_nrm hv
 have hln := length_nrm hv.tr
 have hvd : Vp (pder (nrm xs)) := vp_pder hvn (fun i hi => hS1 i (by omega))
 have hvg := vp_pgcd hvn hvd hS3
 have hc0 := chk0_ok h0 hf
 refine Yk (Qa 999 2 28 wv) <|Yk (Xa 999 J J pV) <|Zb <|Ze <|Zm J J <|Zm J J <|Zd <|Za <|Zb <|Zb <|Ze <|mv J J <|tt (Zh (n := 1) (st_check0 _ _ hv) J J J K2 cF51 (Zg 1 J J J Zf) J hw) J fun _ _ => Zm J J <|Zd <|Za <|Zb <|Ze <|mv J J <|dt (Ym J J J) J <|Zd <|Za <|Zn J (fun h64 => ?_) (fun h64 => ?_)
 ·exfalso; omega
 ·refine Zk <|Za <|Zb <|Ze <|mv J J <|tt (Zh (n := 2) (st_positive _ _ hv h0) J J J K1 cF64 (Zg 1 J J J Zf) J hw) J fun _ _ => mv J J <|dt (Zt J J J) J <|dt (Zt J J J) J <|Zm J J <|Zm J J <|Zd <|Za <|Zb <|Zb <|Ze <|mv J J <|dt (Zu (r' := .bool false) (Ym J J J) (congrArg Value.bool (by decide))) J <|Zd <|Za <|Yc J <|Zk <|Za <|Zb <|Ze <|mv J J <|tt (Zh (n := 3) (poly_derive _ _ hvn (fun i => by by_cases hi : i < xs.length; exact hS1 i hi; rw [cf_ge (by omega)]; simp [bl_zero])) J J J K1 cF65 (Zg 2 J J J Zf) J hw) J fun _ _ => mv J J <|dt (Zt J J J) J <|dt (Zt J J J) J <|Zm J J <|Zm J J <|Zd <|Za <|Zb <|Zb <|Ze <|mv J J <|dt (Zu (r' := .bool false) (Ym J J J) (congrArg Value.bool (by decide))) J <|Zd <|Za <|Yc J <|Zk <|Za <|Zb <|Ze <|mv J J <|mv J J <|tt (Zh (n := 4) (poly_gcd _ _ _ _ hvn hvd F hS2 hS3) J J J K2 cF66 (Zg 2 J J J (Zg 3 J J J Zf)) J hw) J fun _ _ => mv J J <|dt (Zt J J J) J <|dt (Zt J J J) J <|Zm J J <|Zm J J <|Zd <|Za <|Zb <|Zb <|Ze <|mv J J <|dt (Zu (r' := .bool false) (Ym J J J) (congrArg Value.bool (by decide))) J <|Zd <|Za <|Yc J <|Zk <|Za <|Zb <|Ze <|mv J J <|mv J J ?_
  exact tt (Zh (n := 5) (poly_divide _ _ _ _ hvn hvg hS4) J J J K2 cF67 (Zg 2 J J J (Zg 4 J J J Zf)) J hw) J fun _ _ => dt (Zt J J J) J <|dt (Zt J J J) J <|Zm J J <|Zm J J <|Zd <|Za <|Zr <|Zx (.inl J) hsc _ _ (fun a w hs => Xn hs Tryz.results19 J J) (by rw [if_pos hS5] <;> rfl) trivial J (Yj 5 J J J (by rw [if_pos hS5] <;> rfl) Zj)
end Go.Sky
namespace Go.Sky
open Go.Proofs
set_option maxRecDepth 20000
set_option maxHeartbeats 4000000
set_option linter.unusedVariables false
set_option linter.unusedSimpArgs false
theorem st_next (v u : Value) (xs ys : List Int) (hv : Vp xs) (hu : Vp ys) (h0 : ys ≠ []) (hd : derr xs ys = 0) (hl : ys.length ≤ xs.length) : Cal Tryz.prog 69 #[v, u] [slp 2 wv v xs, slp 2 wv u ys] true (G := Value) (fun r => True) (fun r => .tuple #[r, .int .i64 0]) (fun r => [slp 2 wv r (snext xs ys)]) := by
 refine Ye Tryz.func69 J Tryz.ntmps69 J K2 ?_
 intro w0 sc hw hsc
 simp only [Zq, Zo]
 have hvr := vp_prest hv hd
 have hvp := vp_pprim hvr
 have hlen := hv.len
 have hlen2 := hu.len
 have hl0 := List.length_pos_iff.2 h0
 refine Yk (Qa 999 2 28 wv) <|Yk (Xa 999 J J pV) <|Zb <|Ze <|Zm J J <|Zm J J <|Zd <|Za <|Zb <|Ze <|mv J J <|mv J J <|tt (Zh (n := 3) (poly_rest _ _ _ _ hv hu hd) J J J K2 cF116 (Zg 1 J J J (Zg 2 J J J Zf)) J hw) J fun _ _ => mv J J <|dt (Zt J J J) J <|dt (Zt J J J) J <|Zm J J <|Zm J J <|Zd <|Za <|Zb <|Zb <|Ze <|mv J J <|dt (Zu (r' := .bool false) (Ym J J J) (congrArg Value.bool (by decide))) J <|mv J J <|Yr (Zw J J) J J J J <|Yr (Zy J J (i := 3) J Zi uT23) J J J J <|Yr (Xh J J J) J J J J <|dt (Yd J J J) J <|Zd <|Za <|Zn J (fun h85 => ?_) (fun h85 => ?_)
 ·exact Zb <|Ze <|mv J J <|Zm J J <|Zm J J <|Zd <|Za <|Zr <|Yw <|Zx (.inl J) hsc (.slice none 0 0) _ (fun a w hs => Xn hs Tryz.results69 J J) J trivial J (give_none (snext_nil (by omega)) Zj)
 ·refine Zk <|Za <|Zb <|Ze <|mv J J <|tt (Zh (n := 4) (poly_primitive _ _ hvr) J J J K1 cF68 (Zg 3 J J J Zf) J hw) J fun _ _ => mv J J <|dt (Zt J J J) J <|dt (Zt J J J) J <|Zm J J <|Zm J J <|Zd <|Za <|Zb <|Zb <|Ze <|mv J J <|dt (Zu (r' := .bool false) (Ym J J J) (congrArg Value.bool (by decide))) J <|Zd <|Za <|Yc J <|Zk <|Za <|Zb <|Ze <|mv J J <|dt (Zy J J (i := 1) J Zi uT23) J <|mv J J <|dt (Zy J J (i := 2) J Zi uT23) J <|dt (Yz J J J ⟨by omega, by omega⟩) J <|dt (Yl J J J ⟨by omega, by omega⟩) J <|Zm J J <|Zd <|Za <|Zb <|Zb <|Ze <|mv J J <|mv J J <|dt (Zy J J (i := 2) J Zi uT23) J <|dt (Yz J J J ⟨by omega, by omega⟩) J <|dt (Yn (ii := 2) (i := (ys.length - 1)) J J J J Zi uT23 zT28 (by omega) (by omega)) J <|dt (Ys (ii := 2) 0 J J J Zi pV (by first | omega | (simp only [List.length_set]; omega))) J <|tt (Zh (n := 4) (wide_sign _ (hu.sz _)) J J J K1 cF80 Zf J hw) J fun _ _ => dt (Xj J J J) J <|mv J J <|Xu (d := 45) J (fun s94 => ?_) (fun s94 => ?_)
  ·refine Yr (Zw J J) J J J J <|Yr (d_rem J J J (by omega) (by omega)) J J J J <|Yr (Xh J J J) J J J J <|dt (Yp J J J) J <|Zd <|Za <|Zn J (fun h94 => ?_) (fun h94 => ?_)
   ·exact Zb <|Ze <|mv J J <|Zm J J <|Zm J J <|Zd <|Za <|Zr <|Yw <|Zx (.inl J) hsc _ _ (fun a w hs => Xn hs Tryz.results69 J J) J trivial J (Yj 4 J J J (by rw [snext_a hl (by assumption) (by assumption)] <;> rfl) Zj)
   ·exact Zk <|Za <|Zb <|Ze <|mv J J <|tt (Zh (n := 4) (wide_of_int _ ⟨by decide, by decide⟩) J J J K1 cF55 Zf J hw) J fun _ _ => tt (Zh (n := 5) (poly_scale _ _ _ hvp (by decide +kernel) (fun i => bl_negm hvp.sz i)) J J J K2 cF113 (Zg 4 J J J Zf) J hw) J fun _ _ => dt (Zt J J J) J <|dt (Zt J J J) J <|Zm J J <|Zm J J <|Zd <|Za <|Zr <|Zx (.inl J) hsc _ _ (fun a w hs => Xn hs Tryz.results69 J J) J trivial J (Yj 5 J J J (by first | (rw [snext_b (by assumption)] <;> rfl) | (rw [snext_c hl (by assumption)] <;> rfl)) Zj)
  ·exact Xm J J J J J <|Xm J J J J J <|Xm J J J J J <|dt (Yd J J J) J <|Zd <|Za <|Yc J <|Zk <|Za <|Zb <|Ze <|mv J J <|tt (Zh (n := 5) (wide_of_int _ ⟨by decide, by decide⟩) J J J K1 cF55 Zf J hw) J fun _ _ => tt (Zh (n := 6) (poly_scale _ _ _ hvp (by decide +kernel) (fun i => bl_negm hvp.sz i)) J J J K2 cF113 (Zg 4 J J J Zf) J hw) J fun _ _ => dt (Zt J J J) J <|dt (Zt J J J) J <|Zm J J <|Zm J J <|Zd <|Za <|Zr <|Zx (.inl J) hsc _ _ (fun a w hs => Xn hs Tryz.results69 J J) J trivial J (Yj 6 J J J (by first | (rw [snext_b (by assumption)] <;> rfl) | (rw [snext_c hl (by assumption)] <;> rfl)) Zj)
theorem st_chain (v : Value) (xs : List Int) (hv : Vp xs) (h0 : xs ≠ []) (hf : sfits xs) (F : Nat) (hC : chOK F xs) : Cal Tryz.prog 20 #[v] [slp 2 wv v xs] true (G := Value × List (SL × List Int)) (fun r => r.2.map Prod.snd = chn F xs) (fun r => .tuple #[r.1, .int .i64 0]) (fun r => [deep 1 encS qZ r.1 r.2]) := by
 refine Ye Tryz.func20 J Tryz.ntmps20 J K1 ?_
 intro w0 sc hw hsc
 simp only [Zq, Zo]
 obtain ⟨hC1, hC2, hC3⟩ := hC
 have hvq := vp_sqf hv h0 hC1
 have hlq := length_sqf hv hC1
 have hvqd : Vp (pder (sqf F xs)) := vp_pder hvq (fun i hi => hC2 i (by omega))
 refine Yk (Qa 999 2 28 wv) <|Yk (Xa 999 J J pV) <|Zb <|Ze <|Zm J J <|Zm J J <|Zd <|Za <|Zb <|Ze <|mv J J <|tt (Zh (n := 2) (st_sqf _ _ hv h0 hf F hC1) J J J K1 cF19 (Zg 1 J J J Zf) J hw) J fun _ _ => mv J J <|dt (Zt J J J) J <|dt (Zt J J J) J <|Zm J J <|Zm J J <|Zd <|Za <|Zb <|Zb <|Ze <|mv J J <|dt (Zu (r' := .bool false) (Ym J J J) (congrArg Value.bool (by decide))) J <|Zd <|Za <|Yc J <|Zk <|Za <|Zb <|Ze <|mv J J <|tt (Zh (n := 3) (poly_derive _ _ hvq (fun i => by by_cases hi : i < xs.length; exact hC2 i hi; rw [cf_ge (by omega)]; simp [bl_zero])) J J J K1 cF65 (Zg 2 J J J Zf) J hw) J fun _ _ => mv J J <|dt (Zt J J J) J <|dt (Zt J J J) J <|Zm J J <|Zm J J <|Zd <|Za <|Zb <|Zb <|Ze <|mv J J <|dt (Zu (r' := .bool true) (Xh J J J) (congrArg Value.bool (by decide))) J <|Zd <|Za <|Ql J <|Ze <|mv J J <|tt (Zh (n := 80) (poly_primitive _ _ hvqd) J J J K1 cF68 (Zg 3 J J J Zf) J hw) J fun _ _ => mv J J <|dt (Zt J J J) J <|dt (Zt J J J) J <|Zm J J <|Zm J J <|Zd <|Za <|Zb <|Zb <|Ze <|mv J J <|dt (Zu (r' := .bool false) (Ym J J J) (congrArg Value.bool (by decide))) J <|Zd <|Za <|Yc J <|Zk <|Za <|Zb ?_
 refine e_ex (Qh 2 J Zi) (fun ss hss => ?_)
 subst hss
 refine Yk (Qk qZ 71) <|Yk (Xp (q := qZ) (z := (ss, sqf F xs)) 71 2 71 J J J J J) <|e_ex (Qh 80 J Zi) (fun sd0 hsd => ?_)
 subst hsd
 refine Ze <|mv J J <|tt (Xf (i := 70) (ivs := [(0, _)]) (enc := encS) [(ss, sqf F xs)] J J J K2 uT44 Tryz.ti23 J J J J J J pS.cells J J hw) J fun v _ => Zm J J <|Zd <|Za <|Zb <|Zv <|Qc [] [(0, _), (1, _), (999, _), (2, _), (3, _)] (fun (q : List (SL × List Int) × SL × List Int × SL × List Int × Nat × Value) => [(7, q.2.2.2.2.2.2), (6, svv q.2.2.2.1)]) (fun (q : List (SL × List Int) × SL × List Int × SL × List Int × Nat × Value) => [(70, osl 1 23 encS q.2.2.2.2.2.2 (q.1 ++ [(q.2.1, q.2.2.1)])), (71, many qZ (q.1 ++ [(q.2.1, q.2.2.1)])), (80, slp 2 wv (svv q.2.2.2.1) q.2.2.2.2.1)]) (fun (q : List (SL × List Int) × SL × List Int × SL × List Int × Nat × Value) => (Vp q.2.2.1) ∧ (Vp q.2.2.2.2.1) ∧ (cok q.2.2.2.2.2.1 q.2.2.1 q.2.2.2.2.1) ∧ (q.1.map Prod.snd ++ schain q.2.2.2.2.2.1 q.2.2.1 q.2.2.2.2.1 = chn F xs) ∧ (q.1.length + q.2.2.2.2.1.length ≤ 25)) (fun (q : List (SL × List Int) × SL × List Int × SL × List Int × Nat × Value) => q.2.2.2.2.1.length) ([], ss, sqf F xs, sd0, pprim (pder (sqf F xs)), F, _) ⟨hvq, vp_pprim hvqd, hC3, J, by rw [length_pprim]; simp; have := hvqd.len; omega⟩ K2 K8 ?_
 rintro ⟨ws, sx, x, sd, y, f, vo⟩ ⟨hvx, hvy, hck, hch, hwl⟩
 dsimp only at hvx hvy hck hch hwl
 simp only [List.cons_append, List.nil_append]
 refine Zb <|Zb <|Ze <|mv J J <|dt (Zy J J (i := 80) J Zi uT23) J <|dt (Xv J J J) J <|Zd <|Za <|Zn J (fun h114 => ?_) (fun h114 => ?_)
 ·have hy0 : y ≠ [] := fun e => by rw [e] at h114; simp at h114
  obtain ⟨f0, rfl, hd, hle, hck2, hsc2⟩ := cok_step hck hy0
  refine Zk <|Za <|Zv <|Zb <|Ze <|mv J J <|mv J J <|tt (Xf (i := 4) (ivs := [(0, _)]) (enc := encS) [(sd, y)] J J J K2 uT44 Tryz.ti23 J J J J J J pS.cells J J hw) J fun v_2 _ => tt (t_appa (i := 70) (j := 4) (by_ := 24) J J J J J J (by decide) J (Yi pS) uT44 Tryz.ti23 J pS J J J (by simp; omega) (by decide) J hw) J fun v_3 _ => Zm J J <|Zd <|Za <|Zb ?_
  have hll : (ws ++ [(sx, x)] ++ [(sd, y)]).length = ws.length + 2 := by simp
  refine Yk (Xp (q := qZ) (z := (sd, y)) 71 80 71 J J J J J) <|Yk (s_many (q := qZ) 71 92 (sx, x) J J (by simp) J) <|Ze <|mv J J <|mv J J <|dt (Zy J J (i := 70) J (Yi pS) uT44) J <|dt (Yz J J J ⟨by omega, by omega⟩) J <|dt (Yn (ii := 70) (i := ws.length) J J J J (Yi pS) uT44 zT23 (by omega) (by omega)) J <|dt (Zu (r' := svv sx) (Ys (ii := 70) Z0 J J J (Yi pS) pS (by omega)) (by simp [List.getD_eq_getElem?_getD])) J ?_
  refine mv J J <|tt (Zh (n := 80) (st_next _ _ _ _ hvx hvy hy0 hd hle) J J J K2 cF69 (Zg 92 J J J (Zg 80 J J J Zf)) J hw) J fun _ _ => l_ex (Qh 80 J Zi) (fun sn hsn => ?_)
  subst hsn
  exact mv J J <|dt (Zt J J J) J <|dt (Zt J J J) J <|Zm J J <|Zm J J <|Zd <|Za <|Zb <|Ze <|mv J J <|dt (Zu (r' := .bool false) (Ym J J J) (congrArg Value.bool (by decide))) J <|Zd <|Za <|Yc J <|Zk <|Xq <|Xe (ws ++ [(sx, x)], sd, y, sn, snext x y, f0, _) ⟨hvy, vp_snext hvx hd, hck2, by rw [← hch, hsc2]; simp, by have h7 := length_prest_lt x hy0; have h8 := length_snext (y := y) hvx.tr; simp; omega⟩ (by have h7 := length_prest_lt x hy0; have h8 := length_snext (y := y) hvx.tr; dsimp only; omega) K2 K8
 ·refine Yv <|Zz <|Zz <|Xz <|Za <|Zb ?_
  obtain rfl : y = [] := List.eq_nil_of_length_eq_zero (by omega)
  exact Yk (Xa 70 J J pS) <|Yk (Qu 70 71 72 J J J J) <|Ze <|mv J J <|Zm J J <|Zm J J <|Zd <|Za <|Zr <|Zx (.inl J) hsc (_, ws ++ [(sx, x)]) _ (fun a w hs => Xn hs Tryz.results20 J J) J (by rw [← hch, schain_nil]; simp) J (Qf 72 J J J Zj)
end Go.Sky
namespace Go.Sky
open Go.Proofs
set_option maxRecDepth 20000
set_option maxHeartbeats 4000000
set_option linter.unusedVariables false
set_option linter.unusedSimpArgs false
theorem st_at1 (v : Value) (br : Nat) (xs : List Int) (x y : Int) (hx : bl x.natAbs ≤ 65536) (hy : bl y.natAbs ≤ 65536) (hp : 0 < y) (hv : Vp xs) (hE : ¬ evfull xs x y) : Cal Tryz.prog 126 #[v, .pointer (some ⟨br, 0, none⟩)] [slp 2 wv v xs, rbox br 49 #[.bool (decide (x < 0)), .string (bstr x.natAbs), .bool (decide (y < 0)), .string (bstr y.natAbs)]] false (G := Unit) (fun _ => True) (fun _ => .tuple #[.int .i64 (fat x y xs), .int .i64 0]) (fun _ => []) := by
 refine Ye Tryz.func126 J Tryz.ntmps126 J K2 ?_
 intro w0 sc hw hsc
 simp only [Zq, Zo]
 exact Zb <|Ze <|Zm J J <|Zm J J <|Zd <|Za <|Zb <|Ze <|mv J J <|dt (d_lr4 (i := 2) J J J iA49 zT49 J J J J) J <|tt (Zh (n := 2) (poly_signat _ _ _ _ hv hx hy hp) J J J K2 cF127 (Zg 1 J J J Zf) J hw) J fun _ _ => dt (Zt J J J) J <|dt (Zt J J J) J <|Zm J J <|Zm J J <|Zd <|Za <|Zr <|Zx (.inl J) hsc () _ (fun a w hs => Xn hs Tryz.results126 J J) (by unfold fat; rw [show evv xs x y = pev xs x y from if_neg hE, show eve xs x y = 0 from if_neg hE] <;> rfl) trivial J Zj
theorem st_tot1 (v : Value) (xs : List Int) (hv : Vp xs) (h0 : xs ≠ []) : Cal Tryz.prog 79 #[v] [slp 2 wv v xs] false (G := Unit) (fun _ => True) (fun _ => .tuple #[.int .i64 (fr xs), .int .i64 0]) (fun _ => []) := by
 refine Ye Tryz.func79 J Tryz.ntmps79 J K1 ?_
 intro w0 sc hw hsc
 simp only [Zq, Zo]
 have hlen := hv.len
 have hl0 := List.length_pos_iff.2 h0
 exact Zb <|Ze <|Zm J J <|Zm J J <|Zd <|Za <|Zb <|Ze <|mv J J <|mv J J <|dt (Zy J J (i := 1) J Zi uT23) J <|dt (Yz J J J ⟨by omega, by omega⟩) J <|dt (Yn (ii := 1) (i := (xs.length - 1)) J J J J Zi uT23 zT28 (by omega) (by omega)) J <|dt (Ys (ii := 1) 0 J J J Zi pV (by first | omega | (simp only [List.length_set]; omega))) J <|tt (Zh (n := 1) (wide_sign _ (hv.sz _)) J J J K1 cF80 Zf J hw) J fun _ _ => Zm J J <|Zm J J <|Zd <|Za <|Zr <|Zx (.inl J) hsc () _ (fun a w hs => Xn hs Tryz.results79 J J) J trivial J Zj
theorem st_tot2 (v : Value) (xs : List Int) (hv : Vp xs) (h0 : xs ≠ []) : Cal Tryz.prog 81 #[v] [slp 2 wv v xs] false (G := Unit) (fun _ => True) (fun _ => .tuple #[.int .i64 (fl xs), .int .i64 0]) (fun _ => []) := by
 refine Ye Tryz.func81 J Tryz.ntmps81 J K1 ?_
 intro w0 sc hw hsc
 simp only [Zq, Zo]
 have hlen := hv.len
 have hl0 := List.length_pos_iff.2 h0
 have hsr := sg_range (cf xs (xs.length - 1))
 refine Zb <|Ze <|Zm J J <|Zm J J <|Zd <|Za <|Zb <|Ze <|mv J J <|mv J J <|dt (Zy J J (i := 1) J Zi uT23) J <|dt (Yz J J J ⟨by omega, by omega⟩) J <|dt (Yn (ii := 1) (i := (xs.length - 1)) J J J J Zi uT23 zT28 (by omega) (by omega)) J <|dt (Ys (ii := 1) 0 J J J Zi pV (by first | omega | (simp only [List.length_set]; omega))) J <|tt (Zh (n := 1) (wide_sign _ (hv.sz _)) J J J K1 cF80 Zf J hw) J fun _ _ => Zm J J <|Zd <|Za <|Zb <|Zb <|Ze <|mv J J <|dt (Zy J J (i := 1) J Zi uT23) J <|dt (d_rem J J J (by omega) (by omega)) J <|dt (Xh J J J) J <|Zd <|Za <|Zn J (fun h176 => ?_) (fun h176 => ?_)
 ·exact Ze <|mv J J <|dt (d_negi J J ⟨by show _ ≤ -(cf xs (xs.length - 1)).sign; omega, by show -(cf xs (xs.length - 1)).sign ≤ _; omega⟩) J <|Zm J J <|Zd <|Za <|Zb <|Ze <|mv J J <|Zm J J <|Zm J J <|Zd <|Za <|Zr <|Zx (.inl J) hsc () _ (fun a w hs => Xn hs Tryz.results81 J J) (by unfold fl; first | (rw [if_pos (by omega)] <;> rfl) | (rw [if_neg (by omega)] <;> rfl)) trivial J Zj
 ·exact Zk <|Za <|Zb <|Ze <|mv J J <|Zm J J <|Zm J J <|Zd <|Za <|Zr <|Zx (.inl J) hsc () _ (fun a w hs => Xn hs Tryz.results81 J J) (by unfold fl; first | (rw [if_pos (by omega)] <;> rfl) | (rw [if_neg (by omega)] <;> rfl)) trivial J Zj
theorem st_chg_at (v : Value) (ls : List (SL × List Int)) (br : Nat) (hvp : ∀ z ∈ ls, Vp z.2) (x y : Int) (hx : bl x.natAbs ≤ 65536) (hy : bl y.natAbs ≤ 65536) (hp : 0 < y) (hE : ∀ z ∈ ls, ¬ evfull z.2 x y) : Cal Tryz.prog 78 #[v, .func (.func 126) #[] #[.pointer (some ⟨br, 0, none⟩)]] [deep 1 encS qZ v ls, rbox br 49 #[.bool (decide (x < 0)), .string (bstr x.natAbs), .bool (decide (y < 0)), .string (bstr y.natAbs)]] false (G := Unit) (fun _ => True) (fun _ => .tuple #[.int .i64 (chg (sgx ls (fat x y))), .int .i64 0]) (fun _ => []) := by
 refine Ye Tryz.func78 J Tryz.ntmps78 J K2 ?_
 intro w0 sc hw hsc
 simp only [Zq, Zo]
 refine Qn (f_len (i := 1) J Xc) (fun hlen => ?_)
 have hLl := length_sgx ls (fat x y)
 have hLg := fun i (h : i < ls.length) => sgx_getD ls (fat x y) h
 refine Zb <|Ze <|Zm J J <|Zm J J <|Zd <|Za <|Zb <|Ze <|Zm J J <|Zm J J <|Zd <|Za <|Zb <|Zb <|Ze <|mv J J <|dt (Zy J J (i := 1) J Xc uT107) J <|mv J J <|Zd <|Za <|Zv <|Qc [(1, _), (12, _), (13, _)] [(0, _), (1, _), (2, _)] (fun (q : Nat × Int × Int) => [(14, .int .i64 (q.1 : Int)), (6, .int .i64 q.2.1), (7, .int .i64 q.2.2)]) (fun (q : Nat × Int × Int) => []) (fun (q : Nat × Int × Int) => (q.1 ≤ ls.length) ∧ ((q.2.1, q.2.2) = ((sgx ls (fat x y)).take q.1).foldl chg1 (0, 0)) ∧ (0 ≤ q.2.1) ∧ (q.2.1 ≤ (q.1 : Int)) ∧ (-1 ≤ q.2.2) ∧ (q.2.2 ≤ 1)) (fun (q : Nat × Int × Int) => ls.length - q.1) (0, 0, 0) ⟨by first | omega | (dsimp only <;> omega), by simp, by first | omega | (dsimp only <;> omega), by first | omega | (dsimp only <;> omega), by first | omega | (dsimp only <;> omega), by first | omega | (dsimp only <;> omega)⟩ K6 K3 ?_
 rintro ⟨i, n, l⟩ ⟨hi, hc, hn0, hn1, hl0, hl1⟩
 dsimp only at hi hc hn0 hn1 hl0 hl1
 simp only [List.cons_append, List.nil_append]
 have hfr := fat_r x y (ls.getD i Z0).2
 refine Zb <|Ze <|dt (Xj J J J) J <|Zd <|Za <|Zb <|Zn J (fun h129 => ?_) (fun h129 => ?_)
 ·refine Zk <|Za <|Zb <|Zv <|Zb <|Ze <|dt (Yn (ii := 1) J J J J Xc uT107 zT23 J (by first | omega | (simp only [List.length_set]; omega))) J <|dt (Ys (ii := 1) Z0 J J J Xc pS (by first | omega | (simp only [List.length_set]; omega))) J <|Zm J J <|Zd <|Za <|Zb <|Yk (s_deep 1 91 (ls.getD i Z0) J J (getD_mem (by omega)) J) <|Ze <|mv J J <|mv J J <|tt (t_callc (n := 2) (fs := []) (vs := [_]) (us := [_]) (st_at1 _ _ _ _ _ hx hy hp (hvp (ls.getD i Z0) (getD_mem (by omega))) (hE (ls.getD i Z0) (getD_mem (by omega)))) J J J J K1 cF126 (Zg 91 J J J (Zg 2 J J J Zf)) J hw) J fun _ _ => mv J J <|dt (Zt J J J) J <|dt (Zt J J J) J <|Zm J J <|Zm J J <|Zd <|Za <|Zb <|Zb <|Ze <|mv J J <|dt (Zu (r' := .bool false) (Ym J J J) (congrArg Value.bool (by decide))) J <|Zd <|Za <|Yc J <|Zk <|Za <|Zb <|Ze <|mv J J <|dt (Ym J J J) J <|Zd <|Za <|Zn J (fun h134 => ?_) (fun h134 => ?_)
  ·refine Zb <|Zb <|Ze <|mv J J <|mv J J <|dt (d_negi J J ⟨by omega, by omega⟩) J <|dt (Xh J J J) J <|Zd <|Za <|Zn J (fun h135 => ?_) (fun h135 => ?_)
   ·exact Ze <|mv J J <|dt (Yl J J J ⟨by omega, by omega⟩) J <|Zm J J <|Zd <|Za <|Ze <|mv J J <|Zm J J <|Zd <|Xq <|Za <|Ze <|dt (Yl J J J ⟨by omega, by omega⟩) J <|mv J J <|Zd <|Xe (i + 1, _, _) ⟨by first | omega | (dsimp only <;> omega), by first | exact chg_0 (by omega) hc (hLg i (by omega)) (Decidable.byContradiction (by assumption)) | exact chg_a (by omega) hc (hLg i (by omega)) (by assumption) (by assumption) | exact chg_b (by omega) hc (hLg i (by omega)) (by assumption) (by assumption), by first | exact hn0 | (dsimp only; omega), by dsimp only; omega, by first | exact hl0 | exact hfr.1, by first | exact hl1 | exact hfr.2⟩ (by first | omega | (dsimp only <;> omega)) K6 K3
   ·exact Zk <|Za <|Ze <|mv J J <|Zm J J <|Zd <|Xq <|Za <|Ze <|dt (Yl J J J ⟨by omega, by omega⟩) J <|mv J J <|Zd <|Xe (i + 1, _, _) ⟨by first | omega | (dsimp only <;> omega), by first | exact chg_0 (by omega) hc (hLg i (by omega)) (Decidable.byContradiction (by assumption)) | exact chg_a (by omega) hc (hLg i (by omega)) (by assumption) (by assumption) | exact chg_b (by omega) hc (hLg i (by omega)) (by assumption) (by assumption), by first | exact hn0 | (dsimp only; omega), by dsimp only; omega, by first | exact hl0 | exact hfr.1, by first | exact hl1 | exact hfr.2⟩ (by first | omega | (dsimp only <;> omega)) K6 K3
  ·exact Zk <|Xq <|Za <|Ze <|dt (Yl J J J ⟨by omega, by omega⟩) J <|mv J J <|Zd <|Xe (i + 1, _, _) ⟨by first | omega | (dsimp only <;> omega), by first | exact chg_0 (by omega) hc (hLg i (by omega)) (Decidable.byContradiction (by assumption)) | exact chg_a (by omega) hc (hLg i (by omega)) (by assumption) (by assumption) | exact chg_b (by omega) hc (hLg i (by omega)) (by assumption) (by assumption), by first | exact hn0 | (dsimp only; omega), by dsimp only; omega, by first | exact hl0 | exact hfr.1, by first | exact hl1 | exact hfr.2⟩ (by first | omega | (dsimp only <;> omega)) K6 K3
 ·exact Yv <|Zz <|Zz <|Xz <|Za <|Zb <|Ze <|mv J J <|Zm J J <|Zm J J <|Zd <|Za <|Zr <|Zx (.inl J) hsc () _ (fun a w hs => Xn hs Tryz.results78 J J) (by rw [chg_end (by omega) hc]) trivial J Zj
theorem st_chg_r (v : Value) (ls : List (SL × List Int)) (hvp : ∀ z ∈ ls, Vp z.2) (h0 : ∀ z ∈ ls, z.2 ≠ []) : Cal Tryz.prog 78 #[v, .func (.func 79) #[] #[]] [deep 1 encS qZ v ls] false (G := Unit) (fun _ => True) (fun _ => .tuple #[.int .i64 (chg (sgx ls fr)), .int .i64 0]) (fun _ => []) := by
 refine Ye Tryz.func78 J Tryz.ntmps78 J K1 ?_
 intro w0 sc hw hsc
 simp only [Zq, Zo]
 refine Qn (f_len (i := 1) J Xc) (fun hlen => ?_)
 have hLl := length_sgx ls fr
 have hLg := fun i (h : i < ls.length) => sgx_getD ls fr h
 refine Zb <|Ze <|Zm J J <|Zm J J <|Zd <|Za <|Zb <|Ze <|Zm J J <|Zm J J <|Zd <|Za <|Zb <|Zb <|Ze <|mv J J <|dt (Zy J J (i := 1) J Xc uT107) J <|mv J J <|Zd <|Za <|Zv <|Qc [(1, _), (12, _), (13, _)] [(0, _), (1, _)] (fun (q : Nat × Int × Int) => [(14, .int .i64 (q.1 : Int)), (6, .int .i64 q.2.1), (7, .int .i64 q.2.2)]) (fun (q : Nat × Int × Int) => []) (fun (q : Nat × Int × Int) => (q.1 ≤ ls.length) ∧ ((q.2.1, q.2.2) = ((sgx ls fr).take q.1).foldl chg1 (0, 0)) ∧ (0 ≤ q.2.1) ∧ (q.2.1 ≤ (q.1 : Int)) ∧ (-1 ≤ q.2.2) ∧ (q.2.2 ≤ 1)) (fun (q : Nat × Int × Int) => ls.length - q.1) (0, 0, 0) ⟨by first | omega | (dsimp only <;> omega), by simp, by first | omega | (dsimp only <;> omega), by first | omega | (dsimp only <;> omega), by first | omega | (dsimp only <;> omega), by first | omega | (dsimp only <;> omega)⟩ K6 K2 ?_
 rintro ⟨i, n, l⟩ ⟨hi, hc, hn0, hn1, hl0, hl1⟩
 dsimp only at hi hc hn0 hn1 hl0 hl1
 simp only [List.cons_append, List.nil_append]
 have hfr := fr_r (ls.getD i Z0).2
 refine Zb <|Ze <|dt (Xj J J J) J <|Zd <|Za <|Zb <|Zn J (fun h129 => ?_) (fun h129 => ?_)
 ·refine Zk <|Za <|Zb <|Zv <|Zb <|Ze <|dt (Yn (ii := 1) J J J J Xc uT107 zT23 J (by first | omega | (simp only [List.length_set]; omega))) J <|dt (Ys (ii := 1) Z0 J J J Xc pS (by first | omega | (simp only [List.length_set]; omega))) J <|Zm J J <|Zd <|Za <|Zb <|Yk (s_deep 1 91 (ls.getD i Z0) J J (getD_mem (by omega)) J) <|Ze <|mv J J <|mv J J <|tt (t_callc (n := 1) (fs := []) (vs := [_]) (us := []) (st_tot1 _ _ (hvp (ls.getD i Z0) (getD_mem (by omega))) (h0 (ls.getD i Z0) (getD_mem (by omega)))) J J J J K1 cF79 (Zg 91 J J J Zf) J hw) J fun _ _ => mv J J <|dt (Zt J J J) J <|dt (Zt J J J) J <|Zm J J <|Zm J J <|Zd <|Za <|Zb <|Zb <|Ze <|mv J J <|dt (Zu (r' := .bool false) (Ym J J J) (congrArg Value.bool (by decide))) J <|Zd <|Za <|Yc J <|Zk <|Za <|Zb <|Ze <|mv J J <|dt (Ym J J J) J <|Zd <|Za <|Zn J (fun h134 => ?_) (fun h134 => ?_)
  ·refine Zb <|Zb <|Ze <|mv J J <|mv J J <|dt (d_negi J J ⟨by omega, by omega⟩) J <|dt (Xh J J J) J <|Zd <|Za <|Zn J (fun h135 => ?_) (fun h135 => ?_)
   ·exact Ze <|mv J J <|dt (Yl J J J ⟨by omega, by omega⟩) J <|Zm J J <|Zd <|Za <|Ze <|mv J J <|Zm J J <|Zd <|Xq <|Za <|Ze <|dt (Yl J J J ⟨by omega, by omega⟩) J <|mv J J <|Zd <|Xe (i + 1, _, _) ⟨by first | omega | (dsimp only <;> omega), by first | exact chg_0 (by omega) hc (hLg i (by omega)) (Decidable.byContradiction (by assumption)) | exact chg_a (by omega) hc (hLg i (by omega)) (by assumption) (by assumption) | exact chg_b (by omega) hc (hLg i (by omega)) (by assumption) (by assumption), by first | exact hn0 | (dsimp only; omega), by dsimp only; omega, by first | exact hl0 | exact hfr.1, by first | exact hl1 | exact hfr.2⟩ (by first | omega | (dsimp only <;> omega)) K6 K2
   ·exact Zk <|Za <|Ze <|mv J J <|Zm J J <|Zd <|Xq <|Za <|Ze <|dt (Yl J J J ⟨by omega, by omega⟩) J <|mv J J <|Zd <|Xe (i + 1, _, _) ⟨by first | omega | (dsimp only <;> omega), by first | exact chg_0 (by omega) hc (hLg i (by omega)) (Decidable.byContradiction (by assumption)) | exact chg_a (by omega) hc (hLg i (by omega)) (by assumption) (by assumption) | exact chg_b (by omega) hc (hLg i (by omega)) (by assumption) (by assumption), by first | exact hn0 | (dsimp only; omega), by dsimp only; omega, by first | exact hl0 | exact hfr.1, by first | exact hl1 | exact hfr.2⟩ (by first | omega | (dsimp only <;> omega)) K6 K2
  ·exact Zk <|Xq <|Za <|Ze <|dt (Yl J J J ⟨by omega, by omega⟩) J <|mv J J <|Zd <|Xe (i + 1, _, _) ⟨by first | omega | (dsimp only <;> omega), by first | exact chg_0 (by omega) hc (hLg i (by omega)) (Decidable.byContradiction (by assumption)) | exact chg_a (by omega) hc (hLg i (by omega)) (by assumption) (by assumption) | exact chg_b (by omega) hc (hLg i (by omega)) (by assumption) (by assumption), by first | exact hn0 | (dsimp only; omega), by dsimp only; omega, by first | exact hl0 | exact hfr.1, by first | exact hl1 | exact hfr.2⟩ (by first | omega | (dsimp only <;> omega)) K6 K2
 ·exact Yv <|Zz <|Zz <|Xz <|Za <|Zb <|Ze <|mv J J <|Zm J J <|Zm J J <|Zd <|Za <|Zr <|Zx (.inl J) hsc () _ (fun a w hs => Xn hs Tryz.results78 J J) (by rw [chg_end (by omega) hc]) trivial J Zj
theorem st_chg_l (v : Value) (ls : List (SL × List Int)) (hvp : ∀ z ∈ ls, Vp z.2) (h0 : ∀ z ∈ ls, z.2 ≠ []) : Cal Tryz.prog 78 #[v, .func (.func 81) #[] #[]] [deep 1 encS qZ v ls] false (G := Unit) (fun _ => True) (fun _ => .tuple #[.int .i64 (chg (sgx ls fl)), .int .i64 0]) (fun _ => []) := by
 refine Ye Tryz.func78 J Tryz.ntmps78 J K1 ?_
 intro w0 sc hw hsc
 simp only [Zq, Zo]
 refine Qn (f_len (i := 1) J Xc) (fun hlen => ?_)
 have hLl := length_sgx ls fl
 have hLg := fun i (h : i < ls.length) => sgx_getD ls fl h
 refine Zb <|Ze <|Zm J J <|Zm J J <|Zd <|Za <|Zb <|Ze <|Zm J J <|Zm J J <|Zd <|Za <|Zb <|Zb <|Ze <|mv J J <|dt (Zy J J (i := 1) J Xc uT107) J <|mv J J <|Zd <|Za <|Zv <|Qc [(1, _), (12, _), (13, _)] [(0, _), (1, _)] (fun (q : Nat × Int × Int) => [(14, .int .i64 (q.1 : Int)), (6, .int .i64 q.2.1), (7, .int .i64 q.2.2)]) (fun (q : Nat × Int × Int) => []) (fun (q : Nat × Int × Int) => (q.1 ≤ ls.length) ∧ ((q.2.1, q.2.2) = ((sgx ls fl).take q.1).foldl chg1 (0, 0)) ∧ (0 ≤ q.2.1) ∧ (q.2.1 ≤ (q.1 : Int)) ∧ (-1 ≤ q.2.2) ∧ (q.2.2 ≤ 1)) (fun (q : Nat × Int × Int) => ls.length - q.1) (0, 0, 0) ⟨by first | omega | (dsimp only <;> omega), by simp, by first | omega | (dsimp only <;> omega), by first | omega | (dsimp only <;> omega), by first | omega | (dsimp only <;> omega), by first | omega | (dsimp only <;> omega)⟩ K6 K2 ?_
 rintro ⟨i, n, l⟩ ⟨hi, hc, hn0, hn1, hl0, hl1⟩
 dsimp only at hi hc hn0 hn1 hl0 hl1
 simp only [List.cons_append, List.nil_append]
 have hfr := fl_r (ls.getD i Z0).2
 refine Zb <|Ze <|dt (Xj J J J) J <|Zd <|Za <|Zb <|Zn J (fun h129 => ?_) (fun h129 => ?_)
 ·refine Zk <|Za <|Zb <|Zv <|Zb <|Ze <|dt (Yn (ii := 1) J J J J Xc uT107 zT23 J (by first | omega | (simp only [List.length_set]; omega))) J <|dt (Ys (ii := 1) Z0 J J J Xc pS (by first | omega | (simp only [List.length_set]; omega))) J <|Zm J J <|Zd <|Za <|Zb <|Yk (s_deep 1 91 (ls.getD i Z0) J J (getD_mem (by omega)) J) <|Ze <|mv J J <|mv J J <|tt (t_callc (n := 1) (fs := []) (vs := [_]) (us := []) (st_tot2 _ _ (hvp (ls.getD i Z0) (getD_mem (by omega))) (h0 (ls.getD i Z0) (getD_mem (by omega)))) J J J J K1 cF81 (Zg 91 J J J Zf) J hw) J fun _ _ => mv J J <|dt (Zt J J J) J <|dt (Zt J J J) J <|Zm J J <|Zm J J <|Zd <|Za <|Zb <|Zb <|Ze <|mv J J <|dt (Zu (r' := .bool false) (Ym J J J) (congrArg Value.bool (by decide))) J <|Zd <|Za <|Yc J <|Zk <|Za <|Zb <|Ze <|mv J J <|dt (Ym J J J) J <|Zd <|Za <|Zn J (fun h134 => ?_) (fun h134 => ?_)
  ·refine Zb <|Zb <|Ze <|mv J J <|mv J J <|dt (d_negi J J ⟨by omega, by omega⟩) J <|dt (Xh J J J) J <|Zd <|Za <|Zn J (fun h135 => ?_) (fun h135 => ?_)
   ·exact Ze <|mv J J <|dt (Yl J J J ⟨by omega, by omega⟩) J <|Zm J J <|Zd <|Za <|Ze <|mv J J <|Zm J J <|Zd <|Xq <|Za <|Ze <|dt (Yl J J J ⟨by omega, by omega⟩) J <|mv J J <|Zd <|Xe (i + 1, _, _) ⟨by first | omega | (dsimp only <;> omega), by first | exact chg_0 (by omega) hc (hLg i (by omega)) (Decidable.byContradiction (by assumption)) | exact chg_a (by omega) hc (hLg i (by omega)) (by assumption) (by assumption) | exact chg_b (by omega) hc (hLg i (by omega)) (by assumption) (by assumption), by first | exact hn0 | (dsimp only; omega), by dsimp only; omega, by first | exact hl0 | exact hfr.1, by first | exact hl1 | exact hfr.2⟩ (by first | omega | (dsimp only <;> omega)) K6 K2
   ·exact Zk <|Za <|Ze <|mv J J <|Zm J J <|Zd <|Xq <|Za <|Ze <|dt (Yl J J J ⟨by omega, by omega⟩) J <|mv J J <|Zd <|Xe (i + 1, _, _) ⟨by first | omega | (dsimp only <;> omega), by first | exact chg_0 (by omega) hc (hLg i (by omega)) (Decidable.byContradiction (by assumption)) | exact chg_a (by omega) hc (hLg i (by omega)) (by assumption) (by assumption) | exact chg_b (by omega) hc (hLg i (by omega)) (by assumption) (by assumption), by first | exact hn0 | (dsimp only; omega), by dsimp only; omega, by first | exact hl0 | exact hfr.1, by first | exact hl1 | exact hfr.2⟩ (by first | omega | (dsimp only <;> omega)) K6 K2
  ·exact Zk <|Xq <|Za <|Ze <|dt (Yl J J J ⟨by omega, by omega⟩) J <|mv J J <|Zd <|Xe (i + 1, _, _) ⟨by first | omega | (dsimp only <;> omega), by first | exact chg_0 (by omega) hc (hLg i (by omega)) (Decidable.byContradiction (by assumption)) | exact chg_a (by omega) hc (hLg i (by omega)) (by assumption) (by assumption) | exact chg_b (by omega) hc (hLg i (by omega)) (by assumption) (by assumption), by first | exact hn0 | (dsimp only; omega), by dsimp only; omega, by first | exact hl0 | exact hfr.1, by first | exact hl1 | exact hfr.2⟩ (by first | omega | (dsimp only <;> omega)) K6 K2
 ·exact Yv <|Zz <|Zz <|Xz <|Za <|Zb <|Ze <|mv J J <|Zm J J <|Zm J J <|Zd <|Za <|Zr <|Zx (.inl J) hsc () _ (fun a w hs => Xn hs Tryz.results78 J J) (by rw [chg_end (by omega) hc]) trivial J Zj
theorem st_at (v : Value) (ls : List (SL × List Int)) (x y : Int) (hx : bl x.natAbs ≤ 65536) (hy : bl y.natAbs ≤ 65536) (hp : 0 < y) (hvp : ∀ z ∈ ls, Vp z.2) (hE : ∀ z ∈ ls, ¬ evfull z.2 x y) : Cal Tryz.prog 77 #[v, .agg #[.bool (decide (x < 0)), .string (bstr x.natAbs), .bool (decide (y < 0)), .string (bstr y.natAbs)]] [deep 1 encS qZ v ls] false (G := Unit) (fun _ => True) (fun _ => .tuple #[.int .i64 (chg (sgx ls (fat x y))), .int .i64 0]) (fun _ => []) := by
 refine Ye Tryz.func77 J Tryz.ntmps77 J K1 ?_
 intro w0 sc hw hsc
 simp only [Zq, Zo]
 exact Zb <|Ze <|tt (Yy (i := 2) J J J J J J hw) J fun b _ => Zm J J <|Zm J J <|Zd <|Za <|Zb <|Ze <|mv J J <|dt (d_mkc (vs := []) (us := [_]) J trivial K1) J <|tt (Zh (n := 2) (st_chg_at _ _ _ hvp x y hx hy hp hE) J J J K2 cF78 (Zg 1 J J J (pre_lendb 2 J J Zf)) J hw) J fun _ _ => dt (Zt J J J) J <|dt (Zt J J J) J <|Zm J J <|Zm J J <|Zd <|Za <|Zr <|Zx (.inl J) hsc () _ (fun a w hs => Xn hs Tryz.results77 J J) J trivial J Zj
end Go.Sky
namespace Go.Sky
open Go.Proofs
set_option maxRecDepth 20000
set_option maxHeartbeats 4000000
set_option linter.unusedVariables false
set_option linter.unusedSimpArgs false
theorem st_count (v : Value) (xs : List Int) (hv : Vp xs) (x y x2 y2 : Int) (hx : bl x.natAbs ≤ 65536) (hy : bl y.natAbs ≤ 65536) (hx2 : bl x2.natAbs ≤ 65536) (hy2 : bl y2.natAbs ≤ 65536) (hp : 0 < y) (hp2 : 0 < y2) (F : Nat) (hFb : F ≤ 1000000) (hC : chOK F xs) (hk : chk2r xs x y x2 y2 = 0) (hE1 : ∀ p ∈ chn F xs, ¬ evfull p x y) (hE2 : ∀ p ∈ chn F xs, ¬ evfull p x2 y2) : Cal Tryz.prog 28 #[v, .agg #[.bool (decide (x < 0)), .string (bstr x.natAbs), .bool (decide (y < 0)), .string (bstr y.natAbs)], .agg #[.bool (decide (x2 < 0)), .string (bstr x2.natAbs), .bool (decide (y2 < 0)), .string (bstr y2.natAbs)]] [slp 2 wv v xs] false (G := Unit) (fun _ => True) (fun _ => .tuple #[.int .i64 (cnt F xs x y - cnt F xs x2 y2), .int .i64 0]) (fun _ => []) := by
 refine Ye Tryz.func28 J Tryz.ntmps28 J K1 ?_
 intro w0 sc hw hsc
 simp only [Zq, Zo]
 obtain ⟨h0, hf⟩ := chk2_fits hk
 have hr1 := chg_range ((chn F xs).map (fat x y))
 have hr2 := chg_range ((chn F xs).map (fat x2 y2))
 have hll := length_schain F (sqf F xs) (pprim (pder (sqf F xs)))
 rw [List.length_map] at hr1 hr2
 have hF : F ≤ 1000000 := hFb
 refine Yk (Qa 999 2 28 wv) <|Yk (Xa 999 J J pV) <|Zb <|Ze <|tt (Yy (i := 2) J J J J J J hw) J fun bx _ => tt (Yy (i := 3) J J J J J J hw) J fun bx_2 _ => Zm J J <|Zm J J <|Zd <|Za <|Zb <|Zb <|Ze <|mv J J <|dt (Xb (i := 2) J J J iA49 zT49 J J J J) J <|dt (Xb (i := 3) J J J iA49 zT49 J J J J) J <|tt (Xf (i := 4) (ivs := [(0, _), (1, _)]) (enc := rq) [(x, y), (x2, y2)] J J J K4 uT87 Tryz.ti49 J J J (fill24 _ _ _ _ _ _ _ _ _ _ _ _) J J pQ.cells J J hw) J fun v _ => tt (Zh (n := 4) (st_check2 _ _ hv _ _ _ _ _ hx hy hx2 hy2 hp hp2) J J J K2 cF51 (Zg 1 J J J (Xl 4 J J pQ Zf)) J hw) J fun _ _ => Zm J J <|Zd <|Za <|Zb <|Ze <|mv J J <|dt (Zu (r' := .bool false) (Ym J J J) (congrArg Value.bool (by rw [hk]; rfl))) J <|Zd <|Za <|Yc J <|Zk <|Za <|Zb <|Ze <|mv J J <|tt (Zh (n := 5) (st_chain _ _ hv h0 hf F hC) J J J K1 cF20 (Zg 1 J J J Zf) J hw) J fun g hg => mv J J <|dt (Zt J J J) J <|dt (Zt J J J) J <|Zm J J <|Zm J J <|Zd <|Za <|Zb <|Zb <|Ze <|mv J J <|dt (Zu (r' := .bool false) (Ym J J J) (congrArg Value.bool (by decide))) J <|Zd <|Za <|Yc J <|Zk <|Za <|Zb <|Ze <|mv J J <|dt (Xb (i := 2) J J J iA49 zT49 J J J J) J ?_
 refine tt (Zh (n := 5) (st_at _ _ _ _ hx hy hp (mem_snd hg (vp_chn hv h0 hC)) (mem_snd hg hE1)) J J J K2 cF77 (Zg 5 J J J Zf) J hw) J fun _ _ => mv J J <|dt (Zt J J J) J <|dt (Zt J J J) J <|Zm J J <|Zm J J <|Zd <|Za <|Zb <|Zb <|Ze <|mv J J <|dt (Zu (r' := .bool false) (Ym J J J) (congrArg Value.bool (by decide))) J <|Zd <|Za <|Yc J <|Zk <|Za <|Zb <|Ze <|mv J J <|dt (Xb (i := 3) J J J iA49 zT49 J J J J) J <|tt (Zh (n := 5) (st_at _ _ _ _ hx2 hy2 hp2 (mem_snd hg (vp_chn hv h0 hC)) (mem_snd hg hE2)) J J J K2 cF77 (Zg 5 J J J Zf) J hw) J fun _ _ => mv J J <|dt (Zt J J J) J <|dt (Zt J J J) J <|Zm J J <|Zm J J <|Zd <|Za <|Zb ?_
 have hs1 := sgx_map hg (fat x y)
 have hs2 := sgx_map hg (fat x2 y2)
 rw [← hs1] at hr1
 rw [← hs2] at hr2
 have hll2 : (chn F xs).length ≤ F + 1 := hll
 exact Ze <|mv J J <|mv J J <|dt (Yz J J J ⟨by omega, by omega⟩) J <|mv J J <|Zm J J <|Zm J J <|Zd <|Za <|Zr <|Zx (.inl J) hsc () _ (fun a w hs => Xn hs Tryz.results28 J J) (by unfold cnt; rw [← hs1, ← hs2] <;> rfl) trivial J Zj
theorem st_count_err (v : Value) (xs : List Int) (hv : Vp xs) (x y x2 y2 : Int) (hx : bl x.natAbs ≤ 65536) (hy : bl y.natAbs ≤ 65536) (hx2 : bl x2.natAbs ≤ 65536) (hy2 : bl y2.natAbs ≤ 65536) (hp : 0 < y) (hp2 : 0 < y2) (hk : chk2r xs x y x2 y2 ≠ 0) : Cal Tryz.prog 28 #[v, .agg #[.bool (decide (x < 0)), .string (bstr x.natAbs), .bool (decide (y < 0)), .string (bstr y.natAbs)], .agg #[.bool (decide (x2 < 0)), .string (bstr x2.natAbs), .bool (decide (y2 < 0)), .string (bstr y2.natAbs)]] [slp 2 wv v xs] false (G := Unit) (fun _ => True) (fun _ => .tuple #[.int .i64 0, .int .i64 (chk2r xs x y x2 y2)]) (fun _ => []) := by
 refine Ye Tryz.func28 J Tryz.ntmps28 J K1 ?_
 intro w0 sc hw hsc
 simp only [Zq, Zo]
 refine Yk (Qa 999 2 28 wv) <|Yk (Xa 999 J J pV) <|Zb <|Ze <|tt (Yy (i := 2) J J J J J J hw) J fun bx _ => tt (Yy (i := 3) J J J J J J hw) J fun bx_2 _ => Zm J J <|Zm J J <|Zd <|Za <|Zb <|Zb <|Ze <|mv J J <|dt (Xb (i := 2) J J J iA49 zT49 J J J J) J <|dt (Xb (i := 3) J J J iA49 zT49 J J J J) J <|tt (Xf (i := 4) (ivs := [(0, _), (1, _)]) (enc := rq) [(x, y), (x2, y2)] J J J K4 uT87 Tryz.ti49 J J J (fill24 _ _ _ _ _ _ _ _ _ _ _ _) J J pQ.cells J J hw) J fun v _ => tt (Zh (n := 4) (st_check2 _ _ hv _ _ _ _ _ hx hy hx2 hy2 hp hp2) J J J K2 cF51 (Zg 1 J J J (Xl 4 J J pQ Zf)) J hw) J fun _ _ => Zm J J <|Zd <|Za <|Zb <|Ze <|mv J J <|dt (Ym J J J) J <|Zd <|Za <|Zn J (fun h151 => ?_) (fun h151 => ?_)
 ·exact Zb <|Ze <|mv J J <|Zm J J <|Zm J J <|Zd <|Za <|Zr <|Yw <|Zx (.inl J) hsc () _ (fun a w hs => Xn hs Tryz.results28 J J) J trivial J Zj
 ·exfalso; omega
theorem st_total (v : Value) (xs : List Int) (hv : Vp xs) (F : Nat) (hFb : F ≤ 1000000) (hk : chk0 xs = 0) (hq : sqf F xs ≠ []) (hC : chOK F xs) : Cal Tryz.prog 29 #[v] [slp 2 wv v xs] false (G := Unit) (fun _ => True) (fun _ => .tuple #[.int .i64 (sleft F xs - sright F xs), .int .i64 0]) (fun _ => []) := by
 refine Ye Tryz.func29 J Tryz.ntmps29 J K1 ?_
 intro w0 sc hw hsc
 simp only [Zq, Zo]
 obtain ⟨h0, hf⟩ := chk0_fits hk
 have hr1 := chg_range ((chn F xs).map fl)
 have hr2 := chg_range ((chn F xs).map fr)
 have hll := length_schain F (sqf F xs) (pprim (pder (sqf F xs)))
 rw [List.length_map] at hr1 hr2
 have hne := ne_schain F (x := sqf F xs) (y := pprim (pder (sqf F xs))) hq
 refine Yk (Qa 999 2 28 wv) <|Yk (Xa 999 J J pV) <|Zb <|Ze <|Zm J J <|Zm J J <|Zd <|Za <|Zb <|Ze <|mv J J <|tt (Zh (n := 2) (st_chain _ _ hv h0 hf F hC) J J J K1 cF20 (Zg 1 J J J Zf) J hw) J fun g hg => mv J J <|dt (Zt J J J) J <|dt (Zt J J J) J <|Zm J J <|Zm J J <|Zd <|Za <|Zb <|Zb <|Ze <|mv J J <|dt (Zu (r' := .bool false) (Ym J J J) (congrArg Value.bool (by decide))) J <|Zd <|Za <|Yc J <|Zk <|Za <|Zb <|Ze <|mv J J <|tt (Zh (n := 2) (st_chg_r _ _ (mem_snd hg (vp_chn hv h0 hC)) (mem_snd hg hne)) J J J K2 cF78 (Zg 2 J J J Zf) J hw) J fun _ _ => mv J J <|dt (Zt J J J) J <|dt (Zt J J J) J <|Zm J J <|Zm J J <|Zd <|Za <|Zb <|Ze <|mv J J <|tt (Zh (n := 2) (st_chg_l _ _ (mem_snd hg (vp_chn hv h0 hC)) (mem_snd hg hne)) J J J K2 cF78 (Zg 2 J J J Zf) J hw) J fun _ _ => mv J J <|dt (Zt J J J) J <|dt (Zt J J J) J <|Zm J J <|Zm J J <|Zd <|Za <|Zb ?_
 have hs1 := sgx_map hg fl
 have hs2 := sgx_map hg fr
 rw [← hs1] at hr1
 rw [← hs2] at hr2
 have hll2 : (chn F xs).length ≤ F + 1 := hll
 exact Ze <|mv J J <|mv J J <|dt (Yz J J J ⟨by omega, by omega⟩) J <|Zm J J <|Zm J J <|Zd <|Za <|Zr <|Zx (.inl J) hsc () _ (fun a w hs => Xn hs Tryz.results29 J J) (by unfold sleft sright; rw [← hs1, ← hs2] <;> rfl) trivial J Zj
end Go.Sky
namespace Go.Sky
open Go.Proofs
set_option maxRecDepth 20000
set_option maxHeartbeats 4000000
set_option linter.unusedVariables false
set_option linter.unusedSimpArgs false
theorem st_bound (v : Value) (xs : List Int) (hv : Vp xs) (hk : chk0 xs = 0) : Cal Tryz.prog 12 #[v] [slp 2 wv v xs] false (G := Unit) (fun _ => True) (fun _ => .tuple #[wv (sbound xs), .int .i64 0]) (fun _ => []) := by
 refine Ye Tryz.func12 J Tryz.ntmps12 J K1 ?_
 intro w0 sc hw hsc
 simp only [Zq, Zo]
 obtain ⟨h0, hf⟩ := chk0_fits hk
 have hmz := fits_msz hf
 have hlen := hv.len
 have hl0 := List.length_pos_iff.2 h0
 have hsb := fun i => sm_b (msz_sz xs) i
 have hld := hv.tr.mem h0
 have hsz := msz_sz xs
 have hbb := sbound_b hsz
 have htl : (xs.take (xs.length - 1)).length = xs.length - 1 := by rw [List.length_take]; omega
 refine Yk (Qa 999 2 28 wv) <|Yk (Xa 999 J J pV) <|Zb <|Ze <|tt (Zp (i := 2) J J J Tryz.zeroValue28 J J hw) J fun bx _ => Zm J J <|Zd <|Za <|Zb <|Zb <|Ze <|mv J J <|tt (Zh (n := 2) (st_check0 _ _ hv) J J J K2 cF51 (Zg 1 J J J Zf) J hw) J fun _ _ => Zm J J <|Zd <|Za <|Zb <|Ze <|mv J J <|dt (Ym J J J) J <|Zd <|Za <|Zn J (fun h186 => ?_) (fun h186 => ?_)
 ·exfalso; omega
 ·refine Zk <|Za <|Zb <|Ze <|tt (Zp (i := 3) J J J Tryz.zeroValue28 J J hw) J fun bx_2 _ => Zd <|Za <|Zb <|Zb <|Ze <|mv J J <|mv J J <|dt (Zy J J (i := 1) J Zi uT23) J <|dt (Yz J J J ⟨by omega, by omega⟩) J <|dt (d_pre (ii := 1) (i := (xs.length - 1)) J J J J Zi uT23 zT28 (by omega) (by omega)) J <|Xi (s_pre 1 4 ((xs.length - 1)) J J (by omega)) <|dt (Zy J J (i := 4) J Zi uT23) J <|mv J J <|Zd <|Za <|Zv <|Qc [(0, _), (2, _), (5, _), (22, _), (23, _)] [(0, _), (1, _), (999, _), (2, _), (4, _)] (fun (i : Nat) => [(24, .int .i64 (i : Int))]) (fun (i : Nat) => [(3, box bx_2 28 (wc ((sm xs i : Nat) : Int)))]) (fun (i : Nat) => (i ≤ xs.length - 1)) (fun (i : Nat) => xs.length - 1 - i) 0 (by first | omega | (dsimp only <;> omega)) K6 K6 ?_
  rintro i hi
  simp only [List.cons_append, List.nil_append]
  refine Zb <|Ze <|dt (Xj J J J) J <|Zd <|Za <|Zb <|Zn J (fun h190 => ?_) (fun h190 => ?_)
  ·refine Zk <|Za <|Zb <|Zv <|Zb <|Ze <|dt (Yn (ii := 4) J J J J Zi uT23 zT28 J (by first | omega | (simp only [List.length_set]; omega))) J <|dt (Ys (ii := 4) 0 J J J Zi pV (by first | omega | (simp only [List.length_set]; omega))) J <|tt (Zp (i := 5) J J J Tryz.zeroValue28 J J hw) J fun bx_3 _ => tt (Zl (i := 5) J J J J J (by decide) J zT28 J J ⟨(Zc J), (Zc J), trivial⟩ J hw trivial) J fun _ _ => Zd <|Za <|Zb <|Ze <|dt (Yu J J uT28 J zT4 J J) J <|tt (t_stp (cs' := #[]) (i := 5) J J J J J (by decide) J zT4 J J ⟨(Zc J), trivial⟩ J hw trivial) J fun _ _ => Zd <|Za <|Zb <|Ze <|dt (Zu (r' := wv (((cf xs i).natAbs : Nat) : Int)) (Yg (i := 5) J J J iA28 zT28 J J) (by rw [wv_abs]; exact congrArg (fun z : Int => Value.agg #[.bool false, .string (bstr z.natAbs)]) (getD_take _ _ _ _ (by omega)))) J <|dt (Yg (i := 3) J J J iA28 zT28 J J) J <|tt (Zh (n := 5) (wide_compare ((cf xs i).natAbs : Int) ((sm xs i : Nat) : Int) (by have := hsz i; rw [Int.natAbs_natCast]; omega) (by have := hsb i; rw [Int.natAbs_natCast]; omega)) J J J K2 cF52 Zf J hw) J fun _ _ => dt (Xv J J J) J <|Zd <|Za <|Zn J (fun h192 => ?_) (fun h192 => ?_)
   ·exact Ze <|dt (Zu (r' := wv (((cf xs i).natAbs : Nat) : Int)) (Yg (i := 5) J J J iA28 zT28 J J) (by rw [wv_abs]; exact congrArg (fun z : Int => Value.agg #[.bool false, .string (bstr z.natAbs)]) (getD_take _ _ _ _ (by omega)))) J <|tt (Zl (i := 3) J J J J J (by decide) J zT28 J J ⟨(Zc J), (Zc J), trivial⟩ J hw trivial) J fun _ _ => Zd <|Xq <|Za <|Ze <|dt (Yl J J J ⟨by omega, by omega⟩) J <|mv J J <|Zd <|Xe (i + 1) (by first | omega | (dsimp only <;> omega)) (by first | omega | (dsimp only <;> omega)) K6 ⟨by rw [sm_succ (by omega)]; first | (rw [Nat.max_eq_right (by have := sign_sub_pos.1 h192; omega)] <;> rfl) | (rw [Nat.max_eq_left (Nat.le_of_not_lt fun h => h192 (sign_sub_pos.2 h))] <;> rfl), rfl, rfl, rfl, rfl, rfl, trivial⟩
   ·exact Zk <|Xq <|Za <|Ze <|dt (Yl J J J ⟨by omega, by omega⟩) J <|mv J J <|Zd <|Xe (i + 1) (by first | omega | (dsimp only <;> omega)) (by first | omega | (dsimp only <;> omega)) K6 ⟨by rw [sm_succ (by omega)]; first | (rw [Nat.max_eq_right (by have := sign_sub_pos.1 h192; omega)] <;> rfl) | (rw [Nat.max_eq_left (Nat.le_of_not_lt fun h => h192 (sign_sub_pos.2 h))] <;> rfl), rfl, rfl, rfl, rfl, rfl, trivial⟩
  ·refine Yv <|Zz <|Zz <|Xz <|Za <|Zb ?_
   obtain rfl : i = xs.length - 1 := by omega
   have hqe := sbound_eq h0
   have hqb : bl (smost xs : Int).natAbs ≤ msz xs := smost_b hsz
   refine Ze <|mv J J <|mv J J <|dt (Zy J J (i := 1) J Zi uT23) J <|dt (Yz J J J ⟨by omega, by omega⟩) J <|dt (Yn (ii := 1) (i := (xs.length - 1)) J J J J Zi uT23 zT28 (by omega) (by omega)) J <|dt (Ys (ii := 1) 0 J J J Zi pV (by first | omega | (simp only [List.length_set]; omega))) J <|tt (Zp (i := 6) J J J Tryz.zeroValue28 J J hw) J fun bx_4 _ => tt (Zl (i := 6) J J J J J (by decide) J zT28 J J ⟨(Zc J), (Zc J), trivial⟩ J hw trivial) J fun _ _ => Zd <|Za <|Zb <|Ze <|dt (Yu J J uT28 J zT4 J J) J <|tt (t_stp (cs' := #[]) (i := 6) J J J J J (by decide) J zT4 J J ⟨(Zc J), trivial⟩ J hw trivial) J fun _ _ => Zd <|Za <|Zb <|Ze <|dt (Yg (i := 3) J J J iA28 zT28 J J) J <|dt (Zu (r' := wv (((cf xs (xs.length - 1)).natAbs : Nat) : Int)) (Yg (i := 6) J J J iA28 zT28 J J) (by rw [wv_abs]; rfl)) J <|tt (Zh (n := 6) (wide_quo ((sm xs (xs.length - 1) : Nat) : Int) (((cf xs (xs.length - 1)).natAbs : Nat) : Int) (by have := hsb (xs.length - 1); rw [Int.natAbs_natCast]; omega) (by have := hsz (xs.length - 1); rw [Int.natAbs_natCast]; omega) (by omega)) J J J K2 cF53 Zf J hw) J fun _ _ => mv J J <|dt (Zt J J J) J <|dt (Zt J J J) J <|dt (Zt J J J) J <|tt (Zp (i := 7) J J J Tryz.zeroValue28 J J hw) J (fun bx_5 _ => ?_)
   refine tt (Zp (i := 8) J J J Tryz.zeroValue28 J J hw) J fun bx_6 _ => tt (Zl (i := 7) J J J J J (by decide) J zT28 J J ⟨(Zc J), (Zc J), trivial⟩ J hw trivial) J fun _ _ => tt (Zl (i := 8) J J J J J (by decide) J zT28 J J ⟨(Zc J), (Zc J), trivial⟩ J hw trivial) J fun _ _ => Zm J J <|Zd <|Za <|Zb <|Zb <|Ze <|mv J J <|dt (Zu (r' := .bool false) (Ym J J J) (congrArg Value.bool (by decide))) J <|Zd <|Za <|Yc J <|Zk <|Za <|Zb <|Xd (fun _ => False) [(0, 0), (1, 1), (2, 1), (3, 0), (4, 0), (5, 3), (6, 3)] (by kernel_rfl) ?_ ?_
   ·kernel_rfl
   exact r0' J J J J (st0 (Yg (i := 7) J J J iA28 zT28 J J)) <|r1' J J (Zh (n := 8) (wide_of_int _ ⟨by decide, by decide⟩) J J J K1 cF55 Zf J hw) fun _ _ => r1' J J (Zh (n := 8) (wide_add _ _ (clip_bl _) (by decide +kernel)) J J J K2 cF54 Zf J hw) fun _ _ => r0' J J J J (st0 (Zt J J J)) <|r0' J J J J (st0 (Zt J J J)) <|r3' J J (Zl (i := 2) J J J J J (by decide) J zT28 J J ⟨(Zc J), (Zc J), trivial⟩ J hw trivial) fun _ _ => r3' J J (Xw (Qb J J) J J) fun _ _ => Xo <|Za <|Zr <|Zx (.inl J) hsc () _ (fun a w hs => Xn hs Tryz.results12 (Yq (i := 2) J J iA28 zT28 J) J) (by rw [clip_ok (show bl ((sm xs (xs.length - 1) : Int) / _).natAbs ≤ 65536 from Nat.le_trans (bl_idiv _ _) (by show bl (smost xs : Int).natAbs + 1 ≤ _; omega)), show ((sm xs (xs.length - 1) : Nat) : Int) = ((smost xs : Nat) : Int) from rfl, hqe]; exact (wide_ok (by omega)).symm) trivial J Zj
theorem st_middle (x y x2 y2 : Int) (hx : bl x.natAbs ≤ 65536) (hy : bl y.natAbs ≤ 65536) (hx2 : bl x2.natAbs ≤ 65536) (hy2 : bl y2.natAbs ≤ 65536) (hp : 0 < y) (hp2 : 0 < y2) (hq : ¬ rfull (x * y2 + x2 * y) (y * y2)) : Cal Tryz.prog 86 #[.agg #[.bool (decide (x < 0)), .string (bstr x.natAbs), .bool (decide (y < 0)), .string (bstr y.natAbs)], .agg #[.bool (decide (x2 < 0)), .string (bstr x2.natAbs), .bool (decide (y2 < 0)), .string (bstr y2.natAbs)]] [] false (G := Unit) (fun _ => True) (fun _ => ratioV (rnum (x * y2 + x2 * y) (y * y2) * 1) (rden (x * y2 + x2 * y) (y * y2) * 2)) (fun _ => []) := by
 refine Ye Tryz.func86 J Tryz.ntmps86 J trivial ?_
 intro w0 sc hw hsc
 simp only [Zq, Zo]
 obtain ⟨hn1, hn2, hn3⟩ := nr_num hq
 obtain ⟨hb1, hb2⟩ := nr_bl hq
 have hdp := nr_pos hq (Int.mul_pos hp hp2)
 refine Zb <|Ze <|tt (Yy (i := 1) J J J J J J hw) J fun bx _ => tt (Yy (i := 2) J J J J J J hw) J fun bx_2 _ => tt (Zp (i := 3) J J J Tryz.zeroValue49 J J hw) J fun bx_3 _ => Zm J J <|Zd <|Za <|Zb <|Ze <|dt (Xb (i := 1) J J J iA49 zT49 J J J J) J <|dt (Xb (i := 2) J J J iA49 zT49 J J J J) J <|tt (Zh (n := 3) (wide_addratio _ _ _ _ hx hy hx2 hy2 hp hp2) J J J K2 cF130 Zf J hw) J fun _ _ => mv J J <|dt (Zt J J J) J <|dt (Zt J J J) J <|tt (Zp (i := 4) J J J Tryz.zeroValue49 J J hw) J fun bx_4 _ => tt (Zl (i := 4) J J J J J (by decide) J zT49 J J ⟨(Zc J), (Zc J), (Zc J), (Zc J), trivial⟩ J hw trivial) J fun _ _ => Zm J J <|Zd <|Za <|Zb <|Zb <|Ze <|mv J J <|dt (Zu (r' := .bool false) (Ym J J J) (congrArg Value.bool (by rw [hn3]; rfl))) J <|Zd <|Za <|Yc J <|Zk <|Za <|Zb <|Xd (fun _ => False) [(0, 0), (1, 1), (2, 1), (3, 0), (4, 1), (5, 0), (6, 0), (7, 3), (8, 3)] (by kernel_rfl) ?_ ?_
 ·kernel_rfl
 exact r0' J J J J (st0 (Xb (i := 4) J J J iA49 zT49 J J J J)) <|r1' J J (Zh (n := 4) (wide_of_int _ ⟨by decide, by decide⟩) J J J K1 cF55 Zf J hw) fun _ _ => r1' J J (Zh (n := 4) (wide_of_int _ ⟨by decide, by decide⟩) J J J K1 cF55 Zf J hw) fun _ _ => r0' J J J J (st0 (Xg (ivs := [(0, _), (1, _)]) J K4 (fun a w hs => b49_01))) <|r1' J J (Zh (n := 4) (wide_mulratio _ _ 1 2 hb1 hb2 (by decide +kernel) (by decide +kernel) hdp (by decide)) J J J K2 cF131 Zf J hw) fun _ _ => r0' J J J J (st0 (Zt J J J)) <|r0' J J J J (st0 (Zt J J J)) <|r3' J J (Zl (i := 3) J J J J J (by decide) J zT49 J J ⟨(Zc J), (Zc J), (Zc J), (Zc J), trivial⟩ J hw trivial) fun _ _ => r3' J J (Xw (Qb J J) J J) fun _ _ => Xo <|Za <|Zr <|Zx (.inl J) hsc () _ (fun a w hs => Xn hs Tryz.results86 (Yq (i := 3) J J iA49 zT49 J) J) J trivial J Zj
end Go.Sky
namespace Go.Sky
open Go.Proofs
set_option maxRecDepth 20000
set_option maxHeartbeats 4000000
set_option linter.unusedVariables false
set_option linter.unusedSimpArgs false
theorem st_split_step (bh bo bl bs : Nat) (vl : Value) (ls : List (SL × List Int)) (hv : Int) (hvz : ∀ z ∈ ls, Vp z.2) (hll : ls.length ≤ 1000) (f : Nat) (ih : ∀ (vo : Value) (os : List (R2 × R2)) (a b : R2) (fr to : Int) (d : Nat) (ha : okQ a) (hb : okQ b) (hfr : -100000 ≤ fr ∧ fr ≤ 100000) (hto : -100000 ≤ to ∧ to ≤ 100000) (hok : ispOK (cvx ls) (evok ls) hv f a b fr to d) (hln : os.length + (isp (cvx ls) hv f a b fr to d).length ≤ 1000000), CalP Tryz.prog 85 #[iq (a, b), .int .i64 fr, .int .i64 to, .int .i64 (d : Int), .pointer (some ⟨bh, 0, none⟩), .pointer (some ⟨bo, 0, none⟩), .pointer (some ⟨bl, 0, none⟩), .pointer (some ⟨bs, 0, none⟩)] [rbox bh 3 #[.int .i64 hv], rbox bl 44 #[vl], deep 1 encS qZ vl ls, rbox bs 113 #[.func (.func 85) #[] #[.pointer (some ⟨bh, 0, none⟩), .pointer (some ⟨bo, 0, none⟩), .pointer (some ⟨bl, 0, none⟩), .pointer (some ⟨bs, 0, none⟩)]]] (gb bo 69 8 79 iq vo os) (G := Value) (fun _ => True) (fun _ => .int .i64 0) (fun g => gb bo 69 8 79 iq g (os ++ isp (cvx ls) hv f a b fr to d))) (vo : Value) (os : List (R2 × R2)) (a b : R2) (fr to : Int) (d : Nat) (ha : okQ a) (hb : okQ b) (hfr : -100000 ≤ fr ∧ fr ≤ 100000) (hto : -100000 ≤ to ∧ to ≤ 100000) (hok : ispOK (cvx ls) (evok ls) hv (f + 1) a b fr to d) (hln : os.length + (isp (cvx ls) hv (f + 1) a b fr to d).length ≤ 1000000) : CalP Tryz.prog 85 #[iq (a, b), .int .i64 fr, .int .i64 to, .int .i64 (d : Int), .pointer (some ⟨bh, 0, none⟩), .pointer (some ⟨bo, 0, none⟩), .pointer (some ⟨bl, 0, none⟩), .pointer (some ⟨bs, 0, none⟩)] [rbox bh 3 #[.int .i64 hv], rbox bl 44 #[vl], deep 1 encS qZ vl ls, rbox bs 113 #[.func (.func 85) #[] #[.pointer (some ⟨bh, 0, none⟩), .pointer (some ⟨bo, 0, none⟩), .pointer (some ⟨bl, 0, none⟩), .pointer (some ⟨bs, 0, none⟩)]]] (gb bo 69 8 79 iq vo os) (G := Value) (fun _ => True) (fun _ => .int .i64 0) (fun g => gb bo 69 8 79 iq g (os ++ (isp (cvx ls) hv (f + 1) a b fr to d))) := by
 refine calp_in Tryz.func85 J Tryz.ntmps85 J K4 ?_
 intro w0 sc hw hsc
 simp only [Zq, Zo]
 obtain ⟨ha1, ha2, ha3⟩ := ha
 obtain ⟨hb1, hb2, hb3⟩ := hb
 have hcm := chg_range (sgx ls (fat (smid a b).1 (smid a b).2))
 rw [length_sgx] at hcm
 have hcv : cvx ls (smid a b) = chg (sgx ls (fat (smid a b).1 (smid a b).2)) := rfl
 refine Yk (Qo 1 60 J J J) <|Yk (Qa 999 2 28 wv) <|Yk (Xa 999 J J pV) <|Zb <|Ze <|tt (Yy (i := 6) J J J J J J hw) J fun bx _ => Zm J J <|Zd <|Za <|Zb <|Zv <|Zb <|Ze <|mv J J <|mv J J <|dt (Xh J J J) J <|Zm J J <|Zd <|Za <|Zn J (fun h231 => ?_) (fun h231 => ?_)
 ·have hI : (isp (cvx ls) hv (f + 1) a b fr to d) = [] := by unfold isp; rw [if_pos h231]
  exact Zb <|Ze <|Zm J J <|Zd <|Za <|Zr <|x_br <|Yw <|Qe (Qp 1 60 J J J J J) <|x_endp (.inl J) hsc vo _ (fun a w hs => Yt hs Tryz.results85 J) J trivial 1 (by rw [hI, List.append_nil] <;> rfl) J J J (Zg 2 J J J (Zg 3 J J J (Zg 4 J J J (Zg 5 J J J Zf))))
 ·have hne : ¬ fr = to := h231
  refine Qm [(1, _), (2, _), (3, _), (5, _), (6, _), (7, _), (8, _)] [(0, _), (2, _), (3, _), (4, _), (5, _), (1, _), (60, _), (999, _), (6, _)] (fun (_j : Unit) => [(21, .bool (decide (fr - to = 1 ∧ hv ≤ (d : Int))))]) (fun (_j : Unit) => []) (fun (_j : Unit) => True) K7 K9 ?_ ?_
  ·refine Ze <|mv J J <|mv J J <|dt (Yz J J J ⟨by omega, by omega⟩) J <|dt (Xh J J J) J <|mv J J <|Xu (d := 26) J (fun s233 => ?_) (fun s233 => ?_)
   ·exact Yr (Zw J J) J J J J <|Yr (d_lr (i := 2) J J J iA3 J) J J J J <|Yr (Qd J J J) J J J J <|dt (Yp J J J) J <|Zm J J <|Zd <|Yx () trivial ⟨by first | exact congrArg (fun z => some (Value.bool z)) (decide_eq_decide.2 (by omega)) | exact congrArg (fun z => some (Value.bool z)) (decide_eq_false (by omega)).symm, rfl, rfl, rfl, rfl, rfl, rfl, rfl, trivial⟩ K9
   ·exact Xm J J J J J <|Xm J J J J J <|Xm J J J J J <|dt (Yd J J J) J <|Zm J J <|Zd <|Yx () trivial ⟨by first | exact congrArg (fun z => some (Value.bool z)) (decide_eq_decide.2 (by omega)) | exact congrArg (fun z => some (Value.bool z)) (decide_eq_false (by omega)).symm, rfl, rfl, rfl, rfl, rfl, rfl, rfl, trivial⟩ K9
  ·rintro _j -
   simp only [List.cons_append, List.nil_append]
   refine Zn J (fun h233 => ?_) (fun h233 => ?_)
   ·have hI : (isp (cvx ls) hv (f + 1) a b fr to d) = [(a, b)] := by unfold isp; rw [if_neg hne, if_pos h233]
    rw [hI] at hln
    simp only [List.length_singleton] at hln
    exact Zb <|Ze <|dt (Xk (i := 1) J J J iA69 J) J <|dt (d_lb8 (i := 6) J J J iA79 zT79 J J J J J J J J) J <|tt (Xf (i := 7) (ivs := [(0, _)]) (enc := iq) [(a, b)] J J J K2 uT69 Tryz.ti79 J J J (fill18 _ _ _ _ _ _ _ _ _ _ _ _ _ _ _ _) J J pY.cells J J hw) J fun v _ => tt (t_appa (i := 60) (j := 7) (by_ := 96) J J J J J J (by decide) J (Yi pY) uT69 Tryz.ti79 J pY J J J (by simp; omega) (by decide) J hw) J fun v_2 _ => tt (t_st1 (i := 1) J J J J J (by decide) zT69 (Yf (i := 60) J (Yi pY)) J hw trivial) J fun _ _ => Zd <|Za <|Zb <|Ze <|Zm J J <|Zd <|Za <|Zr <|x_br <|Yw <|Qe (Qp 1 60 J J J J J) <|x_endp (.inl J) hsc v_2 _ (fun a w hs => Yt hs Tryz.results85 J) J trivial 1 (by rw [hI] <;> rfl) J J J (Zg 2 J J J (Zg 3 J J J (Zg 4 J J J (Zg 5 J J J Zf))))
   ·have hnl : ¬ (fr - to = 1 ∧ hv ≤ (d : Int)) := h233
    obtain ⟨hdl, hmid, hev, hk1, hk2⟩ : d < 1000 ∧ midOK a b ∧ evok ls (smid a b) ∧ ispOK (cvx ls) (evok ls) hv f a (smid a b) fr (cvx ls (smid a b)) (d + 1) ∧ ispOK (cvx ls) (evok ls) hv f (smid a b) b (cvx ls (smid a b)) to (d + 1) := by
     rcases hok with h | h | h
     ·exact absurd h hne
     ·exact absurd h hnl
     ·exact h
    have hI : (isp (cvx ls) hv (f + 1) a b fr to d) = isp (cvx ls) hv f a (smid a b) fr (cvx ls (smid a b)) (d + 1) ++ isp (cvx ls) hv f (smid a b) b (cvx ls (smid a b)) to (d + 1) := by
     conv => lhs; unfold isp
     rw [if_neg hne, if_neg hnl]
    rw [hI, List.length_append] at hln
    obtain ⟨hm1, hm2⟩ := midOK_bl hmid
    have hm3 := midOK_pos hmid ha3 hb3
    have hme := midOK_err hmid
    have hcr : -100000 ≤ cvx ls (smid a b) ∧ cvx ls (smid a b) ≤ 100000 := by rw [hcv]; omega
    refine Zb <|Ze <|mv J J <|dt (Qd J J J) J <|Zm J J <|Zd <|Za <|Zn J (fun h236 => ?_) (fun h236 => ?_)
    ·exfalso; omega
    ·refine Zk <|Xq <|Za <|Zb <|Ze <|dt (Yu J J uT79 J zT49 J J) J <|dt (Xb (i := 6) J J J iA49 zT49 J J J J) J <|dt (Yu J J uT79 J zT49 J J) J <|dt (Xb (i := 6) J J J iA49 zT49 J J J J) J <|tt (Zh (n := 7) (st_middle _ _ _ _ ha1 ha2 hb1 hb2 ha3 hb3 hmid.1) J J J K2 cF86 Zf J hw) J fun _ _ => mv J J <|dt (Zt J J J) J <|dt (Zt J J J) J <|tt (Zp (i := 8) J J J Tryz.zeroValue49 J J hw) J fun bx_2 _ => tt (Zl (i := 8) J J J J J (by decide) J zT49 J J ⟨(Zc J), (Zc J), (Zc J), (Zc J), trivial⟩ J hw trivial) J fun _ _ => Zm J J <|Zd <|Za <|Zb <|Zb <|Ze <|mv J J <|dt (Zu (r' := .bool false) (Ym J J J) (congrArg Value.bool (by rw [hme]; rfl))) J <|Zd <|Za <|Yc J <|Zk <|Za <|Zb <|Ze <|dt (d_lr (i := 3) J J J iA44 J) J <|dt (Xb (i := 8) J J J iA49 zT49 J J J J) J <|tt (Zh (n := 8) (st_at _ _ _ _ hm1 hm2 hm3 hvz hev) J J J K2 cF77 (Zg 4 J J J Zf) J hw) J fun _ _ => mv J J <|dt (Zt J J J) J <|dt (Zt J J J) J <|Zm J J <|Zm J J <|Zd <|Za <|Zb <|Zb <|Ze <|mv J J <|dt (Zu (r' := .bool false) (Ym J J J) (congrArg Value.bool (by decide))) J <|Zd <|Za <|Yc J <|Zk <|Za <|Zb <|Zb <|Ze <|dt (d_lr (i := 5) J J J iA113 J) J <|dt (Yu J J uT79 J zT49 J J) J ?_
     refine dt (Xb (i := 6) J J J iA49 zT49 J J J J) J <|dt (Xb (i := 8) J J J iA49 zT49 J J J J) J <|dt (Xg (ivs := [(0, _), (1, _)]) J K4 (fun a w hs => b79_01)) J <|mv J J <|mv J J <|mv J J <|dt (Yl J J J ⟨by omega, by omega⟩) J <|Xi (Qp 1 60 J J J J J) <|tt (t_callp (i := 1) (fs := []) (vs := [_, _, _, _]) (us := [_, _, _, _]) (ih _ _ a (smid a b) fr (cvx ls (smid a b)) (d + 1) ⟨ha1, ha2, ha3⟩ ⟨hm1, hm2, hm3⟩ hfr hcr hk1 (by omega)) J J J J K4 cF85 J J (by decide) (Zg 2 J J J (Zg 3 J J J (Zg 4 J J J (Zg 5 J J J Zf)))) J hw (fun _ _ => trivial)) J fun vg _ => Xi (Qo 1 60 J J J) <|Zm J J <|Zd <|Za <|Zb <|Ze <|mv J J <|dt (Zu (r' := .bool false) (Ym J J J) (congrArg Value.bool (by decide))) J <|Zd <|Za <|Yc J <|Zk <|Za <|Zb <|Ze <|dt (d_lr (i := 5) J J J iA113 J) J <|dt (Xb (i := 8) J J J iA49 zT49 J J J J) J <|dt (Yu J J uT79 J zT49 J J) J <|dt (Xb (i := 6) J J J iA49 zT49 J J J J) J <|dt (Xg (ivs := [(0, _), (1, _)]) J K4 (fun a w hs => b79_01)) J <|mv J J <|mv J J <|mv J J <|dt (Yl J J J ⟨by omega, by omega⟩) J <|Xi (Qp 1 60 J J J J J) ?_
     exact tt (t_callp (i := 1) (fs := []) (vs := [_, _, _, _]) (us := [_, _, _, _]) (ih _ _ (smid a b) b (cvx ls (smid a b)) to (d + 1) ⟨hm1, hm2, hm3⟩ ⟨hb1, hb2, hb3⟩ hcr hto hk2 (by rw [List.length_append]; omega)) J J J J K4 cF85 J J (by decide) (Zg 2 J J J (Zg 3 J J J (Zg 4 J J J (Zg 5 J J J Zf)))) J hw (fun _ _ => trivial)) J fun vg_2 _ => Xi (Qo 1 60 J J J) <|Zm J J <|Zd <|Za <|Zr <|Qe (Qp 1 60 J J J J J) <|x_endp (.inl J) hsc vg_2 _ (fun a w hs => Yt hs Tryz.results85 J) J trivial 1 (by rw [hI, ← List.append_assoc] <;> rfl) J J J (Zg 2 J J J (Zg 3 J J J (Zg 4 J J J (Zg 5 J J J Zf))))
end Go.Sky

