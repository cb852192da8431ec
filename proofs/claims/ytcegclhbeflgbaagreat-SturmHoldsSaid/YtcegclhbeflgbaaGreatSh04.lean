/- rules, arithmetic and contracts: part 5
   Proved without conditions of its own: each theorem bears its own. -/
import Derived.Test.YtcegclhbeflgbaaGreatSh03
import Derived.Test.YtcegclhbeflgbaaGreatSh02
import Derived.Test.YtcegclhbeflgbaaGreatSh01
set_option linter.all false
namespace Go.Sky
set_option linter.unusedVariables false
theorem st_fl {l : List (Int × Int)} {i : Nat} {a b f : Bool} (hi : i < l.length) (h : f = (a || (l.take i).any ef)) (hb : b = (f || ef (l.getD i (0, 0)))) : b = (a || (l.take (i + 1)).any ef) := by
  rw [hb, h, take_snoc (0, 0) l i hi, List.any_append]
  simp [Bool.or_assoc]
theorem int_sign_pos {z : Int} (h : 0 < z.sign) : 0 < z := by
  rcases Int.lt_trichotomy z 0 with h1 | h1 | h1
  · rw [Int.sign_eq_neg_one_of_neg h1] at h; omega
  · subst h1; simp at h
  · exact h1
theorem int_pos_sign {z : Int} (h : 0 < z) : z.sign = 1 := Int.sign_eq_one_of_pos h
theorem st_flt {xs : List Int} {x y x2 y2 : Int} (h : true = (!decide (sfits xs) || ([(x, y), (x2, y2)].take 2).any ef)) : ¬ (sfits xs ∧ ef (x, y) = false ∧ ef (x2, y2) = false) := fun ⟨h1, h2, h3⟩ => by
  simp [h1, h2, h3] at h
theorem st_flf {xs : List Int} {x y x2 y2 : Int} (h : false = (!decide (sfits xs) || ([(x, y), (x2, y2)].take 2).any ef)) : sfits xs ∧ ef (x, y) = false ∧ ef (x2, y2) = false := by
  have h := h.symm
  simp at h
  exact ⟨h.1, h.2.1, h.2.2⟩
theorem vp_pder {p : List Int} (h : Vp p) (hz : ∀ i, i < p.length → bl (cf p (i + 1) * ((i : Int) + 1)).natAbs ≤ 65536) : Vp (pder p) := by
  refine ⟨fun i => ?_, tr_pder h.tr, by rw [len_pder']; have := h.len; omega⟩
  rw [cf_pder']
  by_cases hi : i < p.length
  · exact hz i hi
  · rw [cf_ge (by omega)]; simp [bl_zero]
theorem sf_t {xs : List Int} (h : xs.length = 0) : Value.bool (decide (sfits xs)) = .bool true := congrArg Value.bool (decide_eq_true (.inl h))
theorem sf_i {xs : List Int} {n : Int} (h : xs.length ≠ 0) (hn : n = (((xs.length + 2) * (xs.length + 2) * (msz xs + 16) : Nat) : Int)) : Value.bool (decide (sfits xs)) = .bool (decide (n ≤ 65536)) := congrArg Value.bool (decide_eq_decide.2 (by
  subst hn
  show (xs.length = 0 ∨ (xs.length + 2) * (xs.length + 2) * (msz xs + 16) ≤ 65536) ↔ _
  constructor
  · intro h1; rcases h1 with h1 | h1
    · exact absurd h1 h
    · exact Int.ofNat_le.2 h1
  · intro h1; exact .inr (Int.ofNat_le.1 h1)))
theorem ef_1 {f : Bool} (z : Int × Int) (h : f = true) : true = (f || ef z) := by rw [h]; rfl
theorem ef_2 (f : Bool) {z : Int × Int} (h : (512 : Int) < (bl z.1.natAbs : Int)) : true = (f || ef z) := by
  unfold ef; rw [decide_eq_true (by omega)]; simp
theorem ef_3 {f : Bool} {z : Int × Int} (hf : f = false) (h : ¬ (512 : Int) < (bl z.1.natAbs : Int)) : decide ((512 : Int) < (bl z.2.natAbs : Int)) = (f || ef z) := by
  unfold ef; rw [hf, decide_eq_false (p := 512 < bl z.1.natAbs) (by omega)]
  simp only [Bool.false_or]
  rw [decide_eq_decide]; omega
theorem snext_nil {x y : List Int} (h : (prest x y).length = 0) : snext x y = [] := by
  have h1 : prest x y = [] := List.eq_nil_of_length_eq_zero h
  unfold snext; rw [h1]; split <;> rfl
theorem snext_a {x y : List Int} (hl : y.length ≤ x.length) (h1 : (cf y (y.length - 1)).sign < 0) (h2 : ((x.length : Int) - (y.length : Int) + 1) % 2 = 1) : snext x y = pprim (prest x y) := by
  unfold snext; rw [if_pos ⟨(sign_neg_iff _).1 h1, by omega⟩]
theorem snext_b {x y : List Int} (h1 : ¬ (cf y (y.length - 1)).sign < 0) : snext x y = pscale (pprim (prest x y)) (-1) := by
  unfold snext; rw [if_neg (fun h => h1 ((sign_neg_iff _).2 h.1))]
theorem snext_c {x y : List Int} (hl : y.length ≤ x.length) (h2 : ¬ ((x.length : Int) - (y.length : Int) + 1) % 2 = 1) : snext x y = pscale (pprim (prest x y)) (-1) := by
  unfold snext; rw [if_neg (fun h => h2 (by omega))]
end Go.Sky
namespace Go.Sky
theorem vp_sqf {xs : List Int} {F : Nat} (hv : Vp xs) (h0 : xs ≠ []) (h : sqOK F xs) : Vp (sqf F xs) := by
  obtain ⟨_, _, _, h4, h5⟩ := h
  have hn := vp_nrm hv
  unfold sqf pquoz
  split
  · exact ⟨Sz.nil _, Tr.nil, by simp⟩
  · rename_i h6
    rcases h5 with h5 | h5
    · exact absurd h5 h6
    · have h7 := (derr_ok h4).2 h5.1
      refine ⟨?_, tr_tzl _, ?_⟩
      · rw [← dout_all]; exact (sz_pquo h7 h5.2.1 _).tzl
      · have h8 := tzl_le (dout (nrm xs) (pgcd F (nrm xs) (pder (nrm xs))) ((nrm xs).length - (pgcd F (nrm xs) (pder (nrm xs))).length + 1))
        rw [dout_all, length_dout] at h8
        have := hn.len
        have := (derr_ok h4).1
        omega
theorem length_sqf {xs : List Int} {F : Nat} (hv : Vp xs) (h : sqOK F xs) : (sqf F xs).length ≤ xs.length := by
  obtain ⟨_, _, _, h4, h5⟩ := h
  have hl := length_nrm hv.tr
  unfold sqf pquoz
  split
  · exact Nat.zero_le _
  · rename_i h6
    rcases h5 with h5 | h5
    · exact absurd h5 h6
    · have h8 := tzl_le (dout (nrm xs) (pgcd F (nrm xs) (pder (nrm xs))) ((nrm xs).length - (pgcd F (nrm xs) (pder (nrm xs))).length + 1))
      rw [dout_all, length_dout] at h8
      have := (derr_ok h4).1
      have := h5.1
      omega
end Go.Sky
namespace Go.Sky
theorem chg_0 {L : List Int} {i : Nat} {n l s : Int} (hi : i < L.length) (h : (n, l) = (L.take i).foldl chg1 (0, 0)) (hs : L.getD i 0 = s) (h0 : s = 0) : (n, l) = (L.take (i + 1)).foldl chg1 (0, 0) := by
  rw [take_snoc 0 L i hi, foldl_snoc, ← h, hs]; unfold chg1; rw [if_pos h0]
theorem chg_a {L : List Int} {i : Nat} {n l s : Int} (hi : i < L.length) (h : (n, l) = (L.take i).foldl chg1 (0, 0)) (hs : L.getD i 0 = s) (h0 : s ≠ 0) (h1 : s = -l) : (n + 1, s) = (L.take (i + 1)).foldl chg1 (0, 0) := by
  rw [take_snoc 0 L i hi, foldl_snoc, ← h, hs]; unfold chg1; rw [if_neg h0]; dsimp only; rw [if_pos h1]
theorem chg_b {L : List Int} {i : Nat} {n l s : Int} (hi : i < L.length) (h : (n, l) = (L.take i).foldl chg1 (0, 0)) (hs : L.getD i 0 = s) (h0 : s ≠ 0) (h1 : ¬ s = -l) : (n, s) = (L.take (i + 1)).foldl chg1 (0, 0) := by
  rw [take_snoc 0 L i hi, foldl_snoc, ← h, hs]; unfold chg1; rw [if_neg h0]; dsimp only; rw [if_neg h1]
theorem chg_end {L : List Int} {i : Nat} {n l : Int} (hi : L.length ≤ i) (h : (n, l) = (L.take i).foldl chg1 (0, 0)) : n = chg L := by
  rw [List.take_of_length_le hi] at h
  unfold chg; rw [← h]
theorem sg_range (z : Int) : -1 ≤ z.sign ∧ z.sign ≤ 1 := by
  rcases Int.lt_trichotomy z 0 with h | h | h
  · rw [Int.sign_eq_neg_one_of_neg h]; omega
  · subst h; simp
  · rw [Int.sign_eq_one_of_pos h]; omega
theorem map_getD {α : Type} (d : α) (f : α → Int) (ls : List α) {i : Nat} (h : i < ls.length) : (ls.map f).getD i 0 = f (ls.getD i d) := by
  simp [List.getD_eq_getElem?_getD, h]
def sgx (ls : List (SL × List Int)) (f : List Int → Int) : List Int := ls.map fun z => f z.2
theorem sgx_getD (ls : List (SL × List Int)) (f : List Int → Int) {i : Nat} (h : i < ls.length) : (sgx ls f).getD i 0 = f (ls.getD i ((none, 0, 0), [])).2 := map_getD _ _ _ h
theorem length_sgx (ls : List (SL × List Int)) (f : List Int → Int) : (sgx ls f).length = ls.length := List.length_map ..
def fr (p : List Int) : Int := (cf p (p.length - 1)).sign
def fl (p : List Int) : Int := if p.length % 2 = 0 then - (cf p (p.length - 1)).sign else (cf p (p.length - 1)).sign
def fat (x y : Int) (p : List Int) : Int := (pev p x y).sign
theorem fr_r (p : List Int) : -1 ≤ fr p ∧ fr p ≤ 1 := sg_range _
theorem fl_r (p : List Int) : -1 ≤ fl p ∧ fl p ≤ 1 := by unfold fl; have := sg_range (cf p (p.length - 1)); split <;> omega
theorem fat_r (x y : Int) (p : List Int) : -1 ≤ fat x y p ∧ fat x y p ≤ 1 := sg_range _
end Go.Sky
namespace Go.Sky
theorem vp_schain : ∀ (f : Nat) {x y : List Int}, Vp x → Vp y → cok f x y → ∀ p ∈ schain f x y, Vp p
  | 0, x, y, hx, _, _, p, hp => by rw [List.mem_singleton.1 hp]; exact hx
  | f + 1, x, y, hx, hy, h, p, hp => by
    unfold schain at hp
    split at hp
    · rw [List.mem_singleton.1 hp]; exact hx
    · rcases h with h | h
      · contradiction
      · rcases List.mem_cons.1 hp with rfl | hp
        · exact hx
        · exact vp_schain f hy (vp_snext hx h.1) h.2.2 p hp
theorem ne_schain : ∀ (f : Nat) {x y : List Int}, x ≠ [] → ∀ p ∈ schain f x y, p ≠ []
  | 0, x, y, hx, p, hp => by rw [List.mem_singleton.1 hp]; exact hx
  | f + 1, x, y, hx, p, hp => by
    unfold schain at hp
    split at hp
    · rw [List.mem_singleton.1 hp]; exact hx
    · rename_i h
      rcases List.mem_cons.1 hp with rfl | hp
      · exact hx
      · exact ne_schain f h p hp
theorem vp_chn {xs : List Int} {F : Nat} (hv : Vp xs) (h0 : xs ≠ []) (hC : chOK F xs) : ∀ p ∈ chn F xs, Vp p := by
  obtain ⟨h1, h2, h3⟩ := hC
  have hq := vp_sqf hv h0 h1
  exact vp_schain F hq (vp_pprim (vp_pder hq (fun i hi => h2 i (by have := length_sqf hv h1; omega)))) h3
def cnt (F : Nat) (xs : List Int) (x y : Int) : Int := chg ((chn F xs).map (fat x y))
def sright (F : Nat) (xs : List Int) : Int := chg ((chn F xs).map fr)
def sleft (F : Nat) (xs : List Int) : Int := chg ((chn F xs).map fl)
theorem sgx_map {ls : List (SL × List Int)} {C : List (List Int)} (h : ls.map Prod.snd = C) (f : List Int → Int) : sgx ls f = C.map f := by
  rw [← h, List.map_map]; rfl
theorem mem_snd {ls : List (SL × List Int)} {C : List (List Int)} {p : List Int → Prop} (h : ls.map Prod.snd = C) (hp : ∀ q ∈ C, p q) : ∀ z ∈ ls, p z.2 := fun z hz => hp _ (h ▸ List.mem_map_of_mem hz)
theorem chk2_fits {xs : List Int} {x y x2 y2 : Int} (h : chk2r xs x y x2 y2 = 0) : xs ≠ [] ∧ sfits xs := by
  unfold chk2r at h
  by_cases h1 : xs.length = 0
  · rw [if_pos h1] at h; cases h
  · rw [if_neg h1] at h
    split at h
    · cases h
    · split at h
      · rename_i h3; exact ⟨fun e => h1 (by rw [e]; rfl), h3.1⟩
      · cases h
theorem chk0_fits {xs : List Int} (h : chk0 xs = 0) : xs ≠ [] ∧ sfits xs := by
  unfold chk0 at h
  by_cases h1 : xs.length = 0
  · rw [if_pos h1] at h; cases h
  · rw [if_neg h1] at h
    split at h
    · rename_i h3; exact ⟨fun e => h1 (by rw [e]; rfl), h3⟩
    · cases h
theorem chg_range (L : List Int) : 0 ≤ chg L ∧ chg L ≤ L.length := by
  unfold chg
  suffices h : ∀ (l : List Int) (s : Int × Int), s.1 ≤ (l.foldl chg1 s).1 ∧ (l.foldl chg1 s).1 ≤ s.1 + l.length by
    have := h L (0, 0); simpa using this
  intro l
  induction l with
  | nil => intro s; simp
  | cons x l ih =>
    intro s
    have h1 := ih (chg1 s x)
    have h2 := chg1_n s x
    simp only [List.foldl_cons, List.length_cons]
    omega
theorem length_schain : ∀ (f : Nat) (x y : List Int), (schain f x y).length ≤ f + 1
  | 0, x, y => Nat.le_refl _
  | f + 1, x, y => by
    unfold schain; split
    · simp
    · have := length_schain f y (snext x y); simp; omega
end Go.Sky
namespace Go.Sky
theorem smost_b {xs : List Int} {n : Nat} (h : Sz n xs) : bl (smost xs) ≤ n := by
  unfold smost
  suffices hh : ∀ (l : List Int) (m : Nat), (∀ c ∈ l, bl c.natAbs ≤ n) → bl m ≤ n → bl (l.foldl (fun m c => max m c.natAbs) m) ≤ n from
    hh _ 0 (fun c hc => h.mem (List.mem_of_mem_take hc)) (Nat.zero_le _)
  intro l
  induction l with
  | nil => intro m _ hm; exact hm
  | cons c l ih =>
    intro m hl hm
    refine ih _ (fun c hc => hl c (List.mem_cons_of_mem _ hc)) ?_
    have := hl c (List.mem_cons_self ..)
    show bl (max m c.natAbs) ≤ n
    rcases Nat.le_total m c.natAbs with h | h
    · rw [Nat.max_eq_right h]; exact this
    · rw [Nat.max_eq_left h]; exact hm
def sm (xs : List Int) (i : Nat) : Nat := (xs.take i).foldl (fun m c => max m c.natAbs) 0
theorem sm_succ {xs : List Int} {i : Nat} (h : i < xs.length) : sm xs (i + 1) = max (sm xs i) (cf xs i).natAbs := by
  unfold sm; rw [take_snoc 0 xs i h, foldl_snoc]; rfl
theorem sm_b {xs : List Int} {n : Nat} (h : Sz n xs) (i : Nat) : bl (sm xs i) ≤ n := by
  have := smost_b (xs := xs.take i ++ [0]) (n := n) (Sz.of_mem fun x hx => by
    rcases List.mem_append.1 hx with hx | hx
    · exact h.mem (List.mem_of_mem_take hx)
    · rw [List.mem_singleton.1 hx]; exact Nat.zero_le _)
  unfold smost at this
  rw [List.length_append, List.length_singleton, Nat.add_sub_cancel, List.take_append_of_le_length (Nat.le_refl _), List.take_length] at this
  exact this
theorem sign_sub_pos {a b : Nat} : 0 < ((a : Int) - (b : Int)).sign ↔ b < a := by
  constructor
  · intro h; have := int_sign_pos h; omega
  · intro h; rw [Int.sign_eq_one_of_pos (by omega)]; decide
theorem fits_msz {xs : List Int} (h : sfits xs) : msz xs ≤ 20000 := by
  rcases h with h | h
  · rw [List.eq_nil_of_length_eq_zero h]; exact Nat.zero_le _
  · have h2 : 2 * 2 * (msz xs + 16) ≤ (xs.length + 2) * (xs.length + 2) * (msz xs + 16) := Nat.mul_le_mul_right _ (Nat.mul_le_mul (by omega) (by omega))
    omega
theorem sbound_eq {xs : List Int} (h : xs ≠ []) : ((smost xs : Int)) / (((cf xs (xs.length - 1)).natAbs : Nat) : Int) + 2 = sbound xs := by
  unfold sbound; rw [Int.natCast_ediv]
theorem sbound_b {xs : List Int} {n : Nat} (h : Sz n xs) : bl (sbound xs).natAbs ≤ n + 2 := by
  unfold sbound
  have h1 : bl (smost xs / (cf xs (xs.length - 1)).natAbs) ≤ n := Nat.le_trans (bl_mono (Nat.div_le_self _ _)) (smost_b h)
  have h2 := (bl_le n _).1 h1
  rw [bl_le]
  generalize smost xs / (cf xs (xs.length - 1)).natAbs = q at h2 ⊢
  have h3 : 2 ^ (n + 2) = 4 * 2 ^ n := by rw [Nat.pow_add]; omega
  have h4 : 1 ≤ 2 ^ n := Nat.pow_pos (by decide)
  omega
end Go.Sky
namespace Go.Sky
theorem wv_abs (n : Nat) : wv (n : Int) = .agg #[.bool false, .string (bstr n)] := by
  unfold wv; rw [decide_eq_false (by omega)]; rfl
end Go.Sky
namespace Go.Sky
theorem nr_num {x y : Int} (h : ¬ rfull x y) : rnum x y = x / lgcd x y ∧ rden x y = y / lgcd x y ∧ rerr x y = 0 := ⟨if_neg h, if_neg h, if_neg h⟩
theorem nr_bl {x y : Int} (h : ¬ rfull x y) : bl (rnum x y).natAbs ≤ 65536 ∧ bl (rden x y).natAbs ≤ 65536 := by
  obtain ⟨h1, h2, _⟩ := nr_num h
  rw [h1, h2]
  unfold rfull at h
  omega
theorem nr_pos {x y : Int} (h : ¬ rfull x y) (hy : 0 < y) : 0 < rden x y := by
  rw [(nr_num h).2.1]; exact lgcd_denp hy
end Go.Sky
namespace Go.Sky
abbrev R2 := Int × Int
def smid (a b : R2) : R2 := (rnum (rnum (a.1 * b.2 + b.1 * a.2) (a.2 * b.2) * 1) (rden (a.1 * b.2 + b.1 * a.2) (a.2 * b.2) * 2), rden (rnum (a.1 * b.2 + b.1 * a.2) (a.2 * b.2) * 1) (rden (a.1 * b.2 + b.1 * a.2) (a.2 * b.2) * 2))
def midOK (a b : R2) : Prop := ¬ rfull (a.1 * b.2 + b.1 * a.2) (a.2 * b.2) ∧ ¬ rfull (rnum (a.1 * b.2 + b.1 * a.2) (a.2 * b.2) * 1) (rden (a.1 * b.2 + b.1 * a.2) (a.2 * b.2) * 2)
instance (a b : R2) : Decidable (midOK a b) := by unfold midOK; infer_instance
theorem midOK_bl {a b : R2} (h : midOK a b) : bl (smid a b).1.natAbs ≤ 65536 ∧ bl (smid a b).2.natAbs ≤ 65536 := nr_bl h.2
theorem midOK_pos {a b : R2} (h : midOK a b) (ha : 0 < a.2) (hb : 0 < b.2) : 0 < (smid a b).2 := nr_pos h.2 (Int.mul_pos (nr_pos h.1 (Int.mul_pos ha hb)) (by decide))
theorem midOK_err {a b : R2} (h : midOK a b) : rerr (rnum (a.1 * b.2 + b.1 * a.2) (a.2 * b.2) * 1) (rden (a.1 * b.2 + b.1 * a.2) (a.2 * b.2) * 2) = 0 := (nr_num h.2).2.2
def isp (cv : R2 → Int) (hv : Int) : Nat → R2 → R2 → Int → Int → Nat → List (R2 × R2)
  | 0, _, _, _, _, _ => []
  | f + 1, a, b, fr, to, d => if fr = to then [] else if fr - to = 1 ∧ hv ≤ (d : Int) then [(a, b)] else isp cv hv f a (smid a b) fr (cv (smid a b)) (d + 1) ++ isp cv hv f (smid a b) b (cv (smid a b)) to (d + 1)
def ispOK (cv : R2 → Int) (ok : R2 → Prop) (hv : Int) : Nat → R2 → R2 → Int → Int → Nat → Prop
  | 0, _, _, _, _, _ => False
  | f + 1, a, b, fr, to, d => fr = to ∨ (fr - to = 1 ∧ hv ≤ (d : Int)) ∨ (d < 1000 ∧ midOK a b ∧ ok (smid a b) ∧ ispOK cv ok hv f a (smid a b) fr (cv (smid a b)) (d + 1) ∧ ispOK cv ok hv f (smid a b) b (cv (smid a b)) to (d + 1))
instance ispDec (cv : R2 → Int) (ok : R2 → Prop) [DecidablePred ok] (hv : Int) : ∀ f a b fr to d, Decidable (ispOK cv ok hv f a b fr to d)
  | 0, _, _, _, _, _ => inferInstanceAs (Decidable False)
  | f + 1, a, b, fr, to, d => @instDecidableOr _ _ _ (@instDecidableOr _ _ _ (@instDecidableAnd _ _ _ (@instDecidableAnd _ _ _ (@instDecidableAnd _ _ _ (@instDecidableAnd _ _ (ispDec cv ok hv f a (smid a b) fr (cv (smid a b)) (d + 1)) (ispDec cv ok hv f (smid a b) b (cv (smid a b)) to (d + 1)))))))
def okQ (z : R2) : Prop := bl z.1.natAbs ≤ 65536 ∧ bl z.2.natAbs ≤ 65536 ∧ 0 < z.2
def evok (ls : List (SL × List Int)) (m : R2) : Prop := ∀ z ∈ ls, ¬ evfull z.2 m.1 m.2
def cvx (ls : List (SL × List Int)) (m : R2) : Int := chg (sgx ls (fat m.1 m.2))
end Go.Sky
namespace Go.Sky
def cvc (F : Nat) (xs : List Int) (m : R2) : Int := cnt F xs m.1 m.2
def evc (F : Nat) (xs : List Int) (m : R2) : Prop := ∀ p ∈ chn F xs, ¬ evfull p m.1 m.2
theorem cvx_eq {ls : List (SL × List Int)} {F : Nat} {xs : List Int} (h : ls.map Prod.snd = chn F xs) : cvx ls = cvc F xs := funext fun m => by
  unfold cvx cvc cnt; rw [sgx_map h]
theorem evok_eq {ls : List (SL × List Int)} {F : Nat} {xs : List Int} (h : ls.map Prod.snd = chn F xs) : evok ls = evc F xs := funext fun m => propext ⟨fun h1 p hp => by
  rw [← h] at hp
  obtain ⟨z, hz, rfl⟩ := List.mem_map.1 hp
  exact h1 z hz, fun h1 => mem_snd h h1⟩
def slow (a : R2) : R2 := (rnum a.1 a.2, rden a.1 a.2)
def sisol (F : Nat) (xs : List Int) (f : Nat) (a b : R2) (hq : Int) : List (R2 × R2) := isp (cvc F xs) hq f (slow a) (slow b) (cvc F xs a) (cvc F xs b) 0
def isOK (F : Nat) (xs : List Int) (f : Nat) (a b : R2) (hq : Int) : Prop := chOK F xs ∧ evc F xs a ∧ evc F xs b ∧ ¬ rfull a.1 a.2 ∧ ¬ rfull b.1 b.2 ∧ ispOK (cvc F xs) (evc F xs) hq f (slow a) (slow b) (cvc F xs a) (cvc F xs b) 0 ∧ (sisol F xs f a b hq).length ≤ 1000000
theorem slow_ok {a : R2} (ha : okQ a) (h : ¬ rfull a.1 a.2) : okQ (slow a) := ⟨(nr_bl h).1, (nr_bl h).2, nr_pos h ha.2.2⟩
end Go.Sky
namespace Go.Sky
theorem getD_inI {l : List Int} (h : ∀ x ∈ l, inI x) (i : Nat) : inI (l.getD i 0) := by
  rcases Nat.lt_or_ge i l.length with h1 | h1
  · exact h _ (by simp [List.getD_eq_getElem?_getD, h1])
  · simp [List.getD_eq_getElem?_getD, List.getElem?_eq_none h1, inI]
end Go.Sky
namespace Go.Sky
theorem snd_getD {ls : List (SL × List Int)} {C : List (List Int)} (h : ls.map Prod.snd = C) (i : Nat) : (ls.getD i ((none, 0, 0), [])).2 = C.getD i [] := by
  subst h
  simp only [List.getD_eq_getElem?_getD, List.getElem?_map]
  cases ls[i]? <;> rfl
theorem snd_len {ls : List (SL × List Int)} {C : List (List Int)} (h : ls.map Prod.snd = C) : ls.length = C.length := by rw [← h, List.length_map]
end Go.Sky
namespace Go.Sky
open Go.Proofs
set_option maxRecDepth 20000
set_option maxHeartbeats 4000000
set_option linter.unusedVariables false
set_option linter.unusedSimpArgs false
theorem nat_trim (v : Value) (xs : List Nat) : Cal Tryz.prog 108 #[v] [slp 1 encU v xs] true (G := Unit) (fun _ => True) (fun _ => preV v (tz xs).length) (fun _ => [slp 1 encU (preV v (tz xs).length) (tz xs)]) := by
 refine Ya Tryz.func108 J Tryz.ntmps108 J K1 ?_
 intro w0 sc hw hsc
 simp only [Zp, Zo]
 refine Qh (f_self (i := 1) J Zi) fun hself => Qh (f_len (i := 1) J Zi) fun hlen => Zb <|Zd <|Zl J J <|Zc <|Za <|Zb <|Zm <|Xv [] [(0, _)] (fun (k : Nat) => [(0, preV v k)]) (fun (k : Nat) => [(1, slp 1 encU (preV v k) (xs.take k))]) (fun (k : Nat) => (k ≤ xs.length) ∧ (tz (xs.take k) = tz xs)) (fun (k : Nat) => k) xs.length ⟨Nat.le_refl _, by rw [List.take_length]⟩ ⟨by rw [hself]; rfl, trivial⟩ ⟨by rw [hself, List.take_length]; rfl, rfl, trivial⟩ ?_
 rintro k ⟨hk, ht⟩
 simp only [List.cons_append, List.nil_append]
 have hl : (xs.take k).length = k := by rw [List.length_take]; omega
 refine Zb <|Zb <|Zd <|mv J J <|dt (Zy J J (i := 1) J Zi uT127) J <|dt (Xd J J J) J <|mv J J <|Xo (d := 6) J (fun s21 => ?_) (fun s21 => ?_)
 ·refine Yj (Zv J J) J J J J <|Yj (Zv J J) J J J J <|Yj (Zy J J (i := 1) J Zi uT127) J J J J <|Yj (Xc J J J ⟨by omega, by omega⟩) J J J J <|Yj (Yf (ii := 1) (i := k - 1) J J J J Zi uT127 zT137 (by omega) (by omega)) J J J J <|Yj (Yn (ii := 1) 0 J J J Zi pU (by omega)) J J J J <|Yj (Xu J J J) J J J J <|dt (Ym J J J) J <|Zc <|Za <|Zn J (fun h21 => ?_) (fun h21 => ?_)
  ·have hstep := tz_step hk (by omega) (by omega : (xs.take k).getD (k - 1) 0 = 0)
   exact Zk <|Za <|Zm <|Zd <|mv J J <|mv J J <|dt (Zy J J (i := 1) J Zi uT127) J <|dt (Xc J J J ⟨by omega, by omega⟩) J <|dt (d_pre (ii := 1) (i := k - 1) J J J J Zi uT127 zT137 (by omega) (by omega)) J <|Zl J J <|Zc <|Xl <|Xz (s_pre 1 1 (k - 1) J J (by omega)) <|Yv (k - 1) ⟨by first | omega | (dsimp only <;> omega), by rw [← ht, ← hstep]⟩ (by first | omega | (dsimp only <;> omega)) ⟨by rw [← preV_preV v k (k - 1)]; rfl, trivial⟩ ⟨by rw [preV_preV, List.take_take, Nat.min_eq_left (by omega)]; rfl, rfl, trivial⟩
  ·refine Yo <|Zt <|Zt <|Xr <|Za <|Zb <|Zd <|mv J J <|Zl J J <|Zc <|Za <|Zq ?_
   have hx : tz xs = xs.take k := by rw [← ht]; exact tz_stop hk (by omega)
   exact Zr (.inl J) hsc () _ (fun a w hs => Yr hs Tryz.results108 J) (by rw [hx, hl]) trivial J (Yi 1 J J J (by rw [hx, hl]) Zj)
 ·refine Yy J J J J J <|Yy J J J J J <|Yy J J J J J <|Yy J J J J J <|Yy J J J J J <|Yy J J J J J <|Yy J J J J J <|dt (Zs J J J) J <|Zc <|Za <|Yd J <|Yo <|Zt <|Zt <|Xr <|Za <|Zb <|Zd <|mv J J <|Zl J J <|Zc <|Za <|Zq ?_
  have hx : tz xs = xs.take k := by rw [← ht]; exact tz_stop hk (by omega)
  exact Zr (.inl J) hsc () _ (fun a w hs => Yr hs Tryz.results108 J) (by rw [hx, hl]) trivial J (Yi 1 J J J (by rw [hx, hl]) Zj)
theorem nat_trim_own (v : Value) (xs : List Nat) : Cal Tryz.prog 108 #[v] [slp 1 encU v xs] false (G := Unit) (fun _ => True) (fun _ => preV v (tz xs).length) (fun _ => []) := (nat_trim v xs).bare
theorem nat_add (v w : Value) (x y : Nat) (hx : bl x ≤ 4294967296) (hy : bl y ≤ 4294967296) : Cal Tryz.prog 139 #[v, w] [dgp v x, dgp w y] false (G := Value) (fun r => True) (fun r => r) (fun r => [dgp r (x + y)]) := by
 refine Ya Tryz.func139 J Tryz.ntmps139 J K2 ?_
 intro w0 sc hw hsc
 simp only [Zp, Zo]
 have hX := lenU_bl x
 have hY := lenU_bl y
 refine Zb <|Zd <|Zl J J <|Zc <|Za <|e_jn [] [(0, _), (1, _), (2, _)] (fun (q : Value × Value × Nat × Nat) => [(0, q.1), (1, q.2.1)]) (fun (q : Value × Value × Nat × Nat) => [(91, dgp q.1 q.2.2.1), (92, dgp q.2.1 q.2.2.2)]) (fun (q : Value × Value × Nat × Nat) => (q.2.2.1 + q.2.2.2 = x + y) ∧ ((dg U q.2.2.2).length ≤ (dg U q.2.2.1).length) ∧ ((dg U q.2.2.1).length ≤ 1099511627776)) trivial K3 ?_ ?_
 ·refine Zb <|Zd <|mv J J <|dt (Zy J J (i := 1) J Zi uT127) J <|mv J J <|dt (Zy J J (i := 2) J Zi uT127) J <|dt (Yw J J J) J <|Zc <|Za <|Zn J (fun h73 => ?_) (fun h73 => ?_)
  ·exact Zd <|mv J J <|mv J J <|Zl J J <|Zl J J <|Zc <|Xz (s_dup 2 91 J J J) <|Xz (s_dup 1 92 J J J) <|Xq (w, v, y, x) ⟨by first | omega | (dsimp only <;> omega), by first | omega | (dsimp only <;> omega), by first | omega | (dsimp only <;> omega)⟩ K2 K5
  ·exact Zk <|Xz (s_dup 1 91 J J J) <|Xz (s_dup 2 92 J J J) <|Xq (v, w, x, y) ⟨by first | omega | (dsimp only <;> omega), by first | omega | (dsimp only <;> omega), by first | omega | (dsimp only <;> omega)⟩ K2 K5
 ·rintro ⟨va, vb, a, b⟩ ⟨hs, hl, hla⟩
  dsimp only at hs hl hla
  simp only [List.cons_append, List.nil_append]
  refine Zb <|Zd <|mv J J <|dt (Zy J J (i := 91) J Zi uT127) J <|dt (Yg J J J ⟨by omega, by omega⟩) J <|tt (t_mkn (i := 3) (n := (dg U a).length + 1) (by_ := 8) (enc := encU) 0 J J J J J (by omega) uT127 Tryz.ti137 J pU.cells pU.pos J J (by omega) (by decide) J hw) J fun v _ => Zl J J <|Zc <|Za <|Zb <|Zd <|Zl J J <|Zc <|Za <|Zb <|Zb <|Zd <|mv J J <|dt (Zy J J (i := 91) J Zi uT127) J <|mv J J <|Zc <|Za <|Zm <|Xv [(0, _), (1, _), (5, _), (21, _)] [(0, _), (91, _), (92, _), (1, _), (2, _)] (fun (q : Nat × List Nat × Nat) => [(22, .int .i64 (q.1 : Int)), (6, .int .u64 (q.2.2 : Int))]) (fun (q : Nat × List Nat × Nat) => [(3, osl 1 137 encU v q.2.1)]) (fun (q : Nat × List Nat × Nat) => (q.1 ≤ (dg U a).length) ∧ (q.2.1.length = (dg U a).length + 1) ∧ (∀ d ∈ q.2.1, d < U) ∧ (q.2.2 ≤ 1) ∧ (val U (q.2.1.take q.1) + q.2.2 * U ^ q.1 = val U ((dg U a).take q.1) + val U ((dg U b).take q.1))) (fun (q : Nat × List Nat × Nat) => (dg U a).length - q.1) (0, List.replicate ((dg U a).length + 1) 0, 0) ⟨by first | omega | (dsimp only <;> omega), by simp, all_replicate _ U_pos, by first | omega | (dsimp only <;> omega), by simp [val]⟩ K6 K6 ?_
  rintro ⟨k, o, c⟩ ⟨hk, hol, hoa, hc, hv⟩
  dsimp only at hk hol hoa hc hv
  simp only [List.cons_append, List.nil_append]
  refine Zb <|Zd <|dt (Yw J J J) J <|Zc <|Za <|Zb <|Zn J (fun h78 => ?_) (fun h78 => ?_)
  ·refine Zk <|Za <|Zb <|Zm <|Zb <|Zd <|mv J J <|Zl J J <|Zc <|Za <|Zb <|Zd <|Zl J J <|Zc <|Za <|e_jn [(0, _), (1, _), (5, _), (6, _), (7, _), (21, _), (22, _)] [(0, _), (3, _), (91, _), (92, _), (1, _), (2, _)] (fun (_ : Unit) => [(8, .int .u64 ((dg U b).getD k 0 : Int))]) (fun (_ : Unit) => []) (fun (_ : Unit) => True) K7 K6 ?_ ?_
   ·refine Zb <|Zd <|mv J J <|mv J J <|dt (Zy J J (i := 92) J Zi uT127) J <|dt (Yw J J J) J <|Zc <|Za <|Zn J (fun h80 => ?_) (fun h80 => ?_)
    ·refine Zd <|mv J J <|mv J J <|dt (Yf (ii := 92) J J J J Zi uT127 zT137 J (by first | omega | (simp only [List.length_set]; omega))) J <|dt (Yn (ii := 92) 0 J J J Zi pU (by first | omega | (simp only [List.length_set]; omega))) J <|Zl J J <|Zc ?_
     try (have hz : (dg U b).getD k 0 = 0 := by simp [List.getD, List.getElem?_eq_none (by omega : (dg U b).length ≤ k)])
     exact Xq () trivial ⟨by first | rfl | (rw [hz]; rfl), rfl, rfl, rfl, rfl, rfl, rfl, rfl, trivial⟩ K6
    ·refine Zk ?_
     try (have hz : (dg U b).getD k 0 = 0 := by simp [List.getD, List.getElem?_eq_none (by omega : (dg U b).length ≤ k)])
     exact Xq () trivial ⟨by first | rfl | (rw [hz]; rfl), rfl, rfl, rfl, rfl, rfl, rfl, rfl, trivial⟩ K6
   ·rintro _ -
    simp only [List.cons_append, List.nil_append]
    exact Zd <|mv J J <|mv J J <|mv J J <|mv J J <|dt (Yf (ii := 91) J J J J Zi uT127 zT137 J (by first | omega | (simp only [List.length_set]; omega))) J <|dt (Yn (ii := 91) 0 J J J Zi pU (by first | omega | (simp only [List.length_set]; omega))) J <|mv J J <|mv J J <|dt (d_add64 J J J J (by omega) add64_run) J <|mv J J <|dt (Zw J J J) J <|dt (Zw J J J) J <|dt (Yf (ii := 3) J J J J (Ye pU) uT127 zT137 J (by first | omega | (simp only [List.length_set]; omega))) J <|tt (Qo (i := 3) (enc := encU) _ J J J J J J (by decide) pU (by first | omega | (simp only [List.length_set]; omega)) J hw) J fun _ _ => Zl J J <|Zc <|Xl <|Za <|Zd <|dt (Yg J J J ⟨by omega, by omega⟩) J <|mv J J <|Zc <|Yv (k + 1, _, _) ⟨by first | omega | (dsimp only <;> omega), by simp; omega, all_set hoa _ _ (Nat.mod_lt _ U_pos), by have h1 := getD_lt U_pos (dg_lt two_U a) k; have h2 := getD_lt U_pos (dg_lt two_U b) k; simp only [U] at *; omega, add_step hv (by omega)⟩ (by first | omega | (dsimp only <;> omega)) K6 K6
  ·refine Yo <|Zt <|Zt <|Xr <|Za <|Zb ?_
   obtain rfl : k = (dg U a).length := by omega
   refine Zd <|mv J J <|mv J J <|dt (Zy J J (i := 91) J Zi uT127) J <|mv J J <|dt (Yf (ii := 3) J J J J (Ye pU) uT127 zT137 J (by first | omega | (simp only [List.length_set]; omega))) J <|tt (Qo (i := 3) (enc := encU) _ J J J J J J (by decide) pU (by first | omega | (simp only [List.length_set]; omega)) J hw) J fun _ _ => Zc <|Za <|Zb <|Zd <|mv J J <|tt (Zg (n := 3) (nat_trim_own _ _) J J J K1 cF108 (Xe 3 J J pU Ze) J hw) J fun _ _ => Xj (s_tz 3 J J pU) <|Zl J J <|Zc <|Za <|Zq ?_
   have hx : tz (o.set (dg U a).length c) = dg U (x + y) := by
    rw [← dg_val two_U _ (all_set hoa _ _ (by simp only [U]; omega)), ← hs]
    congr 1
    conv => rhs; rw [← val_dg two_U a, ← val_dg two_U b]
    rw [List.take_of_length_le (Nat.le_refl (dg U a).length), val_take_all U (dg U b) _ hl] at hv
    rw [← hv, ← val_take_set U o _ c (by omega), val_take_all _ _ _ (by simp; omega)]
   exact Zr (.inl J) hsc _ _ (fun a w hs => Yr hs Tryz.results139 J) J trivial J (Xs 3 J J pU hx Zj)
theorem nat_sub (v w : Value) (x y : Nat) (hx : bl x ≤ 4294967296) (hxy : y ≤ x) : Cal Tryz.prog 141 #[v, w] [dgp v x, dgp w y] false (G := Value) (fun r => True) (fun r => r) (fun r => [dgp r (x - y)]) := by
 refine Ya Tryz.func141 J Tryz.ntmps141 J K2 ?_
 intro w0 sc hw hsc
 simp only [Zp, Zo]
 have hX := lenU_bl x
 have hY := lenU_bl y
 have hm := bl_mono hxy
 refine Zb <|Zd <|Zl J J <|Zc <|Za <|Zb <|Zd <|mv J J <|dt (Zy J J (i := 1) J Zi uT127) J <|tt (t_mkn (i := 3) (n := (dg U x).length) (by_ := 8) (enc := encU) 0 J J J J J (by omega) uT127 Tryz.ti137 J pU.cells pU.pos J J (by omega) (by decide) J hw) J fun v _ => Zl J J <|Zc <|Za <|Zb <|Zd <|Zl J J <|Zc <|Za <|Zb <|Zb <|Zd <|mv J J <|dt (Zy J J (i := 1) J Zi uT127) J <|mv J J <|Zc <|Za <|Zm <|Xv [(0, _), (1, _), (5, _), (13, _)] [(0, _), (1, _), (2, _)] (fun (q : Nat × List Nat × Nat) => [(14, .int .i64 (q.1 : Int)), (6, .int .u64 (q.2.2 : Int))]) (fun (q : Nat × List Nat × Nat) => [(3, osl 1 137 encU v q.2.1)]) (fun (q : Nat × List Nat × Nat) => (q.1 ≤ (dg U x).length) ∧ (q.2.1.length = (dg U x).length) ∧ (∀ d ∈ q.2.1, d < U) ∧ (q.2.2 ≤ 1) ∧ (val U (q.2.1.take q.1) + val U ((dg U y).take q.1) = val U ((dg U x).take q.1) + q.2.2 * U ^ q.1)) (fun (q : Nat × List Nat × Nat) => (dg U x).length - q.1) (0, List.replicate ((dg U x).length) 0, 0) ⟨by first | omega | (dsimp only <;> omega), by simp, all_replicate _ U_pos, by first | omega | (dsimp only <;> omega), by simp [val]⟩ K6 K4 ?_
 rintro ⟨k, o, c⟩ ⟨hk, hol, hoa, hc, hv⟩
 dsimp only at hk hol hoa hc hv
 simp only [List.cons_append, List.nil_append]
 refine Zb <|Zd <|dt (Yw J J J) J <|Zc <|Za <|Zb <|Zn J (fun h93 => ?_) (fun h93 => ?_)
 ·refine Zk <|Za <|Zb <|Zm <|Zb <|Zd <|mv J J <|Zl J J <|Zc <|Za <|Zb <|Zd <|Zl J J <|Zc <|Za <|e_jn [(0, _), (1, _), (5, _), (6, _), (7, _), (13, _), (14, _)] [(0, _), (3, _), (1, _), (2, _)] (fun (_ : Unit) => [(8, .int .u64 ((dg U y).getD k 0 : Int))]) (fun (_ : Unit) => []) (fun (_ : Unit) => True) K7 K4 ?_ ?_
  ·refine Zb <|Zd <|mv J J <|mv J J <|dt (Zy J J (i := 2) J Zi uT127) J <|dt (Yw J J J) J <|Zc <|Za <|Zn J (fun h95 => ?_) (fun h95 => ?_)
   ·refine Zd <|mv J J <|mv J J <|dt (Yf (ii := 2) J J J J Zi uT127 zT137 J (by first | omega | (simp only [List.length_set]; omega))) J <|dt (Yn (ii := 2) 0 J J J Zi pU (by first | omega | (simp only [List.length_set]; omega))) J <|Zl J J <|Zc ?_
    try (have hz : (dg U y).getD k 0 = 0 := by simp [List.getD, List.getElem?_eq_none (by omega : (dg U y).length ≤ k)])
    exact Xq () trivial ⟨by first | rfl | (rw [hz]; rfl), rfl, rfl, rfl, rfl, rfl, rfl, rfl, trivial⟩ K4
   ·refine Zk ?_
    try (have hz : (dg U y).getD k 0 = 0 := by simp [List.getD, List.getElem?_eq_none (by omega : (dg U y).length ≤ k)])
    exact Xq () trivial ⟨by first | rfl | (rw [hz]; rfl), rfl, rfl, rfl, rfl, rfl, rfl, rfl, trivial⟩ K4
  ·rintro _ -
   simp only [List.cons_append, List.nil_append]
   exact Zd <|mv J J <|mv J J <|mv J J <|mv J J <|dt (Yf (ii := 1) J J J J Zi uT127 zT137 J (by first | omega | (simp only [List.length_set]; omega))) J <|dt (Yn (ii := 1) 0 J J J Zi pU (by first | omega | (simp only [List.length_set]; omega))) J <|mv J J <|mv J J <|dt (d_sub64 J J J J (by omega) sub64_run) J <|mv J J <|dt (Zw J J J) J <|dt (Zw J J J) J <|dt (Yf (ii := 3) J J J J (Ye pU) uT127 zT137 J (by first | omega | (simp only [List.length_set]; omega))) J <|tt (Qo (i := 3) (enc := encU) _ J J J J J J (by decide) pU (by first | omega | (simp only [List.length_set]; omega)) J hw) J fun _ _ => Zl J J <|Zc <|Xl <|Za <|Zd <|dt (Yg J J J ⟨by omega, by omega⟩) J <|mv J J <|Zc <|Yv (k + 1, _, _) ⟨by first | omega | (dsimp only <;> omega), by simp; omega, all_set hoa _ _ (Nat.mod_lt _ U_pos), brw_le _ _ _, sub_step hc (getD_lt U_pos (dg_lt two_U x) k) (getD_lt U_pos (dg_lt two_U y) k) hv (by omega)⟩ (by first | omega | (dsimp only <;> omega)) K6 K4
 ·refine Yo <|Zt <|Zt <|Xr <|Za <|Zb <|Zd <|mv J J <|tt (Zg (n := 3) (nat_trim_own _ _) J J J K1 cF108 (Xe 3 J J pU Ze) J hw) J fun _ _ => Xj (s_tz 3 J J pU) <|Zl J J <|Zc <|Za <|Zq ?_
  obtain rfl : k = (dg U x).length := by omega
  have hx : tz o = dg U (x - y) := by
   rw [← dg_val two_U _ hoa]
   congr 1
   have hly : (dg U y).length ≤ (dg U x).length := by omega
   rw [val_take_all U o _ (by omega), val_take_all U (dg U y) _ hly, val_take_all U (dg U x) _ (Nat.le_refl _), val_dg two_U, val_dg two_U] at hv
   have h1 := val_lt U_pos o hoa
   rw [hol] at h1
   have h0 : c = 0 ∨ c = 1 := by omega
   rcases h0 with rfl | rfl <;> omega
  exact Zr (.inl J) hsc _ _ (fun a w hs => Yr hs Tryz.results141 J) J trivial J (Xs 3 J J pU hx Zj)
theorem nat_compare (v w : Value) (x y : Nat) (hx : bl x ≤ 4294967296) (hy : bl y ≤ 4294967296) : Cal Tryz.prog 140 #[v, w] [dgp v x, dgp w y] false (G := Int) (fun r => (r < 0 ↔ x < y) ∧ (0 < r ↔ y < x)) (fun r => .int .i64 r) (fun r => []) := by
 refine Ya Tryz.func140 J Tryz.ntmps140 J K2 ?_
 intro w0 sc hw hsc
 simp only [Zp, Zo]
 have hX := lenU_bl x
 have hY := lenU_bl y
 refine Zb <|Zd <|Zl J J <|Zc <|Za <|Zb <|Zb <|Zd <|mv J J <|dt (Zy J J (i := 1) J Zi uT127) J <|mv J J <|dt (Zy J J (i := 2) J Zi uT127) J <|dt (Ys J J J) J <|Zc <|Za <|Zn J (fun h57 => ?_) (fun h57 => ?_)
 ·exact Zb <|Zd <|mv J J <|dt (Zy J J (i := 1) J Zi uT127) J <|mv J J <|dt (Zy J J (i := 2) J Zi uT127) J <|dt (Xc J J J ⟨by omega, by omega⟩) J <|Zl J J <|Zc <|Za <|Zq <|Yp <|Zr (.inl J) hsc _ _ (fun a w hs => Yr hs Tryz.results140 J) J ⟨⟨fun h => dg_len_lt two_U (by omega), fun h => by have := bl_mono (Nat.le_of_lt h); omega⟩, ⟨fun h => dg_len_lt two_U (by omega), fun h => by have := bl_mono (Nat.le_of_lt h); omega⟩⟩ J Zj
 ·have hlen : (dg U x).length = (dg U y).length := by omega
  refine Zk <|Za <|Zb <|Zb <|Zd <|mv J J <|dt (Zy J J (i := 1) J Zi uT127) J <|dt (Xc J J J ⟨by omega, by omega⟩) J <|Zl J J <|Zc <|Za <|Zm <|Xv [(0, _), (1, _)] [(0, _), (1, _), (2, _)] (fun (k : Nat) => [(5, .int .i64 ((k : Int) - 1))]) (fun (k : Nat) => []) (fun (k : Nat) => (k ≤ (dg U x).length) ∧ ((dg U x).drop k = (dg U y).drop k)) (fun (k : Nat) => k) (dg U x).length ⟨by first | omega | (dsimp only <;> omega), by rw [List.drop_length, hlen, List.drop_length]⟩ K3 K3 ?_
  rintro k ⟨hk, hd⟩
  simp only [List.cons_append, List.nil_append]
  refine Zb <|Zb <|Zd <|mv J J <|dt (Qb J J J) J <|Zc <|Za <|Zn J (fun h60 => ?_) (fun h60 => ?_)
  ·refine Zk <|Za <|Zb <|Zm <|Zm <|Zb <|Xa (fun _ => False) [(0, 0), (1, 0), (2, 0), (3, 0), (4, 0), (5, 0), (6, 0), (7, 0), (8, 0), (9, 0)] (by kernel_rfl) ?_ ?_
   ·kernel_rfl
   refine r0' J J J J (st0 (Zv J J)) <|r0' J J J J (st0 (Zv J J)) <|r0' J J J J (st0 (Yf (ii := 1) (i := k - 1) J J J J Zi uT127 zT137 (by omega) (by omega))) <|r0' J J J J (st0 (Yn (ii := 1) 0 J J J Zi pU (by first | omega | (simp only [List.length_set]; omega)))) <|r0' J J J J (st0 (Zv J J)) <|r0' J J J J (st0 (Zv J J)) <|r0' J J J J (st0 (Yf (ii := 2) (i := k - 1) J J J J Zi uT127 zT137 (by omega) (by omega))) <|r0' J J J J (st0 (Yn (ii := 2) 0 J J J Zi pU (by first | omega | (simp only [List.length_set]; omega)))) <|r0' J J J J (st0 (Yw J J J)) <|r0' J J J J (st0 (Qf J J)) <|Xn <|Za <|Zn J (fun h62 => ?_) (fun h62 => ?_)
   ·refine Zb <|Zd <|Zl J J <|Zc <|Za <|Zq <|Qj <|Qj <|Yp <|Yp <|Qj <|Yp ?_
    have hlt := cmp_lt U_pos (xs := dg U x) (ys := dg U y) (dg_lt two_U x) (k := k - 1) (by omega) (by omega) (by rw [show k - 1 + 1 = k by omega]; exact hd) (by omega)
    rw [val_dg two_U, val_dg two_U] at hlt
    exact Zr (.inl J) hsc (-1) _ (fun a w hs => Yr hs Tryz.results140 J) J (by omega) J Zj
   ·refine Zb <|Xa (fun _ => False) [(0, 0), (1, 0), (2, 0), (3, 0), (4, 0), (5, 0), (6, 0), (7, 0), (8, 0), (9, 0)] (by kernel_rfl) ?_ ?_
    ·kernel_rfl
    refine r0' J J J J (st0 (Zv J J)) <|r0' J J J J (st0 (Zv J J)) <|r0' J J J J (st0 (Yf (ii := 1) (i := k - 1) J J J J Zi uT127 zT137 (by omega) (by omega))) <|r0' J J J J (st0 (Yn (ii := 1) 0 J J J Zi pU (by first | omega | (simp only [List.length_set]; omega)))) <|r0' J J J J (st0 (Zv J J)) <|r0' J J J J (st0 (Zv J J)) <|r0' J J J J (st0 (Yf (ii := 2) (i := k - 1) J J J J Zi uT127 zT137 (by omega) (by omega))) <|r0' J J J J (st0 (Yn (ii := 2) 0 J J J Zi pU (by first | omega | (simp only [List.length_set]; omega)))) <|r0' J J J J (st0 (Xd J J J)) <|r0' J J J J (st0 (Qf J J)) <|Xn <|Za <|Zn J (fun h64 => ?_) (fun h64 => ?_)
    ·refine Zb <|Zd <|Zl J J <|Zc <|Za <|Zq <|Qj <|Qj <|Yp <|Yp <|Qj <|Yp ?_
     have hlt := cmp_lt U_pos (xs := dg U y) (ys := dg U x) (dg_lt two_U y) (k := k - 1) (by omega) (by omega) (by rw [show k - 1 + 1 = k by omega]; exact hd.symm) (by omega)
     rw [val_dg two_U, val_dg two_U] at hlt
     exact Zr (.inl J) hsc 1 _ (fun a w hs => Yr hs Tryz.results140 J) J (by omega) J Zj
    ·exact Zk <|Xl <|Xl <|Za <|Zd <|mv J J <|dt (Xc J J J ⟨by omega, by omega⟩) J <|Zl J J <|Zc <|Yv (k - 1) ⟨by first | omega | (dsimp only <;> omega), by have := drop_eq_step (xs := dg U x) (ys := dg U y) (k := k - 1) (by omega) (by omega) (by rw [show k - 1 + 1 = k by omega]; exact hd) (by omega); exact this⟩ (by first | omega | (dsimp only <;> omega)) ⟨by rw [show (((k - 1 : Nat) : Int) - 1) = (k : Int) - 1 - 1 by omega]; rfl, rfl, rfl, trivial⟩ K3
  ·refine Yo <|Zt <|Zt <|Xr <|Za <|Zb <|Zd <|Zl J J <|Zc <|Za <|Zq ?_
   obtain rfl : k = 0 := by omega
   have heq : x = y := (dg_eq_iff two_U).1 (by simpa using hd)
   exact Zr (.inl J) hsc 0 _ (fun a w hs => Yr hs Tryz.results140 J) J (by omega) J Zj
theorem bits_mul (x y : Nat) (hx : x < U) (hy : y < U) : Cal Tryz.prog 165 #[.int .u64 (x : Int), .int .u64 (y : Int)] [] false (G := Unit) (fun _ => True) (fun _ => .tuple #[.int .u64 ((x * y / U : Nat) : Int), .int .u64 ((x * y % U : Nat) : Int)]) (fun _ => []) := by
 refine Ya Tryz.func165 J Tryz.ntmps165 J trivial ?_
 intro w0 sc hw hsc
 simp only [Zp, Zo]
 simp only [U] at hx hy
 refine Zb <|Zd <|Zl J J <|Zl J J <|Zc <|Za <|Zb <|Zd <|mv J J <|dt (u_and J J J hx (by decide)) J <|Zl J J <|Zc <|Za <|Zb <|Zd <|mv J J <|dt (Qt (n := 32) (n' := 4294967296) J J J J J) J <|Zl J J <|Zc <|Za <|Zb <|Zd <|mv J J <|dt (u_and J J J hy (by decide)) J <|Zl J J <|Zc <|Za <|Zb <|Zd <|mv J J <|dt (Qt (n := 32) (n' := 4294967296) J J J J J) J <|Zl J J <|Zc <|Za <|Zb <|Zd <|mv J J <|mv J J <|dt (u_mul J J J) J <|Zl J J <|Zc <|Za <|Zb <|Zd <|mv J J <|mv J J <|dt (u_mul J J J) J <|mv J J <|dt (Qt (n := 32) (n' := 4294967296) J J J J J) J <|dt (u_add J J J) J <|Zl J J <|Zc <|Za <|Zb <|Zd <|mv J J <|dt (u_and J J J (Nat.mod_lt _ U_pos) (by decide)) J <|Zl J J <|Zc <|Za <|Zb <|Zd <|mv J J <|dt (Qt (n := 32) (n' := 4294967296) J J J J J) J <|Zl J J <|Zc <|Za <|Zb <|Zd <|mv J J <|mv J J <|mv J J <|dt (u_mul J J J) J <|dt (u_add J J J) J <|Zl J J <|Zc <|Za <|Zb <|Zd <|mv J J <|mv J J <|dt (u_mul J J J) J <|mv J J <|dt (u_add J J J) J <|mv J J <|dt (Qt (n := 32) (n' := 4294967296) J J J J J) J <|dt (u_add J J J) J <|Zl J J <|Zc <|Za <|Zb <|Zd <|mv J J <|mv J J <|dt (u_mul J J J) J <|Zl J J <|Zc <|Za <|Zq ?_
 exact Zr (.inl J) hsc () _ (fun a w hs => Xp hs Tryz.results165 J J) (by rw [mul64_eq hx hy _ _ rfl rfl]) trivial J Zj
theorem nat_mul (v w : Value) (x y : Nat) (hx : bl x ≤ 4294967296) (hy : bl y ≤ 4294967296) : Cal Tryz.prog 161 #[v, w] [dgp v x, dgp w y] false (G := Value) (fun r => True) (fun r => r) (fun r => [dgp r (x * y)]) := by
 refine Ya Tryz.func161 J Tryz.ntmps161 J K2 ?_
 intro w0 sc hw hsc
 simp only [Zp, Zo]
 have hX := lenU_bl x
 have hY := lenU_bl y
 refine Zb <|Zd <|Zl J J <|Zc <|Za <|Zb <|Zd <|mv J J <|dt (Zy J J (i := 1) J Zi uT127) J <|mv J J <|dt (Zy J J (i := 2) J Zi uT127) J <|dt (Yg J J J ⟨by omega, by omega⟩) J <|tt (t_mkn (i := 3) (n := (dg U x).length + (dg U y).length) (by_ := 8) (enc := encU) 0 J J J J J (by omega) uT127 Tryz.ti137 J pU.cells pU.pos J J (by omega) (by decide) J hw) J fun v _ => Zl J J <|Zc <|Za <|Zb <|Zb <|Zd <|mv J J <|dt (Zy J J (i := 1) J Zi uT127) J <|mv J J <|Zc <|Za <|Zm <|Xv [(1, _), (5, _), (20, _), (21, _)] [(0, _), (1, _), (2, _)] (fun (q : Nat × List Nat) => [(22, .int .i64 (q.1 : Int))]) (fun (q : Nat × List Nat) => [(3, osl 1 137 encU v q.2)]) (fun (q : Nat × List Nat) => (q.1 ≤ (dg U x).length) ∧ (q.2.length = (dg U x).length + (dg U y).length) ∧ (∀ d ∈ q.2, d < U) ∧ (∀ j, q.1 + (dg U y).length ≤ j → q.2.getD j 0 = 0) ∧ (val U (q.2.take (q.1 + (dg U y).length)) = val U ((dg U x).take q.1) * y)) (fun (q : Nat × List Nat) => (dg U x).length - q.1) (0, List.replicate ((dg U x).length + (dg U y).length) 0) ⟨by first | omega | (dsimp only <;> omega), by simp, all_replicate _ U_pos, fun j _ => getD_replicate _ j, by simp [val, List.take_replicate, val_replicate]⟩ K5 K4 ?_
 rintro ⟨i, o⟩ ⟨hi, hol, hoa, hz, hv⟩
 dsimp only at hi hol hoa hz hv
 simp only [List.cons_append, List.nil_append]
 refine Zb <|Zd <|dt (Yw J J J) J <|Zc <|Za <|Zb <|Zn J (fun h106 => ?_) (fun h106 => ?_)
 ·refine Zk <|Za <|Zb <|Zm <|Zb <|Zd <|mv J J <|dt (Yf (ii := 1) J J J J Zi uT127 zT137 J (by first | omega | (simp only [List.length_set]; omega))) J <|dt (Yn (ii := 1) 0 J J J Zi pU (by first | omega | (simp only [List.length_set]; omega))) J <|Zl J J <|Zl J J <|Zc <|Za <|Zb <|Zd <|Zl J J <|Zc <|Za <|Zb <|Zb <|Zd <|mv J J <|dt (Zy J J (i := 2) J Zi uT127) J <|mv J J <|Zc <|Za <|Zm <|Xv [(1, _), (5, _), (6, _), (7, _), (20, _), (21, _), (22, _), (27, _), (28, _)] [(0, _), (1, _), (2, _)] (fun (q : Nat × List Nat × Nat) => [(29, .int .i64 (q.1 : Int)), (8, .int .u64 (q.2.2 : Int))]) (fun (q : Nat × List Nat × Nat) => [(3, osl 1 137 encU v q.2.1)]) (fun (q : Nat × List Nat × Nat) => (q.1 ≤ (dg U y).length) ∧ (q.2.1.length = (dg U x).length + (dg U y).length) ∧ (∀ d ∈ q.2.1, d < U) ∧ (∀ j, i + (dg U y).length ≤ j → q.2.1.getD j 0 = 0) ∧ (q.2.2 < U) ∧ (val U (q.2.1.take (i + (dg U y).length)) + q.2.2 * U ^ (i + q.1) = val U ((dg U x).take i) * y + (dg U x).getD i 0 * U ^ i * val U ((dg U y).take q.1))) (fun (q : Nat × List Nat × Nat) => (dg U y).length - q.1) (0, o, 0) ⟨by first | omega | (dsimp only <;> omega), hol, hoa, hz, U_pos, by rw [hv]; simp [val]⟩ K11 K4 ?_
  rintro ⟨k, p, c⟩ ⟨hk, hpl, hpa, hpz, hcU, hpv⟩
  dsimp only at hk hpl hpa hpz hcU hpv
  simp only [List.cons_append, List.nil_append]
  have hdig := mul_digit (getD_lt U_pos (dg_lt two_U x) i) (getD_lt U_pos (dg_lt two_U y) k) (getD_lt U_pos hpa (i + k)) hcU
  refine Zb <|Zd <|dt (Yw J J J) J <|Zc <|Za <|Zb <|Zn J (fun h108 => ?_) (fun h108 => ?_)
  ·refine Zk <|Za <|Zb <|Zm <|Zb <|Zd <|mv J J <|dt (Yf (ii := 2) J J J J Zi uT127 zT137 J (by first | omega | (simp only [List.length_set]; omega))) J <|dt (Yn (ii := 2) 0 J J J Zi pU (by first | omega | (simp only [List.length_set]; omega))) J <|Zl J J <|Zl J J <|Zc <|Za <|Zb <|Zd <|mv J J <|mv J J <|tt (Zg (n := 3) (bits_mul _ _ (getD_lt U_pos (dg_lt two_U _) _) (getD_lt U_pos (dg_lt two_U _) _)) J J J K2 cF165 Ze J hw) J fun _ _ => mv J J <|dt (Zw J J J) J <|dt (Zw J J J) J <|Zl J J <|Zl J J <|Zc <|Za <|Zb <|Zd <|mv J J <|mv J J <|mv J J <|mv J J <|dt (Yg J J J ⟨by omega, by omega⟩) J <|dt (Yf (ii := 3) (i := i + k) J J J J (Ye pU) uT127 zT137 (by omega) (by omega)) J <|dt (Yn (ii := 3) 0 J J J (Ye pU) pU (by first | omega | (simp only [List.length_set]; omega))) J <|dt (d_add64 (c := 0) J J J J (by omega) add64_run) J <|mv J J <|dt (Zw J J J) J <|dt (Zw J J J) J <|Zl J J <|Zl J J <|Zc <|Za <|Zb <|Zd <|mv J J <|mv J J <|dt (u_add J J J) J <|Zl J J <|Zc <|Za <|Zb <|Zd <|mv J J <|mv J J <|dt (d_add64 (c := 0) J J J J (by omega) add64_run) J <|mv J J <|dt (Zw J J J) J <|dt (Zw J J J) J <|Zl J J <|Zl J J <|Zc <|Za <|Zd <|mv J J <|mv J J <|mv J J <|dt (Yg J J J ⟨by omega, by omega⟩) J <|mv J J <|mv J J <|mv J J ?_
   exact dt (u_add J J J) J <|dt (Yf (ii := 3) (i := i + k) J J J J (Ye pU) uT127 zT137 (by omega) (by omega)) J <|tt (Qo (i := 3) (enc := encU) _ J J J J J J (by decide) pU (by first | omega | (simp only [List.length_set]; omega)) J hw) J fun _ _ => Zl J J <|Zc <|Xl <|Za <|Zd <|dt (Yg J J J ⟨by omega, by omega⟩) J <|mv J J <|Zc <|Yv (k + 1, _, _) ⟨by first | omega | (dsimp only <;> omega), by simp; omega, all_set hpa _ _ (Nat.mod_lt _ U_pos), fun j hj => by rw [getD_set _ _ _ _ _ (by omega), if_neg (by omega)]; exact hpz j hj, hdig.2, mul_step hpv (by omega) (by omega) hdig.1⟩ (by first | omega | (dsimp only <;> omega)) K11 K4
  ·refine Yo <|Zt <|Zt <|Xr <|Za ?_
   obtain rfl : k = (dg U y).length := by omega
   have hfin := hpv
   rw [List.take_of_length_le (Nat.le_refl (dg U y).length), val_dg two_U] at hfin
   exact Zd <|mv J J <|mv J J <|mv J J <|dt (Zy J J (i := 2) J Zi uT127) J <|dt (Yg J J J ⟨by omega, by omega⟩) J <|mv J J <|dt (Yf (ii := 3) (i := i + (dg U y).length) J J J J (Ye pU) uT127 zT137 (by omega) (by omega)) J <|tt (Qo (i := 3) (enc := encU) _ J J J J J J (by decide) pU (by first | omega | (simp only [List.length_set]; omega)) J hw) J fun _ _ => Zc <|Xl <|Za <|Zd <|dt (Yg J J J ⟨by omega, by omega⟩) J <|mv J J <|Zc <|Yv (i + 1, _) ⟨by first | omega | (dsimp only <;> omega), by simp; omega, all_set hpa _ _ hcU, fun j hj => by rw [getD_set _ _ _ _ _ (by omega), if_neg (by omega)]; exact hpz j (by omega), by dsimp only; rw [show i + 1 + (dg U y).length = i + (dg U y).length + 1 by omega, val_take_set _ _ _ _ (by omega), val_take_succ, Nat.add_mul, ← hfin]⟩ (by first | omega | (dsimp only <;> omega)) K5 K4
 ·refine Yo <|Zt <|Zt <|Xr <|Za <|Zb <|Zd <|mv J J <|tt (Zg (n := 3) (nat_trim_own _ _) J J J K1 cF108 (Xe 3 J J pU Ze) J hw) J fun _ _ => Xj (s_tz 3 J J pU) <|Zl J J <|Zc <|Za <|Zq ?_
  obtain rfl : i = (dg U x).length := by omega
  have hx : tz o = dg U (x * y) := by
   rw [← dg_val two_U _ hoa]
   congr 1
   rw [val_take_all U o _ (by omega), List.take_of_length_le (Nat.le_refl _), val_dg two_U] at hv
   exact hv
  exact Zr (.inl J) hsc _ _ (fun a w hs => Yr hs Tryz.results161 J) J trivial J (Xs 3 J J pU hx Zj)
set_option maxHeartbeats 1000000 in
theorem bits_len (x : Nat) (hx : x < U) : Cal Tryz.prog 164 #[.int .u64 (x : Int)] [] false (G := Unit) (fun _ => True) (fun _ => .int .i64 (bl x : Int)) (fun _ => []) := by
 refine Ya Tryz.func164 J Tryz.ntmps164 J trivial ?_
 intro w0 sc hw hsc
 simp only [Zp, Zo]
 simp only [U] at hx
 have e32 := bl_div_pow x 32
 have e16 := bl_div_pow x 16
 have e8 := bl_div_pow x 8
 have e24 := bl_div_pow x 24
 have e40 := bl_div_pow x 40
 have e48 := bl_div_pow x 48
 have e56 := bl_div_pow x 56
 have f32 := bl_lt 32 x
 have f16 := bl_lt 16 x
 have f8 := bl_lt 8 x
 have f24 := bl_lt 24 x
 have f40 := bl_lt 40 x
 have f48 := bl_lt 48 x
 have f56 := bl_lt 56 x
 have d1 := Nat.div_div_eq_div_mul x (2 ^ 32) (2 ^ 16)
 have d2 := Nat.div_div_eq_div_mul x (2 ^ 32) (2 ^ 8)
 have d3 := Nat.div_div_eq_div_mul x (2 ^ 16) (2 ^ 8)
 have d4 := Nat.div_div_eq_div_mul (x / 2 ^ 32) (2 ^ 16) (2 ^ 8)
 have d5 := Nat.div_div_eq_div_mul x (2 ^ 32) (2 ^ 16 * 2 ^ 8)
 simp only [Nat.reducePow, Nat.reduceMul] at *
 refine Zb <|Zd <|Zl J J <|Zc <|Za <|Zb <|Zb <|Zd <|mv J J <|dt (Qb J J J) J <|Zc <|Za <|Zn J (fun h338 => ?_) (fun h338 => ?_)
 ·refine Zb <|Zd <|mv J J <|dt (Qt (n := 32) (n' := 4294967296) J J J J J) J <|Zl J J <|Zc <|Za <|Zd <|Zl J J <|Zc <|Za <|Zb <|Zb <|Zd <|mv J J <|dt (Qb J J J) J <|Zc <|Za <|Zn J (fun h342 => ?_) (fun h342 => ?_)
  ·refine Zb <|Zd <|mv J J <|dt (Qt (n := 16) (n' := 65536) J J J J J) J <|Zl J J <|Zc <|Za <|Zd <|mv J J <|dt (Yg J J J ⟨by omega, by omega⟩) J <|Zl J J <|Zc <|Za <|Zb <|Zb <|Zd <|mv J J <|dt (Qb J J J) J <|Zc <|Za <|Zn J (fun h346 => ?_) (fun h346 => ?_)
   ·exact Zb <|Zd <|mv J J <|dt (Qt (n := 8) (n' := 256) J J J J J) J <|Zl J J <|Zc <|Za <|Zd <|mv J J <|dt (Yg J J J ⟨by omega, by omega⟩) J <|Zl J J <|Zc <|Za <|Zb <|Zd <|mv J J <|mv J J <|dt (cv_u8 J J uT137 uT5) J <|dt (d_ix8 J J J uT9 J (by omega) (by decide) (by decide +kernel)) J <|dt (cv_i64 J J uT5 uT3 (inI_bl8 _)) J <|dt (Yg J J J (inI_add8 _ (by omega) (by omega))) J <|Zl J J <|Zc <|Za <|Zq <|Zr (.inl J) hsc () _ (fun a w hs => Yr hs Tryz.results164 J) (len_fin (n := x) (by omega) (by first | omega | (simp only [Nat.div_div_eq_div_mul, Nat.reduceMul, e32, e16, e8, e24, e40, e48, e56]; omega))).symm trivial J Zj
   ·exact Zk <|Za <|Zb <|Zd <|mv J J <|mv J J <|dt (cv_u8 J J uT137 uT5) J <|dt (d_ix8 J J J uT9 J (by omega) (by decide) (by decide +kernel)) J <|dt (cv_i64 J J uT5 uT3 (inI_bl8 _)) J <|dt (Yg J J J (inI_add8 _ (by omega) (by omega))) J <|Zl J J <|Zc <|Za <|Zq <|Zr (.inl J) hsc () _ (fun a w hs => Yr hs Tryz.results164 J) (len_fin (n := x) (by omega) (by first | omega | (simp only [Nat.div_div_eq_div_mul, Nat.reduceMul, e32, e16, e8, e24, e40, e48, e56]; omega))).symm trivial J Zj
  ·refine Zk <|Za <|Zb <|Zb <|Zd <|mv J J <|dt (Qb J J J) J <|Zc <|Za <|Zn J (fun h346_2 => ?_) (fun h346_2 => ?_)
   ·exact Zb <|Zd <|mv J J <|dt (Qt (n := 8) (n' := 256) J J J J J) J <|Zl J J <|Zc <|Za <|Zd <|mv J J <|dt (Yg J J J ⟨by omega, by omega⟩) J <|Zl J J <|Zc <|Za <|Zb <|Zd <|mv J J <|mv J J <|dt (cv_u8 J J uT137 uT5) J <|dt (d_ix8 J J J uT9 J (by omega) (by decide) (by decide +kernel)) J <|dt (cv_i64 J J uT5 uT3 (inI_bl8 _)) J <|dt (Yg J J J (inI_add8 _ (by omega) (by omega))) J <|Zl J J <|Zc <|Za <|Zq <|Zr (.inl J) hsc () _ (fun a w hs => Yr hs Tryz.results164 J) (len_fin (n := x) (by omega) (by first | omega | (simp only [Nat.div_div_eq_div_mul, Nat.reduceMul, e32, e16, e8, e24, e40, e48, e56]; omega))).symm trivial J Zj
   ·exact Zk <|Za <|Zb <|Zd <|mv J J <|mv J J <|dt (cv_u8 J J uT137 uT5) J <|dt (d_ix8 J J J uT9 J (by omega) (by decide) (by decide +kernel)) J <|dt (cv_i64 J J uT5 uT3 (inI_bl8 _)) J <|dt (Yg J J J (inI_add8 _ (by omega) (by omega))) J <|Zl J J <|Zc <|Za <|Zq <|Zr (.inl J) hsc () _ (fun a w hs => Yr hs Tryz.results164 J) (len_fin (n := x) (by omega) (by first | omega | (simp only [Nat.div_div_eq_div_mul, Nat.reduceMul, e32, e16, e8, e24, e40, e48, e56]; omega))).symm trivial J Zj
 ·refine Zk <|Za <|Zb <|Zb <|Zd <|mv J J <|dt (Qb J J J) J <|Zc <|Za <|Zn J (fun h342_2 => ?_) (fun h342_2 => ?_)
  ·refine Zb <|Zd <|mv J J <|dt (Qt (n := 16) (n' := 65536) J J J J J) J <|Zl J J <|Zc <|Za <|Zd <|mv J J <|dt (Yg J J J ⟨by omega, by omega⟩) J <|Zl J J <|Zc <|Za <|Zb <|Zb <|Zd <|mv J J <|dt (Qb J J J) J <|Zc <|Za <|Zn J (fun h346_3 => ?_) (fun h346_3 => ?_)
   ·exact Zb <|Zd <|mv J J <|dt (Qt (n := 8) (n' := 256) J J J J J) J <|Zl J J <|Zc <|Za <|Zd <|mv J J <|dt (Yg J J J ⟨by omega, by omega⟩) J <|Zl J J <|Zc <|Za <|Zb <|Zd <|mv J J <|mv J J <|dt (cv_u8 J J uT137 uT5) J <|dt (d_ix8 J J J uT9 J (by omega) (by decide) (by decide +kernel)) J <|dt (cv_i64 J J uT5 uT3 (inI_bl8 _)) J <|dt (Yg J J J (inI_add8 _ (by omega) (by omega))) J <|Zl J J <|Zc <|Za <|Zq <|Zr (.inl J) hsc () _ (fun a w hs => Yr hs Tryz.results164 J) (len_fin (n := x) (by omega) (by first | omega | (simp only [Nat.div_div_eq_div_mul, Nat.reduceMul, e32, e16, e8, e24, e40, e48, e56]; omega))).symm trivial J Zj
   ·exact Zk <|Za <|Zb <|Zd <|mv J J <|mv J J <|dt (cv_u8 J J uT137 uT5) J <|dt (d_ix8 J J J uT9 J (by omega) (by decide) (by decide +kernel)) J <|dt (cv_i64 J J uT5 uT3 (inI_bl8 _)) J <|dt (Yg J J J (inI_add8 _ (by omega) (by omega))) J <|Zl J J <|Zc <|Za <|Zq <|Zr (.inl J) hsc () _ (fun a w hs => Yr hs Tryz.results164 J) (len_fin (n := x) (by omega) (by first | omega | (simp only [Nat.div_div_eq_div_mul, Nat.reduceMul, e32, e16, e8, e24, e40, e48, e56]; omega))).symm trivial J Zj
  ·refine Zk <|Za <|Zb <|Zb <|Zd <|mv J J <|dt (Qb J J J) J <|Zc <|Za <|Zn J (fun h346_4 => ?_) (fun h346_4 => ?_)
   ·exact Zb <|Zd <|mv J J <|dt (Qt (n := 8) (n' := 256) J J J J J) J <|Zl J J <|Zc <|Za <|Zd <|mv J J <|dt (Yg J J J ⟨by omega, by omega⟩) J <|Zl J J <|Zc <|Za <|Zb <|Zd <|mv J J <|mv J J <|dt (cv_u8 J J uT137 uT5) J <|dt (d_ix8 J J J uT9 J (by omega) (by decide) (by decide +kernel)) J <|dt (cv_i64 J J uT5 uT3 (inI_bl8 _)) J <|dt (Yg J J J (inI_add8 _ (by omega) (by omega))) J <|Zl J J <|Zc <|Za <|Zq <|Zr (.inl J) hsc () _ (fun a w hs => Yr hs Tryz.results164 J) (len_fin (n := x) (by omega) (by first | omega | (simp only [Nat.div_div_eq_div_mul, Nat.reduceMul, e32, e16, e8, e24, e40, e48, e56]; omega))).symm trivial J Zj
   ·exact Zk <|Za <|Zb <|Zd <|mv J J <|mv J J <|dt (cv_u8 J J uT137 uT5) J <|dt (d_ix8 J J J uT9 J (by omega) (by decide) (by decide +kernel)) J <|dt (cv_i64 J J uT5 uT3 (inI_bl8 _)) J <|dt (Yg J J J (inI_add8 _ (by omega) (by omega))) J <|Zl J J <|Zc <|Za <|Zq <|Zr (.inl J) hsc () _ (fun a w hs => Yr hs Tryz.results164 J) (len_fin (n := x) (by omega) (by first | omega | (simp only [Nat.div_div_eq_div_mul, Nat.reduceMul, e32, e16, e8, e24, e40, e48, e56]; omega))).symm trivial J Zj
theorem bits_lz (x : Nat) (hx : x < U) : Cal Tryz.prog 155 #[.int .u64 (x : Int)] [] false (G := Unit) (fun _ => True) (fun _ => .int .i64 ((64 - bl x : Nat) : Int)) (fun _ => []) := by
 refine Ya Tryz.func155 J Tryz.ntmps155 J trivial ?_
 intro w0 sc hw hsc
 simp only [Zp, Zo]
 have hb : bl x ≤ 64 := (bl_le 64 x).2 hx
 exact Zb <|Zd <|Zl J J <|Zc <|Za <|Zb <|Zd <|mv J J <|tt (Zg (n := 0) (bits_len _ hx) J J J K1 cF164 Ze J hw) J fun _ _ => dt (Xc J J J ⟨by omega, by omega⟩) J <|Zl J J <|Zc <|Za <|Zq <|Zr (.inl J) hsc () _ (fun a w hs => Yr hs Tryz.results155 J) (by congr 1; omega) trivial J Zj
theorem nat_size (v : Value) (x : Nat) (hx : bl x ≤ 1099511627776) : Cal Tryz.prog 136 #[v] [dgp v x] false (G := Unit) (fun _ => True) (fun _ => .int .i64 (bl x : Int)) (fun _ => []) := by
 refine Ya Tryz.func136 J Tryz.ntmps136 J K1 ?_
 intro w0 sc hw hsc
 simp only [Zp, Zo]
 have hX := lenU_bl x
 refine Zb <|Zd <|Zl J J <|Zc <|Za <|Zb <|Zb <|Zd <|mv J J <|dt (Zy J J (i := 1) J Zi uT127) J <|dt (Xu J J J) J <|Zc <|Za <|Zn J (fun h39 => ?_) (fun h39 => ?_)
 ·refine Zb <|Zd <|Zl J J <|Zc <|Za <|Zq <|Yp ?_
  have h0 : x = 0 := (dg_nil_iff two_U x).1 (by omega)
  exact Zr (.inl J) hsc () _ (fun a w hs => Yr hs Tryz.results136 J) (by rw [h0]; rfl) trivial J Zj
 ·have hp : 0 < x := by rcases Nat.eq_zero_or_pos x with rfl | h; (simp [dg_zero] at h39); exact h
  obtain ⟨z1, z2, z3, z4⟩ := size_eq hp
  exact Zk <|Za <|Zb <|Zd <|mv J J <|dt (Zy J J (i := 1) J Zi uT127) J <|dt (d_mul J J J ⟨by omega, by omega⟩) J <|mv J J <|mv J J <|dt (Zy J J (i := 1) J Zi uT127) J <|dt (Xc J J J ⟨by omega, by omega⟩) J <|dt (Yf (ii := 1) (i := (dg U x).length - 1) J J J J Zi uT127 zT137 (by omega) (by omega)) J <|dt (Yn (ii := 1) 0 J J J Zi pU (by first | omega | (simp only [List.length_set]; omega))) J <|tt (Zg (n := 1) (bits_lz _ (getD_lt U_pos (dg_lt two_U _) _)) J J J K1 cF155 Ze J hw) J fun _ _ => dt (Xc J J J ⟨by omega, by omega⟩) J <|Zl J J <|Zc <|Za <|Zq <|Zr (.inl J) hsc () _ (fun a w hs => Yr hs Tryz.results136 J) (by congr 1; omega) trivial J Zj
end Go.Sky
namespace Go.Sky
open Go.Proofs
set_option maxRecDepth 20000
set_option maxHeartbeats 4000000
set_option linter.unusedVariables false
set_option linter.unusedSimpArgs false
theorem clone_nat (v : Value) (xs : List Nat) (hx : xs.length * 8 ≤ 140737488355328) : CalO Tryz.prog 166 #[v] [slp 1 encU v xs] (G := Value) (fun r => True) (fun r => r) (fun r => osl 1 137 encU r xs) := by
 refine calo_in Tryz.func166 J Tryz.ntmps166 J K1 ?_
 intro w0 sc hw hsc
 simp only [Zp, Zo]
 refine Qh (f_nil (i := 1) J Zi) fun hnil => Zb <|Zd <|Zl J J <|Zc <|Za <|Zb <|Zb <|Zd <|mv J J <|dt (d_isnil J J J (i := 1) J Zi uT127) J <|Zc <|Za <|Qn J (fun h357 => ?_) (fun h357 => ?_)
 ·refine Zb <|Zd <|Zl J J <|Zc <|Za <|Zq <|Yp ?_
  obtain rfl : xs = [] := hnil (by simpa using h357)
  exact Xz (Xy 9 1 137 encU) <|x_endo (.inl J) (.slice none 0 0) _ (fun a w hs => Yr hs Tryz.results166 J) J trivial J 9 J J J
 ·exact Zk <|Za <|Zb <|Zd <|tt (t_bs0 (i := 2) (enc := encU) J J J uT127 pU J hw) J fun v _ => mv J J <|tt (t_appa (i := 2) (j := 1) (by_ := 8) J J J J J J (by decide) J Zi uT127 Tryz.ti137 J pU J J J (by simp; omega) (by decide) J hw) J fun v_2 _ => Zl J J <|Zc <|Za <|Zq <|x_endo (.inl J) _ _ (fun a w hs => Yr hs Tryz.results166 J) J trivial J 2 J (by rfl) J
set_option maxHeartbeats 1600000 in
theorem bits_div (h l y : Nat) (hl : l < U) (hy : y < U) (hh : h < y) : Cal Tryz.prog 160 #[.int .u64 (h : Int), .int .u64 (l : Int), .int .u64 (y : Int)] [] false (G := Unit) (fun _ => True) (fun _ => .tuple #[.int .u64 (((h * U + l) / y : Nat) : Int), .int .u64 (((h * U + l) % y : Nat) : Int)]) (fun _ => []) := by
 refine Ya Tryz.func160 J Tryz.ntmps160 J trivial ?_
 intro w0 sc hw hsc
 simp only [Zp, Zo]
 have hUe : U = 18446744073709551616 := rfl
 have hp : 0 < y := by omega
 have hbl : bl y ≤ 64 := (bl_le 64 y).2 hy
 obtain ⟨s, hs⟩ : ∃ s, s = 64 - bl y := ⟨_, rfl⟩
 obtain ⟨Y, hYe⟩ : ∃ Y, Y = y * 2 ^ s := ⟨_, rfl⟩
 obtain ⟨hY1, hY2⟩ := norm_top hp hy hs
 rw [← hYe] at hY1 hY2
 have hYU := hY2
 obtain ⟨D, hD⟩ : ∃ D, D = (h * U + l) * 2 ^ s := ⟨_, rfl⟩
 obtain ⟨u, hue⟩ : ∃ u, u = D / U := ⟨_, rfl⟩
 obtain ⟨v, hve⟩ : ∃ v, v = D % U := ⟨_, rfl⟩
 obtain ⟨v1, hv1e⟩ : ∃ x, x = v / 4294967296 := ⟨_, rfl⟩
 obtain ⟨v0, hv0e⟩ : ∃ x, x = v % 4294967296 := ⟨_, rfl⟩
 obtain ⟨y1, hy1e⟩ : ∃ x, x = Y / 4294967296 := ⟨_, rfl⟩
 obtain ⟨y0, hy0e⟩ : ∃ x, x = Y % 4294967296 := ⟨_, rfl⟩
 have hYs : Y = y1 * 4294967296 + y0 := by omega
 have hhs := shl_lt hh (show y * 2 ^ s < U by rw [← hYe]; exact hY2)
 have huY : u < Y := by rw [hue, hD, hYe]; exact top_lt hl hh
 have hu : u < y1 * 4294967296 + y0 := by omega
 have hvU : v < U := by rw [hve]; exact Nat.mod_lt _ U_pos
 have hy1 : 2147483648 ≤ y1 := by omega
 have hy1l : y1 < 4294967296 := by omega
 have hy0 : y0 < 4294967296 := by omega
 have hv1 : v1 < 4294967296 := by omega
 have hv0 : v0 < 4294967296 := by omega
 obtain ⟨Q1, hQ1⟩ : ∃ x, x = (u * 4294967296 + v1) / Y := ⟨_, rfl⟩
 obtain ⟨t, hte⟩ : ∃ x, x = (u * 4294967296 + v1) % Y := ⟨_, rfl⟩
 have htY : t < Y := by rw [hte]; exact Nat.mod_lt _ (by omega)
 have ht : t < y1 * 4294967296 + y0 := by omega
 obtain ⟨Q0, hQ0⟩ : ∃ x, x = (t * 4294967296 + v0) / Y := ⟨_, rfl⟩
 have hY0 : 0 < Y := by omega
 obtain ⟨hd1, hd2⟩ := dv_two (D := D) hY0 hue hve hv1e hv0e
 rw [← hQ1, ← hte, ← hQ0] at hd1
 rw [← hte] at hd2
 have hQ0l : Q0 < 4294967296 := by rw [hQ0, hYs]; exact dv_Q hv0 ht
 have hQ1l : Q1 < 4294967296 := by rw [hQ1, hYs]; exact dv_Q hv1 hu
 refine Zb <|Zd <|Zl J J <|Zl J J <|Zc <|Za <|Zb <|Zb <|Zd <|mv J J <|dt (Xu J J J) J <|Zc <|Za <|Zn J (fun h519 => ?_) (fun h519 => ?_)
 ·exfalso; omega
 ·refine Zk <|Za <|Zb <|Zb <|Zd <|mv J J <|mv J J <|dt (d_leq J J J) J <|Zc <|Za <|Zn J (fun h522 => ?_) (fun h522 => ?_)
  ·exfalso; omega
  ·refine Zk <|Za <|Zb <|Zb <|Zd <|mv J J <|dt (Xu J J J) J <|Zc <|Za <|Zn J (fun h527 => ?_) (fun h527 => ?_)
   ·refine Zb <|Xa (fun _ => False) [(0, 0), (1, 0), (2, 0), (3, 0), (4, 0), (5, 0), (6, 0), (7, 3)] (by kernel_rfl) ?_ ?_
    ·kernel_rfl
    exact r0' J J J J (st0 (Zv J J)) <|r0' J J J J (st0 (Zv J J)) <|r0' J J J J (st0 (u_quo J J J (by omega) (by omega))) <|r0' J J J J (st0 (Zv J J)) <|r0' J J J J (st0 (Zv J J)) <|r0' J J J J (st0 (u_rem J J J (by omega))) <|r0' J J J J (st0 (Qf J J)) <|r3' J J (Qa (Qf J J) J J) fun _ _ => Xn <|Za <|Zq <|Yp <|Zr (.inl J) hsc () _ (fun a w hs => Xp hs Tryz.results160 J J) (by have h0 : h = 0 := (by omega); rw [h0]; simp) trivial J Zj
   ·refine Zk <|Za <|Zb <|Zd <|mv J J <|tt (Zg (n := 0) (bits_lz _ hy) J J J K1 cF155 Ze J hw) J fun _ _ => dt (cv_u64 J J uT3 uT178 (by simp only [U]; omega)) J <|Zl J J <|Zc <|Za <|Zb <|Yh (Qg 8 (v' := .int .u64 (s : Int)) J (by rw [hs])) <|Zd <|mv J J <|mv J J <|dt (u_shl J J J J (by omega)) J <|Zl J J <|Zc <|Za <|Zb <|Yh (Qg 2 (v' := .int .u64 (Y : Int)) J (by rw [hYe, Nat.mod_eq_of_lt (by rw [← hYe]; exact hYU)])) <|Zd <|mv J J <|dt (Qt (n := 32) (n' := 4294967296) J J J J J) J <|Zl J J <|Zc <|Za <|Zb <|Zd <|mv J J <|dt (u_and J J J (by omega) (by decide)) J <|Zl J J <|Zc <|Za <|Zb <|Zd <|mv J J <|mv J J <|dt (u_shl J J J J (by omega)) J <|mv J J <|mv J J <|dt (u_sub J J J (by first | exact Nat.mod_lt _ U_pos | omega)) J <|dt (u_shr J J (n := 64 - s) J (by simp only [U]; omega) (by omega)) J <|dt (u_or J J J (Nat.mod_lt _ U_pos) (Nat.lt_of_le_of_lt (Nat.div_le_self _ _) hl)) J <|Zl J J <|Zc <|Za <|Zb <|Yh (Qg 11 (v' := .int .u64 (u : Int)) J (by rw [hue, hD, or_shift (by omega) hhs hl])) <|Zd <|mv J J <|mv J J <|dt (u_shl J J J J (by omega)) J <|Zl J J <|Zc <|Za <|Zb <|Yh (Qg 12 (v' := .int .u64 (v : Int)) J (by rw [hve, hD, mod_shift h l s])) <|Zd <|mv J J <|dt (Qt (n := 32) (n' := 4294967296) J J J J J) J <|Zl J J <|Zc ?_
    refine Za <|Zb <|Yh (Qg 13 (v' := .int .u64 (v1 : Int)) J (by rw [hv1e])) <|Zd <|mv J J <|dt (u_and J J J (by omega) (by decide)) J <|Zl J J <|Zc <|Za <|Zb <|Yh (Qg 14 (v' := .int .u64 (v0 : Int)) J (by rw [and_mask, hv0e])) <|Yh (Qg 9 (v' := .int .u64 (y1 : Int)) J (by rw [hy1e])) <|Yh (Qg 10 (v' := .int .u64 (y0 : Int)) J (by rw [and_mask, hy0e])) <|Zd <|mv J J <|mv J J <|dt (u_quo J J J (by omega) (by omega)) J <|Zl J J <|Zc <|Za <|Zb <|Zd <|mv J J <|mv J J <|mv J J <|dt (u_mul J J J) J <|dt (u_sub J J J (by first | exact Nat.mod_lt _ U_pos | omega)) J <|Zl J J <|Zc <|Za <|e_jn [(2, _), (8, _), (9, _), (10, _), (11, _), (13, _), (14, _)] [(0, _)] (fun (_ : Unit) => [(15, .int .u64 ((Q1 : Nat) : Int))]) (fun (_ : Unit) => []) (fun (_ : Unit) => True) K7 K1 ?_ ?_
    ·refine Zm <|Yh (Qg 16 (v' := .int .u64 ((u % y1 : Nat) : Int)) J (by rw [rsub (by omega) (by omega)])) <|Xv [(2, _), (8, _), (9, _), (10, _), (11, _), (13, _), (14, _)] [(0, _)] (fun (q : Nat × Nat) => [(15, .int .u64 (q.1 : Int)), (16, .int .u64 (q.2 : Int))]) (fun (q : Nat × Nat) => []) (fun (q : Nat × Nat) => (dvI u v1 y1 y0 q.1 q.2) ∧ (q.2 < 4294967296)) (fun (q : Nat × Nat) => q.1) (u / y1, u % y1) ⟨dv0 hy1 hy1l hy0 hv1 hu, Nat.lt_trans (Nat.mod_lt _ (by omega)) hy1l⟩ K9 K1 ?_
     rintro ⟨a, r⟩ ⟨hI, hr⟩
     dsimp only at hI hr
     simp only [List.cons_append, List.nil_append]
     have hI1 := hI.1
     have hI2 := hI.2.1
     refine Zb <|Zb <|Zd <|mv J J <|dt (Qb J J J) J <|mv J J <|Xo (d := 69) J (fun s547 => ?_) (fun s547 => ?_)
     ·refine Yy J J J J J <|Yy J J J J J <|Yy J J J J J <|Yy J J J J J <|Yy J J J J J <|Yy J J J J J <|Yy J J J J J <|Yy J J J J J <|dt (Ym J J J) J <|Zc <|Za <|Qi J <|Zk <|Za <|Zm <|Zb ?_
      have hst := dv_step (by omega) hI hv1 hu (by omega)
      have hst1 := hst.1
      refine Zd <|mv J J <|dt (u_sub (n := 1) J J J (by decide)) J <|Zl J J <|Zc <|Za <|Zb <|Yh (Qg 15 (v' := .int .u64 ((a - 1 : Nat) : Int)) J (u64_eq (dec_u hst1 (by omega)))) <|Zd <|mv J J <|mv J J <|dt (u_add J J J) J <|Zl J J <|Zc <|Za <|Zb <|Yh (Qg 16 (v' := .int .u64 ((r + y1 : Nat) : Int)) J (u64_eq (Nat.mod_eq_of_lt (by omega)))) <|Zd <|mv J J <|dt (Qb J J J) J <|Zc <|Za <|Zn J (fun h550 => ?_) (fun h550 => ?_)
      ·refine Yo <|x_bo (by decide) <|Zt <|Xr ?_
       have hq : Q1 = a - 1 := by rw [hQ1, hYs]; exact (dv_break (by omega) hy0 hst.2 (by omega) (by omega)).symm
       exact Xq () trivial ⟨by rw [hq]; rfl, rfl, rfl, rfl, rfl, rfl, rfl, rfl, trivial⟩ K1
      ·exact Zk <|Xl <|Yv (a - 1, r + y1) ⟨hst.2, by dsimp only; omega⟩ (by first | omega | (dsimp only <;> omega)) K9 K1
     ·have hm1 := mul32_lt (show a < 4294967296 by omega) hy0
      have e1 := Nat.mod_eq_of_lt (show a * y0 < U from hm1)
      have e2 := Nat.mod_eq_of_lt (show 4294967296 * r < U by omega)
      have e3 := Nat.mod_eq_of_lt (show 4294967296 * r + v1 < U by omega)
      refine Yj (Zv J J) J J J J <|Yj (Zv J J) J J J J <|Yj (u_mul J J J) J J J J <|Yj (Zv J J) J J J J <|Yj (u_mul J J J) J J J J <|Yj (Zv J J) J J J J <|Yj (u_add J J J) J J J J <|Yj (Xd J J J) J J J J <|dt (Zs J J J) J <|Zc <|Za <|Zn J (fun h547 => ?_) (fun h547 => ?_)
      ·rw [e1, e2, e3] at h547
       refine Zk <|Za <|Zm <|Zb ?_
       have hst := dv_step (by omega) hI hv1 hu (by omega)
       have hst1 := hst.1
       refine Zd <|mv J J <|dt (u_sub (n := 1) J J J (by decide)) J <|Zl J J <|Zc <|Za <|Zb <|Yh (Qg 15 (v' := .int .u64 ((a - 1 : Nat) : Int)) J (u64_eq (dec_u hst1 (by omega)))) <|Zd <|mv J J <|mv J J <|dt (u_add J J J) J <|Zl J J <|Zc <|Za <|Zb <|Yh (Qg 16 (v' := .int .u64 ((r + y1 : Nat) : Int)) J (u64_eq (Nat.mod_eq_of_lt (by omega)))) <|Zd <|mv J J <|dt (Qb J J J) J <|Zc <|Za <|Zn J (fun h550_2 => ?_) (fun h550_2 => ?_)
       ·refine Yo <|x_bo (by decide) <|Zt <|Xr ?_
        have hq : Q1 = a - 1 := by rw [hQ1, hYs]; exact (dv_break (by omega) hy0 hst.2 (by omega) (by omega)).symm
        exact Xq () trivial ⟨by rw [hq]; rfl, rfl, rfl, rfl, rfl, rfl, rfl, rfl, trivial⟩ K1
       ·exact Zk <|Xl <|Yv (a - 1, r + y1) ⟨hst.2, by dsimp only; omega⟩ (by first | omega | (dsimp only <;> omega)) K9 K1
      ·rw [e1, e2, e3] at h547
       refine Yo <|Zt <|Zt <|Xr ?_
       have hq : Q1 = a := by rw [hQ1, hYs]; exact (dv_stop (by omega) hI (by omega)).symm
       exact Xq () trivial ⟨by rw [hq]; rfl, rfl, rfl, rfl, rfl, rfl, rfl, rfl, trivial⟩ K1
    ·rintro _ -
     simp only [List.cons_append, List.nil_append]
     refine Zb <|Zd <|mv J J <|dt (u_mul J J J) J <|mv J J <|dt (u_add J J J) J <|mv J J <|mv J J <|dt (u_mul J J J) J <|dt (u_sub J J J (by first | exact Nat.mod_lt _ U_pos | omega)) J <|Zl J J <|Zc <|Za <|Zb <|Yh (Qg 17 (v' := .int .u64 (t : Int)) J (by rw [hte, hQ1, dv_rem' hY0 hYU])) <|Zd <|mv J J <|mv J J <|dt (u_quo J J J (by omega) (by omega)) J <|Zl J J <|Zc <|Za <|Zb <|Zd <|mv J J <|mv J J <|mv J J <|dt (u_mul J J J) J <|dt (u_sub J J J (by first | exact Nat.mod_lt _ U_pos | omega)) J <|Zl J J <|Zc <|Za <|e_jn [(2, _), (8, _), (14, _), (15, _), (17, _)] [(0, _)] (fun (_ : Unit) => [(18, .int .u64 ((Q0 : Nat) : Int))]) (fun (_ : Unit) => []) (fun (_ : Unit) => True) K5 K1 ?_ ?_
     ·refine Zm <|Yh (Qg 16 (v' := .int .u64 ((t % y1 : Nat) : Int)) J (by rw [rsub (by omega) (by omega)])) <|Xv [(2, _), (8, _), (9, _), (10, _), (14, _), (15, _), (17, _)] [(0, _)] (fun (q : Nat × Nat) => [(18, .int .u64 (q.1 : Int)), (16, .int .u64 (q.2 : Int))]) (fun (q : Nat × Nat) => []) (fun (q : Nat × Nat) => (dvI t v0 y1 y0 q.1 q.2) ∧ (q.2 < 4294967296)) (fun (q : Nat × Nat) => q.1) (t / y1, t % y1) ⟨dv0 hy1 hy1l hy0 hv0 ht, Nat.lt_trans (Nat.mod_lt _ (by omega)) hy1l⟩ K9 K1 ?_
      rintro ⟨a, r⟩ ⟨hI, hr⟩
      dsimp only at hI hr
      simp only [List.cons_append, List.nil_append]
      have hI1 := hI.1
      have hI2 := hI.2.1
      refine Zb <|Zb <|Zd <|mv J J <|dt (Qb J J J) J <|mv J J <|Xo (d := 104) J (fun s559 => ?_) (fun s559 => ?_)
      ·refine Yy J J J J J <|Yy J J J J J <|Yy J J J J J <|Yy J J J J J <|Yy J J J J J <|Yy J J J J J <|Yy J J J J J <|Yy J J J J J <|dt (Ym J J J) J <|Zc <|Za <|Qi J <|Zk <|Za <|Zm <|Zb ?_
       have hst := dv_step (by omega) hI hv0 ht (by omega)
       have hst1 := hst.1
       refine Zd <|mv J J <|dt (u_sub (n := 1) J J J (by decide)) J <|Zl J J <|Zc <|Za <|Zb <|Yh (Qg 18 (v' := .int .u64 ((a - 1 : Nat) : Int)) J (u64_eq (dec_u hst1 (by omega)))) <|Zd <|mv J J <|mv J J <|dt (u_add J J J) J <|Zl J J <|Zc <|Za <|Zb <|Yh (Qg 16 (v' := .int .u64 ((r + y1 : Nat) : Int)) J (u64_eq (Nat.mod_eq_of_lt (by omega)))) <|Zd <|mv J J <|dt (Qb J J J) J <|Zc <|Za <|Zn J (fun h562 => ?_) (fun h562 => ?_)
       ·refine Yo <|x_bo (by decide) <|Zt <|Xr ?_
        have hq : Q0 = a - 1 := by rw [hQ0, hYs]; exact (dv_break (by omega) hy0 hst.2 (by omega) (by omega)).symm
        exact Xq () trivial ⟨by rw [hq]; rfl, rfl, rfl, rfl, rfl, rfl, trivial⟩ K1
       ·exact Zk <|Xl <|Yv (a - 1, r + y1) ⟨hst.2, by dsimp only; omega⟩ (by first | omega | (dsimp only <;> omega)) K9 K1
      ·have hm1 := mul32_lt (show a < 4294967296 by omega) hy0
       have e1 := Nat.mod_eq_of_lt (show a * y0 < U from hm1)
       have e2 := Nat.mod_eq_of_lt (show 4294967296 * r < U by omega)
       have e3 := Nat.mod_eq_of_lt (show 4294967296 * r + v0 < U by omega)
       refine Yj (Zv J J) J J J J <|Yj (Zv J J) J J J J <|Yj (u_mul J J J) J J J J <|Yj (Zv J J) J J J J <|Yj (u_mul J J J) J J J J <|Yj (Zv J J) J J J J <|Yj (u_add J J J) J J J J <|Yj (Xd J J J) J J J J <|dt (Zs J J J) J <|Zc <|Za <|Zn J (fun h559 => ?_) (fun h559 => ?_)
       ·rw [e1, e2, e3] at h559
        refine Zk <|Za <|Zm <|Zb ?_
        have hst := dv_step (by omega) hI hv0 ht (by omega)
        have hst1 := hst.1
        refine Zd <|mv J J <|dt (u_sub (n := 1) J J J (by decide)) J <|Zl J J <|Zc <|Za <|Zb <|Yh (Qg 18 (v' := .int .u64 ((a - 1 : Nat) : Int)) J (u64_eq (dec_u hst1 (by omega)))) <|Zd <|mv J J <|mv J J <|dt (u_add J J J) J <|Zl J J <|Zc <|Za <|Zb <|Yh (Qg 16 (v' := .int .u64 ((r + y1 : Nat) : Int)) J (u64_eq (Nat.mod_eq_of_lt (by omega)))) <|Zd <|mv J J <|dt (Qb J J J) J <|Zc <|Za <|Zn J (fun h562_2 => ?_) (fun h562_2 => ?_)
        ·refine Yo <|x_bo (by decide) <|Zt <|Xr ?_
         have hq : Q0 = a - 1 := by rw [hQ0, hYs]; exact (dv_break (by omega) hy0 hst.2 (by omega) (by omega)).symm
         exact Xq () trivial ⟨by rw [hq]; rfl, rfl, rfl, rfl, rfl, rfl, trivial⟩ K1
        ·exact Zk <|Xl <|Yv (a - 1, r + y1) ⟨hst.2, by dsimp only; omega⟩ (by first | omega | (dsimp only <;> omega)) K9 K1
       ·rw [e1, e2, e3] at h559
        refine Yo <|Zt <|Zt <|Xr ?_
        have hq : Q0 = a := by rw [hQ0, hYs]; exact (dv_stop (by omega) hI (by omega)).symm
        exact Xq () trivial ⟨by rw [hq]; rfl, rfl, rfl, rfl, rfl, rfl, trivial⟩ K1
     ·rintro _ -
      simp only [List.cons_append, List.nil_append]
      refine Zb <|Zd <|mv J J <|dt (u_mul J J J) J <|mv J J <|dt (u_add J J J) J <|mv J J <|dt (u_mul J J J) J <|mv J J <|dt (u_add J J J) J <|mv J J <|mv J J <|dt (u_mul J J J) J <|dt (u_sub J J J (by first | exact Nat.mod_lt _ U_pos | omega)) J <|mv J J <|dt (u_shr J J J J (by omega)) J <|Zl J J <|Zl J J <|Zc <|Za <|Zq ?_
      have hA : (Q1 * 4294967296 % U + Q0) % U = (h * U + l) / y := by rw [← shift_div _ y s, ← hD, ← hYe, hd1]; simp only [U]; omega
      have hB : ((t * 4294967296 % U + v0) % U + (U - (Q0 * Y) % U)) % U / 2 ^ s = (h * U + l) % y := by rw [← shift_mod _ y s, ← hD, ← hYe, hd2, hQ0, dv_rem' hY0 hYU]
      exact Zr (.inl J) hsc () _ (fun a w hs => Xp hs Tryz.results160 J J) (by rw [hA, hB]) trivial J Zj
theorem nat_small (v : Value) (x d : Nat) (hx : bl x ≤ 8589934592) (hd : 0 < d) (hdU : d < U) : Cal Tryz.prog 158 #[v, .int .u64 (d : Int)] [dgp v x] false (G := Value) (fun r => True) (fun r => .tuple #[r, .int .u64 ((x % d : Nat) : Int)]) (fun r => [dgp r (x / d)]) := by
 refine Ya Tryz.func158 J Tryz.ntmps158 J K1 ?_
 intro w0 sc hw hsc
 simp only [Zp, Zo]
 have hX := lenU_bl x
 refine Zb <|Zd <|Zl J J <|Zl J J <|Zc <|Za <|Zb <|Zd <|mv J J <|dt (Zy J J (i := 1) J Zi uT127) J <|tt (t_mkn (i := 2) (n := (dg U x).length) (by_ := 8) (enc := encU) 0 J J J J J (by omega) uT127 Tryz.ti137 J pU.cells pU.pos J J (by omega) (by decide) J hw) J fun v _ => Zl J J <|Zc <|Za <|Zb <|Zd <|Zl J J <|Zc <|Za <|Zb <|Zb <|Zd <|mv J J <|dt (Zy J J (i := 1) J Zi uT127) J <|dt (Xc J J J ⟨by omega, by omega⟩) J <|Zl J J <|Zc <|Za <|Zm <|Xv [(0, _), (1, _), (6, _)] [(0, _), (1, _)] (fun (q : Nat × List Nat × Nat) => [(8, .int .i64 ((q.1 : Int) - 1)), (7, .int .u64 (q.2.2 : Int))]) (fun (q : Nat × List Nat × Nat) => [(2, osl 1 137 encU v q.2.1)]) (fun (q : Nat × List Nat × Nat) => (q.1 ≤ (dg U x).length) ∧ (q.2.1.length = (dg U x).length) ∧ (q.2.2 < d) ∧ (∀ d ∈ q.2.1, d < U) ∧ (val U (q.2.1.drop q.1) * d + q.2.2 = val U ((dg U x).drop q.1))) (fun (q : Nat × List Nat × Nat) => q.1) ((dg U x).length, List.replicate (dg U x).length 0, 0) ⟨Nat.le_refl _, by simp, by first | omega | (dsimp only <;> omega), all_replicate _ U_pos, by simp [val]⟩ K5 K3 ?_
 rintro ⟨k, o, r⟩ ⟨hk, hol, hr, hall, hv⟩
 dsimp only at hk hol hr hall hv
 simp only [List.cons_append, List.nil_append]
 refine Zb <|Zb <|Zd <|mv J J <|dt (Qb J J J) J <|Zc <|Za <|Zn J (fun h158 => ?_) (fun h158 => ?_)
 ·exact Zk <|Za <|Zb <|Zm <|Zd <|mv J J <|mv J J <|mv J J <|mv J J <|mv J J <|dt (Yf (ii := 1) (i := k - 1) J J J J Zi uT127 zT137 (by omega) (by omega)) J <|dt (Yn (ii := 1) 0 J J J Zi pU (by first | omega | (simp only [List.length_set]; omega))) J <|mv J J <|tt (Zg (n := 2) (bits_div _ _ _ (getD_lt U_pos (dg_lt two_U _) _) hdU hr) J J J K3 cF160 Ze J hw) J fun _ _ => mv J J <|dt (Zw J J J) J <|dt (Zw J J J) J <|dt (Yf (ii := 2) (i := k - 1) J J J J (Ye pU) uT127 zT137 (by omega) (by omega)) J <|tt (Qo (i := 2) (enc := encU) _ J J J J J J (by decide) pU (by first | omega | (simp only [List.length_set]; omega)) J hw) J fun _ _ => Zl J J <|Zc <|Xl <|Za <|Zd <|mv J J <|dt (Xc J J J ⟨by omega, by omega⟩) J <|Zl J J <|Zc <|Yv (k - 1, _, _) ⟨by first | omega | (dsimp only <;> omega), by simp; omega, Nat.mod_lt _ hd, all_set hall _ _ (dv_digit (getD_lt U_pos (dg_lt two_U x) _) hr), small_step hd (by omega) (by omega) (by rw [show k - 1 + 1 = k by omega]; exact hv)⟩ (by first | omega | (dsimp only <;> omega)) ⟨by rw [show (((k - 1 : Nat) : Int) - 1) = (k : Int) - 1 - 1 by omega]; rfl, rfl, rfl, rfl, rfl, trivial⟩ K3
 ·refine Yo <|Zt <|Zt <|Xr <|Za <|Zb <|Zd <|mv J J <|tt (Zg (n := 2) (nat_trim_own _ _) J J J K1 cF108 (Xe 2 J J pU Ze) J hw) J fun _ _ => Xj (s_tz 2 J J pU) <|mv J J <|Zl J J <|Zl J J <|Zc <|Za <|Zq ?_
  obtain rfl : k = 0 := by omega
  rw [List.drop_zero, List.drop_zero, val_dg two_U] at hv
  have hq : tz o = dg U (x / d) := by
   rw [← dg_val two_U _ hall, ← hv, Nat.mul_comm, Nat.mul_add_div hd, Nat.div_eq_of_lt hr, Nat.add_zero]
  have hm : r = x % d := by rw [← hv, Nat.mul_comm, Nat.mul_add_mod, Nat.mod_eq_of_lt hr]
  exact Zr (.inl J) hsc _ _ (fun a w hs => Xp hs Tryz.results158 J J) (by rw [hm]) trivial J (Xs 2 J J pU hq Zj)
theorem nat_shl (v : Value) (x s : Nat) (hx : bl x ≤ 4294967296) (hs : s ≤ 4294967296) : Cal Tryz.prog 159 #[v, .int .i64 (s : Int)] [dgp v x] false (G := Value) (fun r => True) (fun r => r) (fun r => [dgp r (x * 2 ^ s)]) := by
 refine Ya Tryz.func159 J Tryz.ntmps159 J K1 ?_
 intro w0 sc hw hsc
 simp only [Zp, Zo]
 obtain ⟨w, hwe⟩ : ∃ w, w = s / 64 := ⟨_, rfl⟩
 obtain ⟨b, hbe⟩ : ∃ b, b = s % 64 := ⟨_, rfl⟩
 have hX := lenU_bl x
 refine Zb <|Zd <|Zl J J <|Zc <|Za <|Zb <|Zb <|Zd <|mv J J <|dt (Zy J J (i := 1) J Zi uT127) J <|dt (Xu J J J) J <|Zc <|Za <|Zn J (fun h122 => ?_) (fun h122 => ?_)
 ·refine Zb <|Zd <|Zl J J <|Zc <|Za <|Zq <|Yp <|Xz (Xy 9 1 137 encU) ?_
  have hx0 : x = 0 := (dg_nil_iff two_U x).1 (by omega)
  exact Zr (.inl J) hsc (.slice none 0 0) _ (fun a w hs => Yr hs Tryz.results159 J) J trivial J (Xs 9 J J pU (by rw [hx0, Nat.zero_mul]; rfl) Zj)
 ·refine Zk <|Za <|Zb <|Zd <|mv J J <|dt (d_quo J J J (by omega) (by omega) (by omega)) J <|mv J J <|dt (d_rem J J J (by omega) (by omega)) J <|Zl J J <|Zl J J <|Zc <|Za <|Zb <|Yh (Qg 5 (v' := .int .i64 (w : Int)) J (by congr 1; omega)) <|Yh (Qg 6 (v' := .int .i64 (b : Int)) J (by congr 1; omega)) <|Zd <|mv J J <|dt (Zy J J (i := 1) J Zi uT127) J <|mv J J <|dt (Yg J J J ⟨by omega, by omega⟩) J <|dt (Yg J J J ⟨by omega, by omega⟩) J <|tt (t_mkn (i := 2) (n := (dg U x).length + w + 1) (by_ := 8) (enc := encU) 0 J J J J J (by omega) uT127 Tryz.ti137 J pU.cells pU.pos J J (by omega) (by decide) J hw) J fun v _ => Zl J J <|Zc <|Za <|Zb <|Zb <|Zd <|mv J J <|dt (Zy J J (i := 1) J Zi uT127) J <|mv J J <|Zc <|Za <|Zm ?_
  refine Xv [(5, _), (6, _), (7, _), (23, _), (24, _)] [(0, _), (1, _)] (fun (q : Nat × List Nat) => [(25, .int .i64 (q.1 : Int))]) (fun (q : Nat × List Nat) => [(2, osl 1 137 encU v q.2)]) (fun (q : Nat × List Nat) => (q.1 ≤ (dg U x).length) ∧ (q.2.length = (dg U x).length + w + 1) ∧ (q.2.getD (w + q.1) 0 < 2 ^ b) ∧ (∀ j, w + q.1 < j → q.2.getD j 0 = 0) ∧ (∀ d ∈ q.2, d < U) ∧ (val U (q.2.take ((dg U x).length + w + 1)) = val U ((dg U x).take q.1) * 2 ^ b * U ^ w)) (fun (q : Nat × List Nat) => (dg U x).length - q.1) (0, List.replicate ((dg U x).length + w + 1) 0) ⟨by first | omega | (dsimp only <;> omega), by simp, by rw [getD_replicate]; exact Nat.two_pow_pos b, fun j _ => getD_replicate _ j, all_replicate _ U_pos, by rw [List.take_replicate, val_replicate]; simp [val]⟩ K6 K3 ?_
  rintro ⟨i, o⟩ ⟨hi, hol, hc, hz, hall, hv⟩
  dsimp only at hi hol hc hz hall hv
  simp only [List.cons_append, List.nil_append]
  have hst : i < (dg U x).length → _ := fun hlt => shl_step (xs := dg U x) (show b ≤ 63 by omega) hol.symm (show w + i + 1 < _ by omega) hc (hz (w + i + 1) (by omega)) (getD_lt U_pos (dg_lt two_U x) i) hv
  refine Zb <|Zd <|dt (Yw J J J) J <|Zc <|Za <|Zb <|Zn J (fun h127 => ?_) (fun h127 => ?_)
  ·refine Zk <|Za <|Zb <|Zm <|Zb <|Zd <|mv J J <|dt (Yf (ii := 1) J J J J Zi uT127 zT137 J (by first | omega | (simp only [List.length_set]; omega))) J <|dt (Yn (ii := 1) 0 J J J Zi pU (by first | omega | (simp only [List.length_set]; omega))) J <|Zl J J <|Zl J J <|Zc <|Za <|Zb ?_
   have hX1 := getD_lt U_pos (dg_lt two_U x) i
   refine Xa (fun _ => False) [(0, 0), (1, 0), (2, 0), (3, 0), (4, 0), (5, 0), (6, 0), (7, 0), (8, 0), (9, 0), (10, 0), (11, 3)] (by kernel_rfl) ?_ ?_
   ·kernel_rfl
   refine r0' J J J J (st0 (Zv J J)) <|r0' J J J J (st0 (Zv J J)) <|r0' J J J J (st0 (Zv J J)) <|r0' J J J J (st0 (Yg J J J ⟨by omega, by omega⟩)) <|r0' J J J J (st0 (Yf (ii := 2) (i := w + i) J J J J (Ye pU) uT127 zT137 (by omega) (by omega))) <|r0' J J J J (st0 (Yn (ii := 2) 0 J J J (Ye pU) pU (by first | omega | (simp only [List.length_set]; omega)))) <|r0' J J J J (st0 (Zv J J)) <|r0' J J J J (st0 (Zv J J)) <|r0' J J J J (st0 (u_shl J J (n := b) J J (by omega))) <|r0' J J J J (st0 (u_or J J J (getD_lt U_pos hall _) (Nat.mod_lt _ U_pos))) <|r0' J J J J (st0 (Yf (ii := 2) (i := w + i) J J J J (Ye pU) uT127 zT137 (by omega) (by omega))) <|r3' J J (Qo (i := 2) (enc := encU) _ J J J J J J (by decide) pU (by first | omega | (simp only [List.length_set]; omega)) J hw) fun _ _ => Xn <|Za <|Zb <|Zd <|mv J J <|dt (Xd J J J) J <|Zc <|Za <|Zn J (fun h129 => ?_) (fun h129 => ?_)
   ·have hal2 := all_set (all_set hall (w + i) (o.getD (w + i) 0 ||| (dg U x).getD i 0 * 2 ^ b % U) (Nat.or_lt_two_pow (n := 64) (getD_lt U_pos hall _) (Nat.mod_lt _ U_pos))) (w + i + 1) ((dg U x).getD i 0 / 2 ^ (64 - b)) (Nat.lt_of_le_of_lt (Nat.div_le_self _ _) hX1)
    have hc2 : ((o.set (w + i) (o.getD (w + i) 0 ||| (dg U x).getD i 0 * 2 ^ b % U)).set (w + i + 1) ((dg U x).getD i 0 / 2 ^ (64 - b))).getD (w + i + 1) 0 < 2 ^ b := by
     rw [getD_set _ _ _ _ _ (by simp; omega), if_pos rfl]; exact div_pow_lt (by omega) hX1
    have hz2 : ∀ j, w + i + 1 < j → ((o.set (w + i) (o.getD (w + i) 0 ||| (dg U x).getD i 0 * 2 ^ b % U)).set (w + i + 1) ((dg U x).getD i 0 / 2 ^ (64 - b))).getD j 0 = 0 := fun j hj => by
     rw [getD_set _ _ _ _ _ (by simp; omega), if_neg (by omega), getD_set _ _ _ _ _ (by omega), if_neg (by omega)]; exact hz j (by omega)
    have hv2 := hst (by omega)
    exact Zd <|mv J J <|mv J J <|mv J J <|dt (Yg J J J ⟨by omega, by omega⟩) J <|dt (Yg J J J ⟨by omega, by omega⟩) J <|mv J J <|mv J J <|dt (Xc J J J ⟨by omega, by omega⟩) J <|dt (u_shr J J (n := 64 - b) J (by omega) (by omega)) J <|dt (Yf (ii := 2) (i := w + i + 1) J J J J (Ye pU) uT127 zT137 (by omega) (by simp only [List.length_set]; omega)) J <|tt (Qo (i := 2) (enc := encU) _ J J J J J J (by decide) pU (by simp only [List.length_set]; omega) J hw) J fun _ _ => Zc <|Xl <|Za <|Zd <|dt (Yg J J J ⟨by omega, by omega⟩) J <|mv J J <|Zc <|Yv (i + 1, _) ⟨by first | omega | (dsimp only <;> omega), by simp; omega, by dsimp only; rw [show w + (i + 1) = w + i + 1 by omega]; exact hc2, fun j hj => by have hj2 : w + (i + 1) < j := hj; dsimp only; exact hz2 j (by omega), hal2, hv2⟩ (by first | omega | (dsimp only <;> omega)) K6 K3
   ·obtain rfl : b = 0 := by omega
    have hal2 := all_set hall (w + i) (o.getD (w + i) 0 ||| (dg U x).getD i 0 * 2 ^ 0 % U) (Nat.or_lt_two_pow (n := 64) (getD_lt U_pos hall _) (Nat.mod_lt _ U_pos))
    have hc2 : (o.set (w + i) (o.getD (w + i) 0 ||| (dg U x).getD i 0 * 2 ^ 0 % U)).getD (w + i + 1) 0 < 2 ^ 0 := by
     rw [getD_set _ _ _ _ _ (by omega), if_neg (by omega), hz _ (by omega)]; exact Nat.two_pow_pos 0
    have hz2 : ∀ j, w + i + 1 < j → (o.set (w + i) (o.getD (w + i) 0 ||| (dg U x).getD i 0 * 2 ^ 0 % U)).getD j 0 = 0 := fun j hj => by
     rw [getD_set _ _ _ _ _ (by omega), if_neg (by omega)]; exact hz j (by omega)
    have hv2 := hst (by omega)
    rw [show (dg U x).getD i 0 / 2 ^ (64 - 0) = 0 from Nat.div_eq_of_lt hX1] at hv2
    have hsame := set_getD_zero (o.set (w + i) (o.getD (w + i) 0 ||| (dg U x).getD i 0 * 2 ^ 0 % U)) (w + i + 1) (by rw [getD_set _ _ _ _ _ (by omega), if_neg (by omega), hz _ (by omega)])
    rw [hsame] at hv2
    exact Zk <|Xl <|Za <|Zd <|dt (Yg J J J ⟨by omega, by omega⟩) J <|mv J J <|Zc <|Yv (i + 1, _) ⟨by first | omega | (dsimp only <;> omega), by simp; omega, by dsimp only; rw [show w + (i + 1) = w + i + 1 by omega]; exact hc2, fun j hj => by have hj2 : w + (i + 1) < j := hj; dsimp only; exact hz2 j (by omega), hal2, hv2⟩ (by first | omega | (dsimp only <;> omega)) K6 K3
  ·refine Yo <|Zt <|Zt <|Xr <|Za <|Zb <|Zd <|mv J J <|tt (Zg (n := 2) (nat_trim_own _ _) J J J K1 cF108 (Xe 2 J J pU Ze) J hw) J fun _ _ => Xj (s_tz 2 J J pU) <|Zl J J <|Zc <|Za <|Zq ?_
   obtain rfl : i = (dg U x).length := by omega
   have hx2 : tz o = dg U (x * 2 ^ s) := by
    rw [← dg_val two_U _ hall]
    congr 1
    rw [val_take_all U o _ (by omega), List.take_of_length_le (Nat.le_refl _), val_dg two_U, U_pow2, Nat.mul_assoc, ← Nat.pow_add, show b + 64 * w = s by omega] at hv
    exact hv
   exact Zr (.inl J) hsc _ _ (fun a w hs => Yr hs Tryz.results159 J) J trivial J (Xs 2 J J pU hx2 Zj)
theorem nat_shr (v : Value) (x s : Nat) (hx : bl x ≤ 8589934592) (hs : s ≤ 8589934592) : Cal Tryz.prog 162 #[v, .int .i64 (s : Int)] [dgp v x] false (G := Value) (fun r => True) (fun r => r) (fun r => [dgp r (x / 2 ^ s)]) := by
 refine Ya Tryz.func162 J Tryz.ntmps162 J K1 ?_
 intro w0 sc hw hsc
 simp only [Zp, Zo]
 obtain ⟨w, hwe⟩ : ∃ w, w = s / 64 := ⟨_, rfl⟩
 obtain ⟨b, hbe⟩ : ∃ b, b = s % 64 := ⟨_, rfl⟩
 have hX := lenU_bl x
 have hdl : ((dg U x).drop w).length = (dg U x).length - w := List.length_drop
 refine Zb <|Zd <|Zl J J <|Zc <|Za <|Zb <|Zd <|mv J J <|dt (d_quo J J J (by omega) (by omega) (by omega)) J <|mv J J <|dt (d_rem J J J (by omega) (by omega)) J <|Zl J J <|Zl J J <|Zc <|Za <|Zb <|Zb <|Yh (Qg 5 (v' := .int .i64 (w : Int)) J (by congr 1; omega)) <|Yh (Qg 6 (v' := .int .i64 (b : Int)) J (by congr 1; omega)) <|Zd <|mv J J <|mv J J <|dt (Zy J J (i := 1) J Zi uT127) J <|dt (Qb J J J) J <|Zc <|Za <|Zn J (fun h139 => ?_) (fun h139 => ?_)
 ·refine Zb <|Zd <|Zl J J <|Zc <|Za <|Zq <|Yp <|Xz (Xy 9 1 137 encU) ?_
  have hx0 : x / 2 ^ s = 0 := by
   rw [shr_split hwe hbe, Nat.div_eq_of_lt ((dg_length_le two_U w x).1 (by omega)), Nat.zero_div]
  exact Zr (.inl J) hsc (.slice none 0 0) _ (fun a w hs => Yr hs Tryz.results162 J) J trivial J (Xs 9 J J pU (by rw [hx0]; rfl) Zj)
 ·refine Zk <|Za <|Zb <|Zd <|mv J J <|mv J J <|dt (d_suf (ii := 1) (i := w) J J J J Zi uT127 zT137 (by omega) (by omega)) J <|Xj (s_suf 1 2 (w) J J (by omega)) <|tt (t_callo (n := 3) (clone_nat _ _ (by simp only [List.length_drop]; omega)) J J J K1 cF166 (Zf 2 J J J Ze) J hw) J fun v _ => Zl J J <|Zc <|Za <|e_jn [(7, _)] [(0, _), (1, _), (2, _)] (fun (o : List Nat) => []) (fun (o : List Nat) => [(3, osl 1 137 encU v o)]) (fun (o : List Nat) => (o.length = (dg U x).length - w) ∧ (∀ j, j < o.length → o.getD j 0 = x / 2 ^ s / U ^ j % U)) K1 K3 ?_ ?_
  ·refine Zb <|Zd <|mv J J <|dt (Xd J J J) J <|Zc <|Za <|Zn J (fun h143 => ?_) (fun h143 => ?_)
   ·refine Zb <|Zd <|mv J J <|dt (Zy J J (i := 3) J (Ye pU) uT127) J <|mv J J <|Zc <|Za <|Zm <|Xv [(0, _), (5, _), (6, _), (7, _), (24, _)] [(0, _), (1, _), (2, _)] (fun (q : Nat × List Nat) => [(25, .int .i64 (q.1 : Int))]) (fun (q : Nat × List Nat) => [(3, osl 1 137 encU v q.2)]) (fun (q : Nat × List Nat) => (q.1 ≤ (dg U x).length - w) ∧ (q.2.length = (dg U x).length - w) ∧ (∀ j, j < q.1 → q.2.getD j 0 = x / 2 ^ s / U ^ j % U) ∧ (∀ j, q.1 ≤ j → q.2.getD j 0 = x / U ^ w / U ^ j % U) ∧ (∀ d ∈ q.2, d < U)) (fun (q : Nat × List Nat) => (dg U x).length - w - q.1) (0, (dg U x).drop w) ⟨Nat.zero_le _, by simp, fun j hj => absurd hj (Nat.not_lt_zero j), fun j _ => drop_dg x w j, fun d hd => dg_lt two_U x d (List.mem_of_mem_drop hd)⟩ K6 K4 ?_
    rintro ⟨i, o⟩ ⟨hi, hol, hlo, hhi, hall⟩
    dsimp only at hi hol hlo hhi hall
    simp only [List.cons_append, List.nil_append]
    refine Zb <|Zd <|dt (Yw J J J) J <|Zc <|Za <|Zb <|Zn J (fun h144 => ?_) (fun h144 => ?_)
    ·refine Zk <|Za <|Zb <|Zm <|Zb <|Zd <|mv J J <|Zl J J <|Zc <|Za <|Zb <|Zd <|mv J J <|mv J J <|dt (Yf (ii := 3) J J J J (Ye pU) uT127 zT137 J (by first | omega | (simp only [List.length_set]; omega))) J <|dt (Yn (ii := 3) 0 J J J (Ye pU) pU (by first | omega | (simp only [List.length_set]; omega))) J <|mv J J <|dt (u_shr J J (n := b) J J (by omega)) J <|dt (Yf (ii := 3) J J J J (Ye pU) uT127 zT137 J (by first | omega | (simp only [List.length_set]; omega))) J <|tt (Qo (i := 3) (enc := encU) _ J J J J J J (by decide) pU (by first | omega | (simp only [List.length_set]; omega)) J hw) J fun _ _ => Zc <|Za <|Zb <|Zd <|mv J J <|dt (Yg J J J ⟨by omega, by omega⟩) J <|mv J J <|dt (Zy J J (i := 3) J (Ye pU) uT127) J <|dt (Yw J J J) J <|Zc <|Za <|Zn J (fun h146 => ?_) (fun h146 => ?_)
     ·simp only [List.length_set] at h146
      have hnew : ∀ j, ((o.set i (o.getD i 0 / 2 ^ b)).set i ((o.set i (o.getD i 0 / 2 ^ b)).getD i 0 ||| ((dg U x).getD (w + i + 1) 0 * 2 ^ (64 - b)) % U)).getD j 0 = if i = j then x / 2 ^ s / U ^ i % U else o.getD j 0 := fun j => by
       rw [getD_set _ _ _ _ _ (by simp; omega), getD_set _ _ _ _ _ (by omega), getD_set _ _ _ _ _ (by omega)]
       split
       ·rw [if_pos rfl, hhi i (Nat.le_refl _), dg_getD two_U, shr_split hwe hbe, div_swap, show x / U ^ (w + i + 1) = x / U ^ w / U ^ i / U by rw [Nat.div_div_eq_div_mul, Nat.div_div_eq_div_mul, ← Nat.pow_succ, ← Nat.pow_add]; rfl, shr_word _ _ (by omega)]
       ·rfl
      have hal2 := all_set (all_set hall i (o.getD i 0 / 2 ^ b) (Nat.lt_of_le_of_lt (Nat.div_le_self _ _) (getD_lt U_pos hall _))) i ((o.set i (o.getD i 0 / 2 ^ b)).getD i 0 ||| ((dg U x).getD (w + i + 1) 0 * 2 ^ (64 - b)) % U) (Nat.or_lt_two_pow (n := 64) (getD_lt U_pos (all_set hall _ _ (Nat.lt_of_le_of_lt (Nat.div_le_self _ _) (getD_lt U_pos hall _))) _) (Nat.mod_lt _ U_pos))
      refine Xa (fun _ => False) [(0, 0), (1, 0), (2, 0), (3, 0), (4, 0), (5, 0), (6, 0), (7, 0), (8, 0), (9, 0), (10, 0), (11, 0), (12, 0), (13, 0), (14, 0), (15, 0), (16, 3)] (by kernel_rfl) ?_ ?_
      ·kernel_rfl
      refine r0' J J J J (st0 (Zv J J)) <|r0' J J J J (st0 (Zv J J)) <|r0' J J J J (st0 (Yf (ii := 3) J J J J (Ye pU) uT127 zT137 J (by first | omega | (simp only [List.length_set]; omega)))) <|r0' J J J J (st0 (Yn (ii := 3) 0 J J J (Ye pU) pU (by first | omega | (simp only [List.length_set]; omega)))) <|r0' J J J J (st0 (Zv J J)) <|r0' J J J J (st0 (Zv J J)) <|r0' J J J J (st0 (Zv J J)) <|r0' J J J J (st0 (Yg J J J ⟨by omega, by omega⟩)) <|r0' J J J J (st0 (Yg J J J ⟨by omega, by omega⟩)) <|r0' J J J J (st0 (Yf (ii := 1) (i := w + i + 1) J J J J Zi uT127 zT137 (by omega) (by first | omega | (simp only [List.length_set]; omega)))) <|r0' J J J J (st0 (Yn (ii := 1) 0 J J J Zi pU (by first | omega | (simp only [List.length_set]; omega)))) <|r0' J J J J (st0 (Zv J J)) <|r0' J J J J (st0 (Xc J J J ⟨by omega, by omega⟩)) <|r0' J J J J (st0 (u_shl J J (n := 64 - b) J (by omega) (by omega))) <|r0' J J J J (st0 (u_or J J J (getD_lt U_pos (all_set hall _ _ (Nat.lt_of_le_of_lt (Nat.div_le_self _ _) (getD_lt U_pos hall _))) _) (Nat.mod_lt _ U_pos))) <|r0' J J J J (st0 (Yf (ii := 3) J J J J (Ye pU) uT127 zT137 J (by first | omega | (simp only [List.length_set]; omega)))) <|r3' J J (Qo (i := 3) (enc := encU) _ J J J J J J (by decide) pU (by first | omega | (simp only [List.length_set]; omega)) J hw) fun _ _ => Xn <|Xl <|Za ?_
      exact Zd <|dt (Yg J J J ⟨by omega, by omega⟩) J <|mv J J <|Zc <|Yv (i + 1, _) ⟨by first | omega | (dsimp only <;> omega), by simp; omega, fun j hj => by dsimp only; rw [hnew j]; split; (· rename_i e; rw [← e]); exact hlo j (by have : j < i + 1 := hj; omega), fun j hj => by dsimp only; rw [hnew j, if_neg (by have : i + 1 ≤ j := hj; omega)]; exact hhi j (by have : i + 1 ≤ j := hj; omega), hal2⟩ (by first | omega | (dsimp only <;> omega)) K6 K4
     ·have hnew : ∀ j, (o.set i (o.getD i 0 / 2 ^ b)).getD j 0 = if i = j then x / 2 ^ s / U ^ i % U else o.getD j 0 := fun j => by
       rw [getD_set _ _ _ _ _ (by omega)]
       split
       ·rw [hhi i (Nat.le_refl _), shr_split hwe hbe, div_swap, shr_word0 _ _ (by omega)]
        rw [Nat.div_div_eq_div_mul, ← Nat.pow_succ]
        exact Nat.div_eq_of_lt (len_top (by simp only [List.length_set] at h146; omega))
       ·rfl
      have hal2 := all_set hall i (o.getD i 0 / 2 ^ b) (Nat.lt_of_le_of_lt (Nat.div_le_self _ _) (getD_lt U_pos hall _))
      exact Zk <|Xl <|Za <|Zd <|dt (Yg J J J ⟨by omega, by omega⟩) J <|mv J J <|Zc <|Yv (i + 1, _) ⟨by first | omega | (dsimp only <;> omega), by simp; omega, fun j hj => by dsimp only; rw [hnew j]; split; (· rename_i e; rw [← e]); exact hlo j (by have : j < i + 1 := hj; omega), fun j hj => by dsimp only; rw [hnew j, if_neg (by have : i + 1 ≤ j := hj; omega)]; exact hhi j (by have : i + 1 ≤ j := hj; omega), hal2⟩ (by first | omega | (dsimp only <;> omega)) K6 K4
    ·exact Yo <|Zt <|Zt <|Xr <|Xq _ ⟨by omega, by intro j hj; rw [hlo j (by omega)]⟩ K1 K4
   ·exact Zk <|Xq _ ⟨by simp, by intro j hj; rw [drop_dg, shr_split hwe hbe, show b = 0 by omega, Nat.pow_zero, Nat.div_one]⟩ K1 K4
  ·rintro o ⟨hol, hv⟩
   simp only [List.cons_append, List.nil_append]
   refine Zb <|Zd <|mv J J <|tt (Zg (n := 3) (nat_trim_own _ _) J J J K1 cF108 (Xe 3 J J pU Ze) J hw) J fun _ _ => Xj (s_tz 3 J J pU) <|Zl J J <|Zc <|Za <|Zq ?_
   have hx2 : tz o = dg U (x / 2 ^ s) := tz_of_getD two_U hv (by rw [hol, shr_split hwe hbe]; exact Nat.lt_of_le_of_lt (Nat.div_le_self _ _) (len_top (by omega)))
   exact Zr (.inl J) hsc _ _ (fun a w hs => Yr hs Tryz.results162 J) J trivial J (Xs 3 J J pU hx2 Zj)
theorem nat_store (v : Value) (x : Nat) (hx : bl x ≤ 4294967296) : Cal Tryz.prog 143 #[v] [dgp v x] false (G := Unit) (fun _ => True) (fun _ => .string (bstr x)) (fun _ => []) := by
 refine Ya Tryz.func143 J Tryz.ntmps143 J K1 ?_
 intro w0 sc hw hsc
 simp only [Zp, Zo]
 have hX := lenU_bl x
 have hL := len256 x
 have hW := lenU x
 have hrl : (List.replicate (dg 256 x).length (0 : Nat)).length = (dg 256 x).length := List.length_replicate
 refine Zb <|Zd <|Zl J J <|Zc <|Za <|Zb <|Zd <|mv J J <|tt (Zg (n := 1) (nat_size _ _ (by omega)) J J J K1 cF136 (Zf 1 J J J Ze) J hw) J fun _ _ => dt (Yg J J J ⟨by omega, by omega⟩) J <|dt (d_quo J J J (by omega) (by omega) (by omega)) J <|tt (t_mkn (i := 2) (n := (dg 256 x).length) (by_ := 1) (enc := encB) 0 J J J J J (by omega) uT26 Tryz.ti5 J pB.cells pB.pos J J (by omega) (by decide) J hw) J fun v _ => Zl J J <|Zc <|Za <|Zb <|Zb <|Zd <|mv J J <|dt (Zy J J (i := 2) J (Ye pB) uT26) J <|mv J J <|Zc <|Za <|Zm <|Xv [(0, _), (3, _), (12, _)] [(0, _), (1, _)] (fun (q : Nat × List Nat) => [(13, .int .i64 (q.1 : Int))]) (fun (q : Nat × List Nat) => [(2, osl 1 5 encB v q.2)]) (fun (q : Nat × List Nat) => (q.1 ≤ (dg 256 x).length) ∧ (q.2.length = (dg 256 x).length) ∧ (∀ j, j < q.1 → q.2.getD j 0 = x / 256 ^ ((dg 256 x).length - 1 - j) % 256)) (fun (q : Nat × List Nat) => (dg 256 x).length - q.1) (0, List.replicate (dg 256 x).length 0) ⟨by first | omega | (dsimp only <;> omega), by simp, fun j hj => absurd hj (Nat.not_lt_zero j)⟩ K4 K3 ?_
 rintro ⟨i, o⟩ ⟨hi, hol, hov⟩
 dsimp only at hi hol hov
 simp only [List.cons_append, List.nil_append]
 refine Zb <|Zd <|dt (Yw J J J) J <|Zc <|Za <|Zb <|Zn J (fun h48 => ?_) (fun h48 => ?_)
 ·refine Zk <|Za <|Zb <|Zm <|Zb <|Zd <|mv J J <|Zl J J <|Zc <|Za <|Zb <|Zd <|mv J J <|dt (Zy J J (i := 2) J (Ye pB) uT26) J <|dt (Xc J J J ⟨by omega, by omega⟩) J <|mv J J <|dt (Xc J J J ⟨by omega, by omega⟩) J <|Zl J J <|Zc <|Za <|Yh (Qg 5 (v' := .int .i64 (((dg 256 x).length - 1 - i : Nat) : Int)) J (by congr 1; omega)) ?_
  have hbyte := byte_of_word x ((dg 256 x).length - 1 - i)
  rw [← dg_getD two_U] at hbyte
  exact Zd <|mv J J <|mv J J <|mv J J <|mv J J <|dt (d_quo J J J (by omega) (by omega) (by omega)) J <|dt (Yf (ii := 1) (i := ((dg 256 x).length - 1 - i) / 8) J J J J Zi uT127 zT137 (by omega) (by omega)) J <|dt (Yn (ii := 1) 0 J J J Zi pU (by omega)) J <|mv J J <|dt (d_rem J J J (by omega) (by omega)) J <|dt (d_mul J J J ⟨by omega, by omega⟩) J <|dt (u_shr J J (n := ((dg 256 x).length - 1 - i) % 8 * 8) J (by omega) (by omega)) J <|dt (cv_u8 J J uT137 uT5) J <|dt (Yf (ii := 2) J J J J (Ye pB) uT26 zT5 J (by first | omega | (simp only [List.length_set]; omega))) J <|tt (Qo (i := 2) (enc := encB) _ J J J J J J (by decide) pB (by first | omega | (simp only [List.length_set]; omega)) J hw) J fun _ _ => Zc <|Xl <|Za <|Zd <|dt (Yg J J J ⟨by omega, by omega⟩) J <|mv J J <|Zc <|Yv (i + 1, _) ⟨by first | omega | (dsimp only <;> omega), by simp; omega, fun j hj => by dsimp only; rw [getD_set _ _ _ _ _ (by omega)]; split; (· rename_i e; rw [← e]; exact hbyte); exact hov j (by omega)⟩ (by first | omega | (dsimp only <;> omega)) K4 K3
 ·refine Yo <|Zt <|Zt <|Xr <|Za <|Zb <|Zd <|mv J J <|dt (d_b2s J J (i := 2) J (Ye pB) uT26 uT9 uT5) J <|Zl J J <|Zc <|Za <|Zq ?_
  have hb : bstr x = ⟨(o.map UInt8.ofNat).toArray⟩ := by
   have ho : o = (dg 256 x).reverse := by
    refine eq_of_getD (by simp; omega) (fun j hj => ?_)
    rw [hov j (by omega), getD_reverse _ _ _ (by omega), dg_getD (by omega)]
   rw [ho]; rfl
  exact Zr (.inl J) hsc () _ (fun a w hs => Yr hs Tryz.results143 J) (by rw [hb]) trivial J Zj
theorem wide_load (x : Nat) (hx : bl x ≤ 4294967296) : Cal Tryz.prog 135 #[.string (bstr x)] [] false (G := Value) (fun r => True) (fun r => r) (fun r => [dgp r x]) := by
 refine Ya Tryz.func135 J Tryz.ntmps135 J trivial ?_
 intro w0 sc hw hsc
 simp only [Zp, Zo]
 have hX := lenU_bl x
 have hL := len256 x
 have hW := lenU x
 have hbs := bstr_size x
 refine Zb <|Zd <|Zl J J <|Zc <|Za <|Zb <|Zd <|mv J J <|dt (Qc J J uT9) J <|dt (Yg J J J ⟨by omega, by omega⟩) J <|dt (d_quo J J J (by omega) (by omega) (by omega)) J <|tt (t_mkn (i := 1) (n := (dg U x).length) (by_ := 8) (enc := encU) 0 J J J J J (by omega) uT127 Tryz.ti137 J pU.cells pU.pos J J (by omega) (by decide) J hw) J fun v _ => Zl J J <|Zc <|Za <|Zb <|Zb <|Zd <|mv J J <|dt (Qc J J uT9) J <|mv J J <|Zc <|Za <|Zm <|Xv [(0, _), (3, _), (12, _)] [(0, _)] (fun (q : Nat × List Nat) => [(13, .int .i64 (q.1 : Int))]) (fun (q : Nat × List Nat) => [(1, osl 1 137 encU v q.2)]) (fun (q : Nat × List Nat) => (q.1 ≤ (dg 256 x).length) ∧ (q.2.length = (dg U x).length) ∧ (∀ w, w < q.2.length → q.2.getD w 0 = hi x ((dg 256 x).length - q.1) w)) (fun (q : Nat × List Nat) => (dg 256 x).length - q.1) (0, List.replicate (dg U x).length 0) ⟨by first | omega | (dsimp only <;> omega), by simp, fun w hw => by dsimp only at *; rw [List.length_replicate] at hw; rw [getD_replicate, hi_top (by omega)]⟩ K4 K2 ?_
 rintro ⟨i, o⟩ ⟨hik, hol, hov⟩
 dsimp only at hik hol hov
 simp only [List.cons_append, List.nil_append]
 refine Zb <|Zd <|dt (Yw J J J) J <|Zc <|Za <|Zb <|Zn J (fun h30 => ?_) (fun h30 => ?_)
 ·refine Zk <|Za <|Zb <|Zm <|Zb <|Zd <|mv J J <|Zl J J <|Zc <|Za <|Zb <|Zd <|mv J J <|dt (Qc J J uT9) J <|dt (Xc J J J ⟨by omega, by omega⟩) J <|mv J J <|dt (Xc J J J ⟨by omega, by omega⟩) J <|Zl J J <|Zc <|Za <|Yh (Qg 5 (v' := .int .i64 (((dg 256 x).length - 1 - i : Nat) : Int)) J (by congr 1; omega)) ?_
  have hget := bstr_get x i (by omega)
  have hw0 := hov (((dg 256 x).length - 1 - i) / 8) (by omega)
  have hlt1 : o.getD (((dg 256 x).length - 1 - i) / 8) 0 < U := by rw [hw0]; exact Nat.mod_lt _ U_pos
  have hset : ∀ w, w < o.length → (o.set (((dg 256 x).length - 1 - i) / 8) (o.getD (((dg 256 x).length - 1 - i) / 8) 0 ||| (((bstr x).data.toList.getD i 0).toNat * 2 ^ (((dg 256 x).length - 1 - i) % 8 * 8)) % U)).getD w 0 = hi x ((dg 256 x).length - (i + 1)) w := fun w hw => by
   rw [hget, hw0, show (dg 256 x).length - i = (dg 256 x).length - 1 - i + 1 by omega, hi_step, getD_set _ _ _ _ _ (by omega), show (dg 256 x).length - (i + 1) = (dg 256 x).length - 1 - i by omega]
   split
   ·rename_i e; rw [e]
   ·rename_i e; rw [hov w hw, show (dg 256 x).length - i = (dg 256 x).length - 1 - i + 1 by omega]; exact hi_other e
  refine Xa (fun _ => False) [(0, 0), (1, 0), (2, 0), (3, 0), (4, 0), (5, 0), (6, 0), (7, 0), (8, 0), (9, 0), (10, 0), (11, 0), (12, 0), (13, 0), (14, 0), (15, 3)] (by kernel_rfl) ?_ ?_
  ·kernel_rfl
  refine r0' J J J J (st0 (Zv J J)) <|r0' J J J J (st0 (Zv J J)) <|r0' J J J J (st0 (d_quo J J J (by omega) (by omega) (by omega))) <|r0' J J J J (st0 (Yf (ii := 1) (i := ((dg 256 x).length - 1 - i) / 8) J J J J (Ye pU) uT127 zT137 (by omega) (by omega))) <|r0' J J J J (st0 (Yn (ii := 1) 0 J J J (Ye pU) pU (by first | omega | (simp only [List.length_set]; omega)))) <|r0' J J J J (st0 (Zv J J)) <|r0' J J J J (st0 (Zv J J)) <|r0' J J J J (st0 (d_ixs J J J uT9 J (by omega))) <|r0' J J J J (st0 (cv_u64 J J uT5 uT137 (by have := (((bstr x).data.toList.getD i 0).toNat_lt); simp only [U]; omega))) <|r0' J J J J (st0 (Zv J J)) <|r0' J J J J (st0 (d_rem J J J (by omega) (by omega))) <|r0' J J J J (st0 (d_mul J J J ⟨by omega, by omega⟩)) <|r0' J J J J (st0 (u_shl J J (n := ((dg 256 x).length - 1 - i) % 8 * 8) J (by omega) (by omega))) <|r0' J J J J (st0 (u_or J J J (hlt1) (Nat.mod_lt _ U_pos))) <|r0' J J J J (st0 (Yf (ii := 1) (i := ((dg 256 x).length - 1 - i) / 8) J J J J (Ye pU) uT127 zT137 (by omega) (by omega))) <|r3' J J (Qo (i := 1) (enc := encU) _ J J J J J J (by decide) pU (by first | omega | (simp only [List.length_set]; omega)) J hw) fun _ _ => Xn <|Xl <|Za <|Zd <|dt (Yg J J J ⟨by omega, by omega⟩) J <|mv J J <|Zc ?_
  exact Yv (i + 1, _) ⟨by first | omega | (dsimp only <;> omega), by simp; omega, fun w hw => hset w (by simpa using hw)⟩ (by first | omega | (dsimp only <;> omega)) K4 K2
 ·refine Yo <|Zt <|Zt <|Xr <|Za <|Zb <|Zd <|mv J J <|Zl J J <|Zc <|Za <|Zq ?_
  have ho : o = dg U x := eq_of_getD hol (fun j hj => by rw [hov j hj, dg_getD two_U, hi_ge (by omega)])
  exact Zr (.inl J) hsc _ _ (fun a w hs => Yr hs Tryz.results135 J) J trivial J (Xs 1 J J pU ho Zj)
end Go.Sky

