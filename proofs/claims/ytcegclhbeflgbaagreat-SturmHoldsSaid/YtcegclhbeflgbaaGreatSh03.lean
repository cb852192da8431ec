/- rules, arithmetic and contracts: part 4
   Proved without conditions of its own: each theorem bears its own. -/
import Derived.Test.YtcegclhbeflgbaaGreatRows
import Derived.WalkKit
import Derived.ProofKit
import Derived.OpenShut
import Derived.ShutString
import Derived.ChangeOld
import Derived.Below
import Derived.Deep.Slices
import Derived.Lib.SmallJoins
import Derived.Test.YtcegclhbeflgbaaGreatSh02
set_option linter.all false
namespace Go.Sky
open Go.ChangeShapes Go.WideShapes Go.ChangeAt Go.RowKit Go.Joins Go.Deep
open Go.Proofs
set_option linter.unusedVariables false
variable {P : Program} {W : World} {H : Type} {enc : TypeId × Value → H}
theorem wide_cells {base : Nat} {spare : Nat → Bool} {held : Bool} {fuel : Nat} {t : TypeId} {f0 f1 : Field} {cs : List Value} {x : DataW H × List MemPlace}
    (ht : P.underlying t = some (.struct #[f0, f1])) (hC : P.cellsOf t = 2) (ho0 : f0.offset = 0) (ho1 : f1.offset = 1) (hc0 : P.cellsOf f0.type = 1) (hc1 : P.cellsOf f1.type = 1) (h0 : P.underlying f0.type = some .bool) (h1 : P.underlying f1.type = some .string)
    (h : DataW.trod enc P W base spare held fuel t cs = some x) : ∃ (b : Bool) (s : ByteArray), cs = [.bool b, .string s] ∧ s.size ≤ maxLen := by
  obtain ⟨y0, y1, n, hx, hl, e0, e1⟩ := trod_struct2 ht h
  rw [hC] at hl
  match cs, hl with
  | [c0, c1], _ =>
    rw [ho0, hc0] at e0
    rw [ho1, hc1] at e1
    obtain ⟨b, hb, _⟩ := DataW.trod_bool h0 e0
    obtain ⟨s, hs, _, hz⟩ := DataW.trod_string h1 e1
    simp at hb hs
    exact ⟨b, s, by rw [hb, hs], hz⟩
theorem choose_list {α : Type} [Inhabited α] {p : Nat → α → Prop} : ∀ n, (∀ i, i < n → ∃ x, p i x) → ∃ xs : List α, xs.length = n ∧ ∀ i x, xs[i]? = some x → p i x
  | 0, _ => ⟨[], rfl, fun i x h => by simp at h⟩
  | n + 1, h => by
    obtain ⟨xs, hl, hp⟩ := choose_list n fun i hi => h i (by omega)
    obtain ⟨x, hx⟩ := h n (by omega)
    refine ⟨xs ++ [x], by simp [hl], fun i y hy => ?_⟩
    rcases Nat.lt_or_ge i n with hi | hi
    · rw [List.getElem?_append_left (by omega)] at hy; exact hp i y hy
    · rw [List.getElem?_append_right (by omega), hl] at hy
      rcases Nat.eq_zero_or_pos (i - n) with h0 | h0
      · rw [h0] at hy; simp at hy; subst hy; rw [show i = n by omega]; exact hx
      · rw [List.getElem?_eq_none (by simp; omega)] at hy; cases hy
theorem okWide_has {r : Reach} {b0 : Nat} {t e : TypeId} {a : Addr} {len cap : Nat} (hs : P.underlying t = some (.slice e)) (hv : Value.okWide P W r b0 t (.slice (some a) len cap)) : a.spot = none ∧ a.block < W.heap.size := by
  unfold Value.okWide at hv
  rw [hs] at hv
  simp only at hv
  unfold Cell.okWide at hv
  rw [hs] at hv
  simp only at hv
  unfold Cell.ok at hv
  rw [hs] at hv
  simp only at hv
  obtain ⟨_, _, _, h1, row, cells, h2, _⟩ := hv
  refine ⟨h1, ?_⟩
  unfold World.shape? at h2
  rcases Nat.lt_or_ge a.block W.heap.size with h | h
  · exact h
  · rw [Array.getElem?_eq_none h] at h2
    simp at h2
theorem open_wides {t e : TypeId} {f0 f1 : Field} {v : Value} {d : DataW H} {p : List MemPlace} (hs : P.underlying t = some (.slice e))
    (ht : P.underlying e = some (.struct #[f0, f1])) (hC : P.cellsOf e = 2) (ho0 : f0.offset = 0) (ho1 : f1.offset = 1) (hc0 : P.cellsOf f0.type = 1) (hc1 : P.cellsOf f1.type = 1) (h0 : P.underlying f0.type = some .bool) (h1 : P.underlying f1.type = some .string)
    {r : Reach} {b0 : Nat} (hv : Value.okWide P W r b0 t v) (h : DataW.Trod enc P W 0 (fun _ => true) true t v d p) (hlt : ∀ x ∈ p, x.block < W.heap.size) :
    ∃ r : List (Bool × ByteArray), (slp 2 encW v r).holds W := by
  obtain ⟨a0, len, cap, rfl⟩ := okWide_slice hs hv
  obtain ⟨fuel, hf⟩ := h
  rcases open_slice hs hf with ⟨hcs, _⟩ | ⟨a, len', cap', m, n, D, Pl, hcs, _, hl, hm, hmm, hx, hel⟩
  · simp [Value.cells] at hcs
    obtain ⟨rfl, rfl, rfl⟩ := hcs
    exact ⟨[], nil_holds 2 encW W⟩
  · simp [Value.cells] at hcs
    obtain ⟨rfl, rfl, rfl⟩ := hcs
    simp at hmm
    subst hmm
    obtain ⟨xs, hxl, hxs⟩ := choose_list (p := fun i (z : Bool × ByteArray) => W.cells? 0 (a.add (i * 2)) 2 = some [.bool z.1, .string z.2]) len fun i hi => by
      obtain ⟨cs', h2, h3⟩ := hel i (by omega)
      rw [hC] at h2
      obtain ⟨b, s, rfl, _⟩ := wide_cells ht hC ho0 ho1 hc0 hc1 h0 h1 h3
      exact ⟨(b, s), h2⟩
    have hp : p = MemPlace.row a (m * 2) ++ (List.range m).flatMap Pl := by rw [hC] at hx; exact (Prod.mk.inj hx).2
    refine ⟨xs, ⟨some a, m, by rw [hxl], by omega, hm, ?_⟩, fun b hb => ?_⟩
    · rcases Nat.eq_zero_or_pos len with hz | hz
      · exact .inl (List.eq_nil_of_length_eq_zero (by omega))
      · right
        obtain ⟨g, off, spot⟩ := a
        obtain ⟨hsp, _⟩ := okWide_has hs hv
        simp only at hsp
        subst hsp
        refine ⟨g, off, rfl, fun i x hi j u hj => ?_⟩
        obtain ⟨_, _, hc⟩ := World.cells?_some (hxs i x hi)
        have hj2 : j < 2 := by
          rcases Nat.lt_or_ge j 2 with h | h
          · exact h
          · rw [List.getElem?_eq_none (by simp [Value.cells]; omega)] at hj; cases hj
        have := hc j hj2
        simp only [addr_add] at this
        rw [this]
        simpa [Value.cells] using hj
    · cases hb
      exact (okWide_has hs hv).2
theorem open_ratio {t e : TypeId} {g0 g1 f0 f1 : Field} {v : Value} {d : DataW H} {p : List MemPlace} {base : Nat} {spare : Nat → Bool} {held : Bool} {r : Reach} {b0 : Nat}
    (hg : P.underlying t = some (.struct #[g0, g1])) (ht : P.underlying e = some (.struct #[f0, f1])) (hC4 : P.cellsOf t = 4) (hC : P.cellsOf e = 2) (hg0 : g0.type = e) (hg1 : g1.type = e) (hp0 : g0.offset = 0) (hp1 : g1.offset = 2)
    (hc0 : P.cellsOf f0.type = 1) (hc1 : P.cellsOf f1.type = 1) (h0 : P.underlying f0.type = some .bool) (h1 : P.underlying f1.type = some .string) (ho0 : f0.offset = 0) (ho1 : f1.offset = 1)
    (hv : Value.okWide P W r b0 t v) (h : DataW.Trod enc P W base spare held t v d p) : ∃ (b : Bool) (s : ByteArray) (c : Bool) (u : ByteArray), v = .agg #[.bool b, .string s, .bool c, .string u] := by
  obtain ⟨cs, rfl, hsz⟩ := okWide_struct hg hv
  obtain ⟨fuel, hf⟩ := h
  obtain ⟨y0, y1, n, hx, hl, e0, e1⟩ := trod_struct2 hg hf
  rw [hg0, hp0, hC] at e0
  rw [hg1, hp1, hC] at e1
  obtain ⟨b, s, hb, _⟩ := wide_cells ht hC ho0 ho1 hc0 hc1 h0 h1 e0
  obtain ⟨c, u, hc, _⟩ := wide_cells ht hC ho0 ho1 hc0 hc1 h0 h1 e1
  refine ⟨b, s, c, u, ?_⟩
  rw [show cs = #[.bool b, .string s, .bool c, .string u] from Array.ext' ?_]
  obtain ⟨l⟩ := cs
  simp only [Value.cells] at hb hc
  match l, hsz, hb, hc with
  | l, hsz, hb, hc =>
    have h4 : l.length = 4 := by rw [← hC4]; exact hsz
    match l, h4 with
    | [a, b', c', d'], _ => simp_all
end Go.Sky
namespace Go.Sky
set_option linter.unusedVariables false
set_option maxRecDepth 20000
theorem bl_sumn {K : Nat} {f : Nat → Int} {n : Nat} (h : ∀ i, i < n → bl (f i).natAbs ≤ K) (hn : n ≤ 1023) : bl (sumTo f n).natAbs ≤ K + 10 := by
  rw [bl_le]
  have h1 := bl_sum h
  have h2 : n * (2 ^ K - 1) ≤ 1023 * (2 ^ K - 1) := Nat.mul_le_mul_right _ hn
  have h3 : 0 < 2 ^ K := Nat.two_pow_pos K
  rw [Nat.pow_add]
  omega
theorem ints_snoc (zs : List (Int × SL)) (z : Int × SL) : ints (zs ++ [z]) = ints zs ++ [z.1] := by simp [ints]
theorem pscale_mk2 (p : List Int) (c : Int) : tzl (mk p.length fun t => cf p t * c) = pscale p c := by rw [mk_map p (· * c)]; rfl
theorem pmul_mk (p q : List Int) : tzl (mk (p.length + q.length - 1) fun t => sumTo (fun k => cf p k * cf q (t - k)) (t + 1)) = pmul p q := rfl
theorem pscale_len (p : List Int) (c : Int) : (pscale p c).length ≤ p.length := by
  unfold pscale; have := tzl_le (p.map (· * c)); rwa [List.length_map] at this
theorem int_pow_ne {y : Int} (h : y ≠ 0) : ∀ n : Nat, y ^ n ≠ 0
  | 0 => by rw [Int.pow_zero]; omega
  | n + 1 => by rw [Int.pow_succ]; exact Int.mul_ne_zero (int_pow_ne h n) h
theorem map_wr_iff (xs ys : List Int) : xs.map wr = ys.map wr ↔ xs = ys := by
  refine ⟨fun h => ?_, fun h => by rw [h]⟩
  exact List.map_inj_right (fun x y h => wv_inj (congrArg Prod.fst h) (congrArg Prod.snd h)) |>.1 h
theorem Cal.imp2 {P : Program} {f : FuncId} {args : Array Value} {p1 p q : Pc} {pre : List Pc} {al : Bool} {G : Type} {φ : G → Prop} {val : G → Value} {its : G → List Pc} (h : Cal P f args (p1 :: p :: pre) al φ val its) (hh : ∀ w, q.holds w → p.holds w) (hf : ∀ b, p.fp b → q.fp b) :
    Cal P f args (p1 :: q :: pre) al φ val its := fun w hp => by
  refine (h w fun r hr => ?_).mono ?_
  · rcases List.mem_cons.1 hr with rfl | hr
    · exact hp _ (List.mem_cons_self ..)
    · rcases List.mem_cons.1 hr with rfl | hr
      · exact hh w (hp q (List.mem_cons_of_mem _ (List.mem_cons_self ..)))
      · exact hp r (List.mem_cons_of_mem _ (List.mem_cons_of_mem _ hr))
  · rintro e w' ⟨g, he, hg, hb, hits⟩
    refine ⟨g, he, hg, hb, fun p' hp' => ?_⟩
    obtain ⟨h1, h2, h3⟩ := hits p' hp'
    refine ⟨h1, h2, fun b hb => ?_⟩
    rcases h3 b hb with h | ⟨h, r, hr, hrb⟩
    · exact .inl h
    · refine .inr ⟨h, ?_⟩
      rcases List.mem_cons.1 hr with rfl | hr
      · exact ⟨r, List.mem_cons_self .., hrb⟩
      · rcases List.mem_cons.1 hr with rfl | hr
        · exact ⟨q, List.mem_cons_of_mem _ (List.mem_cons_self ..), hf b hrb⟩
        · exact ⟨r, List.mem_cons_of_mem _ (List.mem_cons_of_mem _ hr), hrb⟩
theorem okP_fin2 {r : List (Bool × ByteArray)} (ha : r.all (fun w => okW w.1 w.2) = true) : okP r = (decide (r.length ≤ 25) && (decide (r.length = 0) || decide ((0 : Int) < (((r.getD (r.length - 1) (false, ⟨#[]⟩)).2.size : Nat) : Int)))) := by
  unfold okP
  rw [ha, Bool.true_and]
  congr 2
  rw [decide_eq_decide]; omega
end Go.Sky
namespace Go.Sky
def shm (q : List Int) (c : Int) (s i : Nat) : List Int := mk (s + i) fun t => if t < s then 0 else c * cf q (t - s)
theorem cf_shm (q : List Int) (c : Int) (s t : Nat) : cf (shm q c s q.length) t = if s ≤ t ∧ t < s + q.length then c * cf q (t - s) else 0 := by
  unfold shm
  rw [cf_mk]
  by_cases h1 : t < s
  · rw [if_neg (by omega : ¬ (s ≤ t ∧ t < s + q.length))]; split
    · rfl
    · rfl
  · by_cases h2 : t < s + q.length
    · rw [if_pos h2, if_neg h1, if_pos (show s ≤ t ∧ t < s + q.length by omega)]
    · rw [if_neg h2, if_neg (show ¬ (s ≤ t ∧ t < s + q.length) by omega)]
section
variable {p q : List Int}
theorem rsteps_top (hq : 0 < q.length) (hl : q.length ≤ p.length) : ∀ j, j ≤ p.length - q.length + 1 → ∀ t, p.length - j ≤ t → cf (rsteps p q j) t = 0
  | 0, _, t, ht => cf_ge (by unfold rsteps; omega)
  | j + 1, hj, t, ht => by
    rcases Nat.lt_or_ge t p.length with h | h
    · unfold rsteps
      rw [cf_rstep (by rw [length_rsteps]; exact h)]
      by_cases he : t = p.length - 1 - j
      · subst he
        rw [if_pos (by omega), show p.length - 1 - j - (p.length - 1 - j - (q.length - 1)) = q.length - 1 by omega]
        omega
      · rw [rsteps_top hq hl j (by omega) t (by omega), Int.zero_mul, if_neg (by omega)]; rfl
    · exact cf_ge (by rw [length_rsteps]; omega)
def RestInv (p q R : List Int) (j : Nat) : Prop := Tr R ∧ ∀ t, cf R t = cf (rsteps p q j) t * cf q (q.length - 1) ^ (p.length - q.length + 1 - j)
end
end Go.Sky
namespace Go.Sky
section
variable {P : Program} {N : Nat} {sc : Nat → Prop} {env env' : Env} {H H' : Hp}
end
end Go.Sky
namespace Go.Sky
theorem vp_lit {l : List Int} (h1 : ∀ x ∈ l, inI x) (h2 : tzl l = l) (h3 : l.length ≤ 25) : Vp l := ⟨sz_ints h1, h2 ▸ tr_tzl l, h3⟩
theorem inI_all {l : List Int} (h : (l.all fun x => decide (-1000000 ≤ x) && decide (x ≤ 1000000)) = true) : ∀ x ∈ l, inI x := fun x hx => by
  have h1 := List.all_eq_true.1 h x hx
  simp only [Bool.and_eq_true, decide_eq_true_eq] at h1
  exact ⟨by omega, by omega⟩
def litb (l : List Int) : Bool := (l.all fun x => decide (-1000000 ≤ x) && decide (x ≤ 1000000)) && (decide (tzl l = l) && decide (l.length ≤ 25))
theorem vp_b {l : List Int} (h : litb l = true) : Vp l := by
  unfold litb at h
  rw [Bool.and_eq_true, Bool.and_eq_true] at h
  exact vp_lit (inI_all h.1) (of_decide_eq_true h.2.1) (of_decide_eq_true h.2.2)
instance eokDec : ∀ f a b, Decidable (eok f a b)
  | 0, _, b => inferInstanceAs (Decidable (b = []))
  | f + 1, a, b => @instDecidableOr _ _ _ (@instDecidableAnd _ _ _ (eokDec f b (pprim (prest a b))))
end Go.Sky
namespace Go.Sky
end Go.Sky
namespace Go.Sky
def rterm (a b : Int) : Nat → List Int
  | 0 => [1]
  | i + 1 => pmul (rterm a b i) (tzl [a, b])
def rsum (p : List Int) (a b d : Int) : Nat → List Int
  | 0 => []
  | i + 1 => padd (rsum p a b d i) (pscale (rterm a b i) (cf p i * d ^ (p.length - 1 - i)))
def hs (f : Nat → PS) : Nat → PS
  | 0 => 0
  | n + 1 => hs f n + f n
theorem ps_tzl (p : List Int) : ps (tzl p) = ps p := PS.ext' fun i => cf_tzl p i
end Go.Sky
namespace Go.Sky
abbrev RW := List (Bool × ByteArray)
abbrev qR (z : SL × RW) : Pc := slp 2 encW (svv z.1) z.2
abbrev qZ (z : SL × List Int) : Pc := slp 2 wv (svv z.1) z.2
abbrev R0 : SL × RW := ((none, 0, 0), [])
def short1 (r : RW) : Bool := (decide (r.length ≤ 14) || decide (r.length = 26)) && r.all fun c => decide (c.2.size ≤ 16)
def shortb (ls : List RW) : Bool := ls.all short1
theorem r1g' {P : Program} {N : Nat} {sc : Nat → Prop} {M : Nat → Prop} {env : Env} {H : Hp} {ops : Array Oper} {F : Env → Hp → Prop} {rest : List (Nat × Nat)} {i : Nat} {o : Oper} {G : Type} {φ : G → Prop} {genv : G → Env} {gH : G → Hp} {j e : Nat} {b : Bool} (ho : ops[i]? = some o) (hg : o.guard = some (j, b)) (hj : (ops[j]?).bind (·.dst) = some e) (he : lk env e = some (.bool b)) (heN : Nat.blt e N = true) (ht : T P N sc M o env H φ genv gH)
    (h : ∀ g, φ g → LD P N sc M ops F rest (genv g) (gH g)) :
    LD P N sc M ops F ((i, 1) :: rest) env H := r1g ht ho hg hj he heN h
theorem inI_bl {x : Int} (h : inI x) : bl x.natAbs ≤ 65536 := sz_ints (l := [x]) (fun y hy => by rw [List.mem_singleton.1 hy]; exact h) 0
end Go.Sky
namespace Go.Sky
set_option linter.unusedVariables false
theorem sumTo_only {f : Nat → Int} {k : Nat} : ∀ {n : Nat}, k < n → (∀ i, i < n → i ≠ k → f i = 0) → sumTo f n = f k
  | 0, hk, _ => absurd hk (Nat.not_lt_zero _)
  | n + 1, hk, h => by
    rw [sumTo_succ]
    by_cases e : k = n
    · subst e
      rw [sumTo_z fun i hi => h i (by omega) (by omega), Int.zero_add]
    · rw [h n (by omega) (fun x => e x.symm), sumTo_only (by omega) (fun i hi => h i (by omega)), Int.add_zero]
theorem conv_top {p q : List Int} {a b : Nat} (ha : ∀ i, a < i → cf p i = 0) (hb : ∀ i, b < i → cf q i = 0) : (ps p * ps q).c (a + b) = cf p a * cf q b := by
  rw [PS.mul_c, sumTo_only (k := a) (by omega) fun i hi hne => ?_]
  · rw [ps_c, ps_c, show a + b - a = b by omega]
  · rw [ps_c, ps_c]
    rcases Nat.lt_or_ge a i with h | h
    · rw [ha i h, Int.zero_mul]
    · rw [hb (a + b - i) (by omega), Int.mul_zero]
theorem mul_lin2 (s s' : List Int) (c c' : Int) (f : PS) (t : Nat) : (ps (psub (pscale s c) (pscale s' c')) * f).c t = c * (ps s * f).c t - c' * (ps s' * f).c t := by
  rw [PS.mul_c, PS.mul_c, PS.mul_c, ← sumTo_mul, Int.sub_eq_add_neg, ← Int.neg_mul, ← sumTo_mul, ← sumTo_add]
  refine sumTo_congr fun k _ => ?_
  rw [ps_c, ps_c, ps_c, cf_psub, cf_pscale, cf_pscale]
  grind
theorem mul_low {q s r : List Int} (hq : Tr q) (hq0 : q ≠ []) (h : ∀ t, (ps s * ps q).c t = cf r t) (hr : ∀ t, q.length - 1 ≤ t → cf r t = 0) : ∀ t, cf s t = 0 := by
  have hlead := hq.mem hq0
  have hlen : 0 < q.length := List.length_pos_iff.2 hq0
  have hs : tzl s = [] := by
    rcases snoc_or (tzl s) with h1 | ⟨ys, y, h1⟩
    · exact h1
    · exfalso
      have ht := tr_tzl s
      have hne : tzl s ≠ [] := by rw [h1]; simp
      have h2 := ht.mem hne
      have h3 := conv_top (p := tzl s) (q := q) (a := (tzl s).length - 1) (b := q.length - 1) (fun i hi => cf_ge (by omega)) (fun i hi => cf_ge (by omega))
      have h4 : ps (tzl s) = ps s := PS.ext' fun i => cf_tzl s i
      rw [h4, h, hr _ (by omega)] at h3
      rcases Int.mul_eq_zero.1 h3.symm with h5 | h5
      · exact h2 h5
      · exact hlead h5
  exact (tzl_nil_iff s).1 hs
theorem mul_zero_l {s : List Int} (h : ∀ t, cf s t = 0) (f : PS) (t : Nat) : (ps s * f).c t = 0 := by
  rw [PS.mul_c]
  exact sumTo_z fun k _ => by rw [ps_c, h, Int.zero_mul]
theorem length_pmul {p q : List Int} (hp : Tr p) (hq : Tr q) (h1 : p ≠ []) (h2 : q ≠ []) : (pmul p q).length = p.length + q.length - 1 := by
  have l1 := List.length_pos_iff.2 h1
  have l2 := List.length_pos_iff.2 h2
  unfold pmul
  rw [tzl_tr, length_mk]
  right
  rw [length_mk, cf_mk, if_pos (by omega), show p.length + q.length - 1 - 1 = (p.length - 1) + (q.length - 1) by omega, conv_top (fun i hi => cf_ge (by omega)) (fun i hi => cf_ge (by omega))]
  exact Int.mul_ne_zero (hp.mem h1) (hq.mem h2)
def mono (s : Nat) (c : Int) : List Int := List.replicate s 0 ++ [c]
theorem cf_mono (s : Nat) (c : Int) (i : Nat) : cf (mono s c) i = if i = s then c else 0 := by
  unfold mono
  rw [cf_append, List.length_replicate]
  split
  · rw [if_neg (by omega)]
    unfold cf
    simp [List.getD_eq_getElem?_getD, List.getElem?_replicate]
    split <;> rfl
  · rename_i h
    split
    · rename_i h2; subst h2; simp [cf]
    · exact cf_ge (by simp; omega)
theorem mono_mul (s : Nat) (c : Int) (f : PS) (t : Nat) : (ps (mono s c) * f).c t = if s ≤ t then c * f.c (t - s) else 0 := by
  rw [PS.mul_c]
  split
  · rw [sumTo_only (k := s) (by omega) fun i _ hne => by rw [ps_c, cf_mono, if_neg hne, Int.zero_mul], ps_c, cf_mono, if_pos rfl]
  · exact sumTo_z fun k hk => by rw [ps_c, cf_mono, if_neg (by omega), Int.zero_mul]
theorem rsteps_id {p q : List Int} (hq : 0 < q.length) (hl : q.length ≤ p.length) : ∀ j, j ≤ p.length - q.length + 1 → ∃ s : List Int, ∀ t, cf q (q.length - 1) ^ j * cf p t = (ps s * ps q).c t + cf (rsteps p q j) t
  | 0, _ => ⟨[], fun t => by rw [mul_zero_l (fun t => cf_ge (Nat.zero_le _)), Int.pow_zero]; unfold rsteps; omega⟩
  | j + 1, hj => by
    obtain ⟨s, ih⟩ := rsteps_id hq hl j (by omega)
    refine ⟨psub (pscale s (cf q (q.length - 1))) (pscale (mono (p.length - 1 - j - (q.length - 1)) (cf (rsteps p q j) (p.length - 1 - j))) (-1)), fun t => ?_⟩
    rw [mul_lin2, mono_mul]
    have h0 := ih t
    show _ = _ + cf (rstep q (rsteps p q j) (p.length - 1 - j)) t
    rw [Int.pow_succ]
    rcases Nat.lt_or_ge t p.length with h | h
    · rw [cf_rstep (by rw [length_rsteps]; exact h)]
      generalize p.length - 1 - j - (q.length - 1) = sh
      generalize cf (rsteps p q j) (p.length - 1 - j) = R
      generalize cf (rsteps p q j) t = R' at h0 ⊢
      generalize (ps s * ps q).c t = X at h0 ⊢
      generalize cf q (q.length - 1) ^ j = L at h0 ⊢
      generalize cf q (q.length - 1) = l at h0 ⊢
      have e : L * l * cf p t = l * X + R' * l := by rw [Int.mul_assoc, Int.mul_comm l, ← Int.mul_assoc, h0]; grind
      rw [e]
      by_cases h1 : sh ≤ t
      · rw [if_pos h1, ps_c]
        by_cases h2 : t < sh + q.length
        · rw [if_pos ⟨h1, h2⟩]; omega
        · rw [if_neg (by omega), cf_ge (p := q) (i := t - _) (by omega)]; omega
      · rw [if_neg h1, if_neg (by omega)]; omega
    · have z1 : cf p t = 0 := cf_ge h
      have z2 : cf (rsteps p q j) t = 0 := cf_ge (by rw [length_rsteps]; exact h)
      have z3 : cf (rstep q (rsteps p q j) (p.length - 1 - j)) t = 0 := cf_ge (by rw [length_rstep, length_rsteps]; exact h)
      have z4 : cf q (t - (p.length - 1 - j - (q.length - 1))) = 0 := cf_ge (by omega)
      rw [z1, z2, Int.mul_zero, Int.add_zero] at h0
      rw [z1, z3, if_pos (by omega), ps_c, z4, ← h0]; simp
theorem prest_id (p : List Int) {q : List Int} (hq : q ≠ []) : ∃ (k : Nat) (s : List Int), ∀ t, cf q (q.length - 1) ^ k * cf p t = (ps s * ps q).c t + cf (prest p q) t := by
  have hq' : 0 < q.length := List.length_pos_iff.2 hq
  rcases Nat.lt_or_ge p.length q.length with h | h
  · refine ⟨0, [], fun t => ?_⟩
    rw [mul_zero_l (fun t => cf_ge (Nat.zero_le _)), Int.pow_zero]
    unfold prest; rw [if_pos h]; omega
  · obtain ⟨s, hs⟩ := rsteps_id hq' h _ (Nat.le_refl _)
    refine ⟨p.length - q.length + 1, s, fun t => ?_⟩
    rw [hs t]
    unfold prest
    rw [if_neg (by omega), cf_tzl]
theorem length_prest_lt (p : List Int) {q : List Int} (hq : q ≠ []) : (prest p q).length < q.length := by
  have hq' : 0 < q.length := List.length_pos_iff.2 hq
  unfold prest
  split
  · assumption
  · have := tzl_len_le (p := rsteps p q (p.length - q.length + 1)) (n := q.length - 1) fun i hi => rsteps_top hq' (by omega) _ (Nat.le_refl _) i (by omega)
    omega
theorem tr_prest {p q : List Int} (hp : Tr p) : Tr (prest p q) := by
  unfold prest; split
  · exact hp
  · exact tr_tzl _
def Sim (a b : List Int) : Prop := ∃ m n : Int, m ≠ 0 ∧ n ≠ 0 ∧ ∀ i, m * cf a i = n * cf b i
theorem Sim.refl (a : List Int) : Sim a a := ⟨1, 1, by decide, by decide, fun _ => rfl⟩
theorem Sim.symm {a b : List Int} : Sim a b → Sim b a := fun ⟨m, n, hm, hn, h⟩ => ⟨n, m, hn, hm, fun i => (h i).symm⟩
theorem Sim.trans {a b c : List Int} : Sim a b → Sim b c → Sim a c := fun ⟨m, n, hm, hn, h⟩ ⟨u, v, hu, hv, k⟩ =>
  ⟨m * u, n * v, Int.mul_ne_zero hm hu, Int.mul_ne_zero hn hv, fun i => by have h1 := h i; have h2 := k i; grind⟩
theorem Sim.zero {a b : List Int} (h : Sim a b) {i : Nat} (hi : cf a i = 0) : cf b i = 0 := by
  obtain ⟨m, n, hm, hn, h⟩ := h
  have := h i
  rw [hi, Int.mul_zero] at this
  rcases Int.mul_eq_zero.1 this.symm with h | h
  · exact absurd h hn
  · exact h
theorem Sim.len_le {a b : List Int} (h : Sim a b) (hb : Tr b) : b.length ≤ a.length := by
  rcases Nat.lt_or_ge a.length b.length with hl | hl
  · exfalso
    have hne : b ≠ [] := List.length_pos_iff.1 (by omega)
    exact hb.mem hne (h.zero (cf_ge (by omega)))
  · exact hl
theorem Sim.len {a b : List Int} (h : Sim a b) (ha : Tr a) (hb : Tr b) : a.length = b.length := Nat.le_antisymm (h.symm.len_le ha) (h.len_le hb)
theorem Sim.nil {a b : List Int} (h : Sim a b) (hb : Tr b) (ha : a = []) : b = [] := by
  have := h.len_le hb
  rw [ha] at this
  exact List.eq_nil_of_length_eq_zero (by simpa using this)
theorem foldl_gcd_scale (c : Int) : ∀ (p : List Int) (g : Int), 0 ≤ g → (p.map (· * c)).foldl (fun g c => (Int.gcd g c : Int)) (g * c.natAbs) = p.foldl (fun g c => (Int.gcd g c : Int)) g * c.natAbs
  | [], g, _ => rfl
  | x :: p, g, hg => by
    rw [List.map_cons, List.foldl_cons, List.foldl_cons, ← foldl_gcd_scale c p _ (by omega)]
    congr 1
    have : Int.gcd (g * (c.natAbs : Int)) (x * c) = Int.gcd g x * c.natAbs := by
      unfold Int.gcd
      rw [Int.natAbs_mul, Int.natAbs_mul, Int.natAbs_natCast, Nat.gcd_mul_right]
    rw [this]; push_cast; rfl
theorem pcont_map (p : List Int) (c : Int) : pcont (p.map (· * c)) = pcont p * c.natAbs := by
  have := foldl_gcd_scale c p 0 (Int.le_refl _)
  rw [Int.zero_mul] at this
  exact this
theorem pprim_mul (p : List Int) (i : Nat) : cf (pprim p) i * pcont p = cf p i := by
  rw [cf_pprim]; exact Int.ediv_mul_cancel (pcont_dvd p i)
theorem pprim_nil : pprim [] = [] := rfl
theorem pcont_ne {p : List Int} (h : Tr p) (h0 : p ≠ []) : pcont p ≠ 0 := fun e => h.mem h0 ((pcont_zero_iff p).1 e _)
theorem pcont_pprim {p : List Int} (h : Tr p) (h0 : p ≠ []) : pcont (pprim p) = 1 := by
  have h1 := pcont_ne h h0
  have h2 := pcont_map (pprim p) (pcont p)
  rw [show (pprim p).map (· * pcont p) = p from list_ext (by rw [List.length_map, length_pprim]) fun i _ => by rw [cf_map _ _ (by simp)]; exact pprim_mul p i] at h2
  have h3 := pcont_nonneg p
  have h4 : pcont p * (pcont (pprim p) - 1) = 0 := by
    rw [Int.mul_sub, Int.mul_one, Int.mul_comm]
    have : ((pcont p).natAbs : Int) = pcont p := by omega
    rw [this] at h2; omega
  rcases Int.mul_eq_zero.1 h4 with h5 | h5 <;> omega
theorem pprim_of_one {p : List Int} (h : pcont p = 1) : pprim p = p := list_ext (length_pprim p) fun i _ => by rw [cf_pprim, h, Int.ediv_one]
theorem pprim_idem {p : List Int} (h : Tr p) : pprim (pprim p) = pprim p := by
  by_cases h0 : p = []
  · subst h0; rfl
  · exact pprim_of_one (pcont_pprim h h0)
theorem sim_pprim {p : List Int} (h : Tr p) : Sim (pprim p) p := by
  by_cases h0 : p = []
  · subst h0; exact Sim.refl _
  · exact ⟨pcont p, 1, pcont_ne h h0, by decide, fun i => by rw [Int.one_mul, Int.mul_comm]; exact pprim_mul p i⟩
def nrm (p : List Int) : List Int := gnorm (pprim p)
theorem sim_sign {x y : List Int} (hx : Tr x) (hy : Tr y) (h0 : x ≠ []) (h1 : pcont x = 1) (h2 : pcont y = 1) (h : Sim x y) : x = y ∨ ∀ i, cf x i = - cf y i := by
  have hl := h.len hx hy
  obtain ⟨m, n, hm, hn, e⟩ := h
  have h3 := pcont_map x m
  have h4 := pcont_map y n
  rw [show x.map (· * m) = y.map (· * n) from list_ext (by simp [hl]) fun i _ => by
    rw [cf_map _ _ (by simp), cf_map _ _ (by simp), Int.mul_comm, Int.mul_comm (cf y i)]; exact e i, h4, h1, h2] at h3
  have h5 : m = n ∨ m = -n := by omega
  rcases h5 with rfl | rfl
  · exact .inl (list_ext hl fun i _ => Int.eq_of_mul_eq_mul_left hm (e i))
  · exact .inr fun i => Int.eq_of_mul_eq_mul_left hn (by have := e i; grind)
theorem cf_gnorm (g : List Int) (i : Nat) : cf (gnorm g) i = if g.length ≠ 0 ∧ cf g (g.length - 1) < 0 then - cf g i else cf g i := by
  unfold gnorm; split
  · rw [cf_pscale]; omega
  · rfl
theorem tr_gnorm {g : List Int} (h : Tr g) : Tr (gnorm g) := by
  unfold gnorm; split
  · exact tr_pscale _ _
  · exact h
theorem sim_gnorm (g : List Int) : Sim (gnorm g) g := by
  by_cases h : g.length ≠ 0 ∧ cf g (g.length - 1) < 0
  · exact ⟨-1, 1, by decide, by decide, fun i => by rw [cf_gnorm, if_pos h]; omega⟩
  · exact ⟨1, 1, by decide, by decide, fun i => by rw [cf_gnorm, if_neg h]⟩
theorem nrm_sim {a b : List Int} (ha : Tr a) (hb : Tr b) (h : Sim a b) : nrm a = nrm b := by
  by_cases h0 : a = []
  · rw [h.nil hb h0, h0]
  · have h0' : b ≠ [] := fun e => h0 (h.symm.nil ha e)
    have hs : Sim (pprim a) (pprim b) := (sim_pprim ha).trans (h.trans (sim_pprim hb).symm)
    have hx := tr_pprim ha
    have hy := tr_pprim hb
    have hl := hs.len hx hy
    have hx0 : pprim a ≠ [] := fun e => h0 (List.eq_nil_of_length_eq_zero (by rw [← length_pprim, e]; rfl))
    rcases sim_sign hx hy hx0 (pcont_pprim ha h0) (pcont_pprim hb h0') hs with e | e
    · unfold nrm; rw [e]
    · unfold nrm
      refine (tr_gnorm hx).ext (tr_gnorm hy) fun i => ?_
      rw [cf_gnorm, cf_gnorm, ← hl, e i, e ((pprim a).length - 1)]
      have hne : cf (pprim b) ((pprim a).length - 1) ≠ 0 := by rw [hl]; exact hy.mem (fun e2 => hx0 (List.eq_nil_of_length_eq_zero (by rw [hl, e2]; rfl)))
      have hl0 : (pprim a).length ≠ 0 := fun e2 => hx0 (List.eq_nil_of_length_eq_zero e2)
      by_cases h3 : cf (pprim b) ((pprim a).length - 1) < 0
      · rw [if_neg (by omega), if_pos ⟨hl0, h3⟩]
      · rw [if_pos (by omega), if_neg (by omega)]; omega
theorem eu_tr : ∀ (f : Nat) {a b : List Int}, Tr a → Tr b → Tr (eu f a b)
  | 0, _, _, h, _ => h
  | f + 1, a, b, ha, hb => by
    unfold eu
    split
    · exact ha
    · exact eu_tr f hb (tr_pprim (tr_prest ha))
theorem eu_prim : ∀ (f : Nat) {a b : List Int}, Tr a → Tr b → pprim a = a → pprim b = b → pprim (eu f a b) = eu f a b
  | 0, _, _, _, _, h, _ => h
  | f + 1, a, b, ha, hb, h1, h2 => by
    unfold eu
    split
    · exact h1
    · exact eu_prim f hb (tr_pprim (tr_prest ha)) h2 (pprim_idem (tr_prest ha))
theorem tr_gA {p q : List Int} (hp : Tr p) (hq : Tr q) : Tr (gA p q) := by unfold gA; split <;> exact tr_pprim (by assumption)
theorem tr_gB {p q : List Int} (hp : Tr p) (hq : Tr q) : Tr (gB p q) := by unfold gB; split <;> exact tr_pprim (by assumption)
theorem pgcd_nrm {F : Nat} {p q : List Int} (hp : Tr p) (hq : Tr q) : pgcd F p q = nrm (eu F (gA p q) (gB p q)) := by
  unfold pgcd nrm
  rw [eu_prim F (tr_gA hp hq) (tr_gB hp hq)]
  · unfold gA; split
    · exact pprim_idem hq
    · exact pprim_idem hp
  · unfold gB; split
    · exact pprim_idem hp
    · exact pprim_idem hq
def chk : Nat → Nat → Nat → Nat → Nat → Bool
  | 0, _, lb, _, _ => Nat.beq lb 0
  | f + 1, la, lb, A, B => Nat.beq lb 0 || (bif Nat.blt la lb then chk f lb la B A else
      Nat.ble (A + (la - lb + 1) * B) 65537 && (List.range lb).all fun l => chk f lb l B (bif Nat.ble l 1 then 2 else A + (la - lb + 1) * B))
end Go.Sky
namespace Go.Sky
set_option linter.unusedVariables false
theorem lgcd_dv1 (x y : Int) : lgcd x y ∣ x := by
  unfold lgcd; split
  · exact Int.neg_dvd.2 (Int.gcd_dvd_left ..)
  · exact Int.gcd_dvd_left ..
theorem lgcd_dv2 (x y : Int) : lgcd x y ∣ y := by
  unfold lgcd; split
  · exact Int.neg_dvd.2 (Int.gcd_dvd_right ..)
  · exact Int.gcd_dvd_right ..
def s8 (l : List Int) : Prop := ∀ x ∈ l, (bstr x.natAbs).size ≤ 8
abbrev Z0 : SL × List Int := ((none, 0, 0), [])
theorem vp_eu : ∀ (f : Nat) {a b : List Int}, Vp a → Vp b → eok f a b → Vp (eu f a b)
  | 0, _, _, h, _, _ => h
  | f + 1, a, b, ha, hb, h => by
    unfold eu
    split
    · exact ha
    · rcases h with h | h
      · contradiction
      · exact vp_eu f hb (vp_pprim (vp_prest ha h.1)) h.2
theorem vp_gnorm {g : List Int} (h : Vp g) : Vp (gnorm g) := by
  unfold gnorm
  split
  · refine ⟨fun i => by rw [cf_pscale]; exact bl_negm h.sz i, tr_pscale _ _, Nat.le_trans (pscale_len _ _) h.len⟩
  · exact h
theorem vp_pgcd {F : Nat} {p q : List Int} (hp : Vp p) (hq : Vp q) (h : eok F (gA p q) (gB p q)) : Vp (pgcd F p q) := vp_gnorm (vp_eu F (vp_gA hp hq) (vp_gB hp hq) h)
end Go.Sky
namespace Go.Sky
set_option linter.unusedVariables false
def pevn (p : List Int) (x y : Int) (n : Nat) : Int := sumTo (fun i => cf p i * (x ^ i * y ^ (n - 1 - i))) n
def dn (p : List Int) (y : Int) : Int := y ^ (p.length - 1)
theorem pev_mul0 {p q : List Int} (hp : Tr p) (hq : Tr q) (h1 : p ≠ []) (h2 : q ≠ []) (x y : Int) : pev (pmul p q) x y = pev p x y * pev q x y := by
  have l1 := List.length_pos_iff.2 h1
  have l2 := List.length_pos_iff.2 h2
  unfold pev
  rw [length_pmul hp hq h1 h2]
  obtain ⟨Fk, hF⟩ : ∃ Fk : Nat → Nat → Int, ∀ k j, Fk k j = cf p k * cf q j * (x ^ (k + j) * y ^ (p.length + q.length - 1 - 1 - (k + j))) := ⟨_, fun _ _ => rfl⟩
  have e1 : sumTo (fun i => cf (pmul p q) i * (x ^ i * y ^ (p.length + q.length - 1 - 1 - i))) (p.length + q.length - 1) = sumTo (fun i => sumTo (fun k => Fk k (i - k)) (i + 1)) (p.length + q.length - 1) := by
    refine sumTo_congr fun i _ => ?_
    rw [cf_pmul, PS.mul_c, ← sumTo_mulr]
    exact sumTo_congr fun k hk => by
      rw [hF, show k + (i - k) = i by omega]; rfl
  rw [e1, sumTo_tri, sumTo_ext (m := p.length) (by omega) fun k h1 h2 => sumTo_z fun j _ => by rw [hF, cf_ge h1, Int.zero_mul, Int.zero_mul], ← sumTo_mulr]
  refine sumTo_congr fun k hk => ?_
  rw [sumTo_ext (m := q.length) (by omega) fun j h1 h2 => by rw [hF, cf_ge h1, Int.mul_zero, Int.zero_mul], ← sumTo_mul]
  refine sumTo_congr fun j hj => ?_
  rw [hF, Int.pow_add, show p.length + q.length - 1 - 1 - (k + j) = (p.length - 1 - k) + (q.length - 1 - j) by omega, Int.pow_add]
  generalize x ^ k = a; generalize x ^ j = b; generalize y ^ (p.length - 1 - k) = c; generalize y ^ (q.length - 1 - j) = d
  grind
theorem pmul_nil_l (q : List Int) : pmul [] q = [] := pmul_nil (.inl rfl)
theorem pmul_nil_r (p : List Int) : pmul p [] = [] := pmul_nil (.inr rfl)
theorem lgcd_rel (N D : Int) : N / lgcd N D * D = N * (D / lgcd N D) := by
  have h1 := Int.ediv_mul_cancel (lgcd_dv1 N D)
  have h2 := Int.ediv_mul_cancel (lgcd_dv2 N D)
  generalize N / lgcd N D = n at *
  generalize D / lgcd N D = d at *
  generalize lgcd N D = g at *
  subst h1 h2
  grind
theorem lgcd_denp {N D : Int} (h : 0 < D) : 0 < D / lgcd N D := by
  have h1 : lgcd N D = (Int.gcd N D : Int) := if_neg (by omega)
  have h2 := Int.ediv_mul_cancel (lgcd_dv2 N D)
  rw [h1] at h2 ⊢
  generalize D / (Int.gcd N D : Int) = d at *
  rcases Int.lt_or_le 0 d with h3 | h3
  · exact h3
  · exfalso
    have : d * (Int.gcd N D : Int) ≤ 0 := Int.mul_nonpos_of_nonpos_of_nonneg h3 (by omega)
    omega
section
variable {p q : List Int}
theorem dsteps_mul (hp : Tr p) (hq : Tr q) (h1 : p ≠ []) (h2 : q ≠ []) : ∀ j, j ≤ p.length → ∀ t, cf (dsteps (pmul p q) q j) t = (ps (p.take (p.length - j)) * ps q).c t
  | 0, _, t => by
    rw [Nat.sub_zero, List.take_length]; exact cf_pmul p q t
  | j + 1, hj, t => by
    have ih := dsteps_mul hp hq h1 h2 j (by omega)
    have l1 := List.length_pos_iff.2 h1
    have l2 := List.length_pos_iff.2 h2
    have hl := length_pmul hp hq h1 h2
    have e0 : dsteps (pmul p q) q (j + 1) = dstep q (dsteps (pmul p q) q j) (p.length - 1 - j) := by
      show dstep q _ _ = _; rw [hl]; congr 1; omega
    have hq0 := hq.mem h2
    have htop : cf (dsteps (pmul p q) q j) (p.length - 1 - j + q.length - 1) = cf p (p.length - 1 - j) * cf q (q.length - 1) := by
      rw [ih, show p.length - 1 - j + q.length - 1 = (p.length - 1 - j) + (q.length - 1) by omega, conv_top (fun i hi => by rw [cf_take, if_neg (by omega)]) (fun i hi => cf_ge (by omega)), cf_take, if_pos (by omega)]
    have hdq : dq q (dsteps (pmul p q) q j) (p.length - 1 - j) = cf p (p.length - 1 - j) := by
      unfold dq; rw [htop]; exact Int.mul_ediv_cancel _ hq0
    have e1 : (ps (p.take (p.length - j)) * ps q).c t = (ps (p.take (p.length - (j + 1))) * ps q).c t + (ps (mono (p.length - 1 - j) (cf p (p.length - 1 - j))) * ps q).c t := by
      rw [PS.mul_c, PS.mul_c, PS.mul_c, ← sumTo_add]
      refine sumTo_congr fun k _ => ?_
      rw [ps_c, ps_c, ps_c, ps_c, cf_take, cf_take, cf_mono]
      by_cases a1 : k = p.length - 1 - j
      · rw [if_pos (by omega), if_neg (by omega), if_pos a1, ← a1]; omega
      · rw [if_neg a1]
        by_cases a2 : k < p.length - j
        · rw [if_pos a2, if_pos (by omega)]; omega
        · rw [if_neg a2, if_neg (by omega)]; omega
    rw [e0]
    unfold dstep
    rw [cf_mk, length_dsteps, hl, hdq, ih, e1, mono_mul, ps_c]
    by_cases b1 : t < p.length + q.length - 1
    · rw [if_pos b1]
      by_cases b2 : p.length - 1 - j ≤ t
      · rw [if_pos b2]
        by_cases b3 : t < p.length - 1 - j + q.length
        · rw [if_pos ⟨b2, b3⟩]; omega
        · rw [if_neg (by omega), cf_ge (p := q) (by omega)]; omega
      · rw [if_neg b2, if_neg (by omega)]; omega
    · rw [if_neg b1, PS.mul_c]
      refine (sumTo_z fun k _ => ?_).symm
      rw [ps_c, ps_c, cf_take]
      split
      · rw [cf_ge (p := q) (by omega), Int.mul_zero]
      · rw [Int.zero_mul]
theorem pdv_mul (hp : Tr p) (hq : Tr q) (h2 : q ≠ []) : pdv (pmul p q) q ∧ pquoz (pmul p q) q = p := by
  by_cases h1 : p = []
  · subst h1; rw [pmul_nil_l]; exact ⟨.inl rfl, rfl⟩
  have l1 := List.length_pos_iff.2 h1
  have l2 := List.length_pos_iff.2 h2
  have hl := length_pmul hp hq h1 h2
  have hq0 := hq.mem h2
  have hd : ∀ k, k ≤ p.length - 1 → cf (dsteps (pmul p q) q (p.length - 1 - k)) (k + q.length - 1) = cf p k * cf q (q.length - 1) := fun k hk => by
    rw [dsteps_mul hp hq h1 h2 _ (by omega), show k + q.length - 1 = k + (q.length - 1) by omega, conv_top (fun i hi => by rw [cf_take, if_neg (by omega)]) (fun i hi => cf_ge (by omega)), cf_take, if_pos (by omega)]
  have hn : (pmul p q).length - q.length = p.length - 1 := by omega
  have hne : pmul p q ≠ [] := List.length_pos_iff.1 (by omega)
  refine ⟨.inr ⟨by omega, fun k hk => ?_, ?_⟩, ?_⟩
  · unfold dexact; rw [hn] at hk ⊢; rw [hd k hk]; exact Int.mul_emod_left _ _
  · rw [hn, show p.length - 1 + 1 = p.length by omega]
    refine (tzl_nil_iff _).2 fun i => ?_
    rw [dsteps_mul hp hq h1 h2 _ (Nat.le_refl _), Nat.sub_self, List.take_zero]
    exact mul_zero_l (fun t => cf_ge (Nat.zero_le _)) _ _
  · rw [pquoz_eq hne]
    unfold pquo
    rw [hn, show p.length - 1 + 1 = p.length by omega, mk_congr (g := cf p) fun k hk => ?_, mk_self, tzl_tr hp]
    unfold dcoef dq
    rw [hn, hd k (by omega)]
    exact Int.mul_ediv_cancel _ hq0
end
def Dv (g a : List Int) : Prop := ∃ (k : Int) (s : List Int), k ≠ 0 ∧ ∀ t, k * cf a t = (ps s * ps g).c t
theorem one_mulc (f : PS) (t : Nat) : (ps [1] * f).c t = f.c t := by
  rw [PS.mul_c, sumTo_only (k := 0) (by omega) fun i _ hne => by rw [ps_c, cf_ge (p := [1]) (by simp; omega), Int.zero_mul], ps_c, show cf [1] 0 = 1 from rfl, Int.one_mul, Nat.sub_zero]
theorem Dv.refl (a : List Int) : Dv a a := ⟨1, [1], by decide, fun t => by rw [one_mulc, Int.one_mul, ps_c]⟩
theorem Dv.nil (g : List Int) : Dv g [] := ⟨1, [], by decide, fun t => by rw [mul_zero_l (fun t => cf_ge (Nat.zero_le _)), cf_ge (Nat.zero_le _)]; rfl⟩
theorem Dv.sim {g a b : List Int} : Dv g a → Sim a b → Dv g b := fun ⟨k, s, hk, h⟩ ⟨m, n, hm, hn, e⟩ =>
  ⟨k * n, pscale s m, Int.mul_ne_zero hk hn, fun t => by
    rw [PS.mul_c, show (fun i => (ps (pscale s m)).c i * (ps g).c (t - i)) = fun i => m * ((ps s).c i * (ps g).c (t - i)) from funext fun i => by rw [ps_c, ps_c, ps_c, cf_pscale]; grind, sumTo_mul, ← PS.mul_c, ← h, Int.mul_assoc, ← e]; grind⟩
theorem Dv.lin {g a b c : List Int} (ha : Dv g a) (hb : Dv g b) (s : List Int) (L : Int) (hL : L ≠ 0) (h : ∀ t, L * cf c t = (ps s * ps a).c t + cf b t) : Dv g c := by
  obtain ⟨k, u, hk, h1⟩ := ha
  obtain ⟨m, v, hm, h2⟩ := hb
  refine ⟨L * (k * m), padd (pscale (pmul s u) m) (pscale v k), Int.mul_ne_zero hL (Int.mul_ne_zero hk hm), fun t => ?_⟩
  have e1 : ps g = ps g := rfl
  have e2 : k * (ps s * ps a).c t = (ps (pmul s u) * ps g).c t := by
    rw [ps_pmul, PS.mul_assoc', PS.mul_c, PS.mul_c, ← sumTo_mul]
    refine sumTo_congr fun i _ => ?_
    rw [← h1, ps_c, ps_c]; grind
  have e3 : (ps (padd (pscale (pmul s u) m) (pscale v k)) * ps g).c t = m * (ps (pmul s u) * ps g).c t + k * (ps v * ps g).c t := by
    rw [PS.mul_c, PS.mul_c, PS.mul_c, ← sumTo_mul, ← sumTo_mul, ← sumTo_add]
    refine sumTo_congr fun i _ => ?_
    rw [ps_c, ps_c, ps_c, ps_c, cf_padd, cf_pscale, cf_pscale]; grind
  have h0 := h t
  have h3 := h2 t
  rw [e3, ← e2, ← h3]
  generalize (ps s * ps a).c t = X at *
  generalize cf c t = C at *
  generalize cf b t = B at *
  have : L * (k * m) * C = k * m * (L * C) := by grind
  rw [this, h0]; grind
theorem eu_dv : ∀ (f : Nat) {a b : List Int}, Tr a → Tr b → eok f a b → Dv (eu f a b) a ∧ Dv (eu f a b) b
  | 0, a, b, ha, hb, h => by rw [show b = [] from h]; exact ⟨Dv.refl _, Dv.nil _⟩
  | f + 1, a, b, ha, hb, h => by
    by_cases h0 : b = []
    · subst h0; rw [eu_nil]; exact ⟨Dv.refl _, Dv.nil _⟩
    · rcases h with h | h
      · exact absurd h h0
      · have e : eu (f + 1) a b = eu f b (pprim (prest a b)) := by
          conv => lhs; unfold eu
          rw [if_neg h0]
        rw [e]
        have t1 := tr_prest (q := b) ha
        obtain ⟨d1, d2⟩ := eu_dv f hb (tr_pprim t1) h.2
        obtain ⟨k, s, hs⟩ := prest_id a h0
        exact ⟨d1.lin (d2.sim (sim_pprim t1)) s _ (int_pow_ne (hb.mem h0) k) hs, d1⟩
theorem Dv.of_sim {g g' a : List Int} : Dv g a → Sim g g' → Dv g' a := fun ⟨k, s, hk, h⟩ ⟨m, n, hm, hn, e⟩ =>
  ⟨m * k, pscale s n, Int.mul_ne_zero hm hk, fun t => by
    rw [Int.mul_assoc, h, PS.mul_c, PS.mul_c, ← sumTo_mul]
    refine sumTo_congr fun i _ => ?_
    rw [ps_c, ps_c, ps_c, ps_c, cf_pscale]
    have := e (t - i)
    grind⟩
theorem Dv.zero {a : List Int} (ha : Tr a) (h : Dv [] a) : a = [] := by
  obtain ⟨k, s, hk, h⟩ := h
  rw [← tzl_tr ha, tzl_nil_iff]
  intro i
  have h1 := h i
  rw [PS.mul_comm', mul_zero_l (fun t => cf_ge (Nat.zero_le _))] at h1
  rcases Int.mul_eq_zero.1 h1 with h2 | h2
  · exact absurd h2 hk
  · exact h2
theorem pgcd_dv {F : Nat} {p q : List Int} (hp : Tr p) (hq : Tr q) (h : eok F (gA p q) (gB p q)) : Dv (pgcd F p q) p ∧ Dv (pgcd F p q) q := by
  have hA := tr_gA hp hq
  have hB := tr_gB hp hq
  obtain ⟨h1, h2⟩ := eu_dv F hA hB h
  have hs : Sim (eu F (gA p q) (gB p q)) (pgcd F p q) := (sim_gnorm _).symm
  have h1 := h1.of_sim hs
  have h2 := h2.of_sim hs
  by_cases hl : p.length < q.length
  · rw [show gA p q = pprim q from if_pos hl] at h1
    rw [show gB p q = pprim p from if_pos hl] at h2
    exact ⟨h2.sim (sim_pprim hp), h1.sim (sim_pprim hq)⟩
  · rw [show gA p q = pprim p from if_neg hl] at h1
    rw [show gB p q = pprim q from if_neg hl] at h2
    exact ⟨h1.sim (sim_pprim hp), h2.sim (sim_pprim hq)⟩
theorem tr_pgcd {F : Nat} {p q : List Int} (hp : Tr p) (hq : Tr q) : Tr (pgcd F p q) := tr_gnorm (eu_tr F (tr_gA hp hq) (tr_gB hp hq))
theorem sim_pscale (p : List Int) {c : Int} (h : c ≠ 0) : Sim p (pscale p c) := ⟨c, 1, h, by decide, fun i => by rw [cf_pscale]; grind⟩
def fin8 (la A : Nat) : Bool := Nat.ble la 2 || Nat.ble (64 + (9 - la) * A) 65536
def chk2 : Nat → Nat → Nat → Nat → Nat → Bool
  | 0, la, _, A, _ => fin8 la A
  | f + 1, la, lb, A, B => bif Nat.beq lb 0 then fin8 la A else bif Nat.blt la lb then chk2 f lb la B A else
      (List.range lb).all fun l => chk2 f lb l B (bif Nat.ble l 1 then 2 else A + (la - lb + 1) * B)
theorem length_gnorm {g : List Int} (h : Tr g) : (gnorm g).length = g.length := (sim_gnorm g).len (tr_gnorm h) h
theorem pcont_gnorm (g : List Int) : pcont (gnorm g) = pcont g := by
  have d1 : pcont (gnorm g) ∣ pcont g := dvd_pcont fun i => by
    have h := pcont_dvd (gnorm g) i
    rw [cf_gnorm] at h
    split at h
    · exact Int.dvd_neg.1 h
    · exact h
  have d2 : pcont g ∣ pcont (gnorm g) := dvd_pcont fun i => by
    rw [cf_gnorm]; split
    · exact Int.dvd_neg.2 (pcont_dvd g i)
    · exact pcont_dvd g i
  exact Int.dvd_antisymm (pcont_nonneg _) (pcont_nonneg _) d1 d2
theorem pcont_pgcd {F : Nat} {p q : List Int} (hp : Tr p) (hq : Tr q) (h0 : pgcd F p q ≠ []) : pcont (pgcd F p q) = 1 := by
  rw [pgcd_nrm hp hq] at h0 ⊢
  unfold nrm at h0 ⊢
  rw [pcont_gnorm]
  refine pcont_pprim (eu_tr F (tr_gA hp hq) (tr_gB hp hq)) fun e => h0 ?_
  rw [e]; rfl
end Go.Sky
namespace Go.Sky
set_option linter.unusedVariables false
def sfits (xs : List Int) : Prop := xs.length = 0 ∨ (xs.length + 2) * (xs.length + 2) * (msz xs + 16) ≤ 65536
instance (xs : List Int) : Decidable (sfits xs) := by unfold sfits; infer_instance
def sqf (F : Nat) (xs : List Int) : List Int := pquoz (nrm xs) (pgcd F (nrm xs) (pder (nrm xs)))
def sqOK (F : Nat) (xs : List Int) : Prop := (∀ i, i < xs.length → bl (cf (nrm xs) (i + 1) * ((i : Int) + 1)).natAbs ≤ 65536) ∧ ¬ gfull (nrm xs) (pder (nrm xs)) ∧ eok F (gA (nrm xs) (pder (nrm xs))) (gB (nrm xs) (pder (nrm xs))) ∧
  derr (nrm xs) (pgcd F (nrm xs) (pder (nrm xs))) = 0 ∧ pdv (nrm xs) (pgcd F (nrm xs) (pder (nrm xs)))
def snext (x y : List Int) : List Int := if cf y (y.length - 1) < 0 ∧ (x.length - y.length + 1) % 2 = 1 then pprim (prest x y) else pscale (pprim (prest x y)) (-1)
def cok : Nat → List Int → List Int → Prop
  | 0, _, y => y = []
  | f + 1, x, y => y = [] ∨ (derr x y = 0 ∧ y.length ≤ x.length ∧ cok f y (snext x y))
def schain : Nat → List Int → List Int → List (List Int)
  | 0, x, _ => [x]
  | f + 1, x, y => if y = [] then [x] else x :: schain f y (snext x y)
theorem schain_nil (f : Nat) (x : List Int) : schain f x [] = [x] := by cases f <;> rfl
theorem cok_step {f : Nat} {a b : List Int} (h : cok f a b) (hb : b ≠ []) : ∃ g, f = g + 1 ∧ derr a b = 0 ∧ b.length ≤ a.length ∧ cok g b (snext a b) ∧ schain f a b = a :: schain g b (snext a b) := by
  cases f with
  | zero => exact absurd h hb
  | succ g =>
    rcases h with h | h
    · exact absurd h hb
    · exact ⟨g, rfl, h.1, h.2.1, h.2.2, by show (if b = [] then [a] else _) = _; rw [if_neg hb]⟩
def chn (F : Nat) (xs : List Int) : List (List Int) := schain F (sqf F xs) (pprim (pder (sqf F xs)))
def chOK (F : Nat) (xs : List Int) : Prop := sqOK F xs ∧ (∀ i, i < xs.length → bl (cf (sqf F xs) (i + 1) * ((i : Int) + 1)).natAbs ≤ 65536) ∧ cok F (sqf F xs) (pprim (pder (sqf F xs)))
theorem vp_nrm {p : List Int} (h : Vp p) : Vp (nrm p) := by
  unfold nrm
  have h1 := vp_pprim h
  refine ⟨fun i => ?_, tr_gnorm h1.tr, by rw [length_gnorm h1.tr]; exact h1.len⟩
  rw [cf_gnorm]; split
  · rw [Int.natAbs_neg]; exact h1.sz i
  · exact h1.sz i
theorem length_nrm {p : List Int} (h : Tr p) : (nrm p).length = p.length := by unfold nrm; rw [length_gnorm (tr_pprim h), length_pprim]
theorem vp_snext {x y : List Int} (hx : Vp x) (hd : derr x y = 0) : Vp (snext x y) := by
  have h := vp_pprim (vp_prest hx hd)
  unfold snext
  split
  · exact h
  · exact ⟨fun i => by rw [cf_pscale]; exact bl_negm h.sz i, tr_pscale _ _, Nat.le_trans (pscale_len _ _) h.len⟩
def chg1 (s : Int × Int) (x : Int) : Int × Int := if x = 0 then s else (if x = -s.2 then s.1 + 1 else s.1, x)
def chg (l : List Int) : Int := (l.foldl chg1 (0, 0)).1
theorem foldl_snoc {α β : Type} (f : α → β → α) (a : α) (l : List β) (x : β) : (l ++ [x]).foldl f a = f (l.foldl f a) x := by simp
theorem chg1_n (s : Int × Int) (x : Int) : (chg1 s x).1 = s.1 ∨ (chg1 s x).1 = s.1 + 1 := by
  unfold chg1; split
  · exact .inl rfl
  · dsimp only; split
    · exact .inr rfl
    · exact .inl rfl
def sgs (ls : List (List Int)) (x y : Int) : List Int := ls.map fun p => (pev p x y).sign
def sgr (ls : List (List Int)) : List Int := ls.map fun p => (cf p (p.length - 1)).sign
def sgl (ls : List (List Int)) : List Int := ls.map fun p => if p.length % 2 = 0 then - (cf p (p.length - 1)).sign else (cf p (p.length - 1)).sign
def smost (xs : List Int) : Nat := (xs.take (xs.length - 1)).foldl (fun m c => max m c.natAbs) 0
def sbound (xs : List Int) : Int := ((smost xs / (cf xs (xs.length - 1)).natAbs : Nat) : Int) + 2
end Go.Sky
namespace Go.Sky
def chk0 (xs : List Int) : Int := if xs.length = 0 then 3 else if sfits xs then 0 else 7
def ef (z : Int × Int) : Bool := decide (512 < bl z.1.natAbs) || decide (512 < bl z.2.natAbs)
def chk2r (xs : List Int) (x y x2 y2 : Int) : Int := if xs.length = 0 then 3 else if 0 < x * y2 - x2 * y then 3 else if sfits xs ∧ ef (x, y) = false ∧ ef (x2, y2) = false then 0 else 7
theorem chk0_ok {xs : List Int} (h0 : xs ≠ []) (h : sfits xs) : chk0 xs = 0 := by
  unfold chk0
  rw [if_neg (fun e => h0 (List.eq_nil_of_length_eq_zero e)), if_pos h]
theorem nrm_pos {xs : List Int} (h : ¬ cf (pprim xs) ((pprim xs).length - 1) < 0) : nrm xs = pprim xs := by
  unfold nrm gnorm; rw [if_neg (by omega)]
theorem nrm_neg {xs : List Int} (h0 : (pprim xs).length ≠ 0) (h : cf (pprim xs) ((pprim xs).length - 1) < 0) : nrm xs = pscale (pprim xs) (-1) := by
  unfold nrm gnorm; rw [if_pos ⟨h0, h⟩]
end Go.Sky
namespace Go.Sky
set_option linter.unusedVariables false
theorem exists_min {P : Nat → Prop} : ∀ n, P n → ∃ m, P m ∧ ∀ k, k < m → ¬ P k := by
  intro n
  induction n using Nat.strongRecOn with
  | _ n ih =>
    intro h
    by_cases hx : ∃ k, k < n ∧ P k
    · obtain ⟨k, hk, hf⟩ := hx; exact ih k hk hf
    · exact ⟨n, h, fun k hk hf => hx ⟨k, hk, hf⟩⟩
theorem least_dvd {n : Nat} (h : 2 ≤ n) : ∃ p, 2 ≤ p ∧ p ∣ n ∧ ∀ d, 2 ≤ d → d ∣ n → p ≤ d := by
  obtain ⟨p, ⟨h1, h2⟩, h3⟩ := exists_min (P := fun d => 2 ≤ d ∧ d ∣ n) n ⟨h, Nat.dvd_refl n⟩
  exact ⟨p, h1, h2, fun d hd hdn => by
    rcases Nat.lt_or_ge d p with h4 | h4
    · exact absurd ⟨hd, hdn⟩ (h3 d h4)
    · exact h4⟩
theorem least_prime {n p : Nat} (h1 : 2 ≤ p) (h2 : p ∣ n) (h3 : ∀ d, 2 ≤ d → d ∣ n → p ≤ d) (hn : 0 < n) {x y : Int} (h : (p : Int) ∣ x * y) : (p : Int) ∣ x ∨ (p : Int) ∣ y := by
  by_cases hx : (p : Int) ∣ x
  · exact .inl hx
  · right
    have hg : Nat.gcd p x.natAbs = 1 := by
      have hd := Nat.gcd_dvd_left p x.natAbs
      have h0 : 0 < Nat.gcd p x.natAbs := Nat.gcd_pos_of_pos_left _ (by omega)
      rcases Nat.lt_or_ge (Nat.gcd p x.natAbs) 2 with h4 | h4
      · omega
      · have h5 := h3 _ h4 (Nat.dvd_trans hd h2)
        have h6 := Nat.le_of_dvd (by omega) hd
        exfalso
        refine hx (Int.natAbs_dvd_natAbs.1 ?_)
        rw [Int.natAbs_natCast]
        have h7 : Nat.gcd p x.natAbs = p := by omega
        rw [← h7]; exact Nat.gcd_dvd_right _ _
    have h8 := Int.natAbs_dvd_natAbs.2 h
    rw [Int.natAbs_natCast, Int.natAbs_mul] at h8
    refine Int.natAbs_dvd_natAbs.1 ?_
    rw [Int.natAbs_natCast]
    exact (show Nat.Coprime p x.natAbs from hg).dvd_of_dvd_mul_left h8
theorem gauss {g a : List Int} (hg : pcont g = 1) : ∀ (n : Nat) (k : Int) (s : List Int), k.natAbs = n → k ≠ 0 → (∀ t, k * cf a t = (ps s * ps g).c t) → ∃ q : List Int, ∀ t, cf a t = (ps q * ps g).c t := by
  intro n
  induction n using Nat.strongRecOn with
  | _ n ih =>
    intro k s hkn hk h
    rcases Nat.lt_or_ge n 2 with h2 | h2
    · have hkk : k * k = 1 := by
        have : k = 1 ∨ k = -1 := by omega
        rcases this with e | e <;> subst e <;> rfl
      refine ⟨pscale s k, fun t => ?_⟩
      have e : (ps (pscale s k) * ps g).c t = k * (ps s * ps g).c t := by
        rw [PS.mul_c, PS.mul_c, ← sumTo_mul]
        exact sumTo_congr fun i _ => by rw [ps_c, ps_c, ps_c, cf_pscale]; grind
      rw [e, ← h, ← Int.mul_assoc, hkk, Int.one_mul]
    · obtain ⟨p, p2, pd, pm⟩ := least_dvd h2
      have hpp : ∀ {x y : Int}, (p : Int) ∣ x * y → (p : Int) ∣ x ∨ (p : Int) ∣ y := least_prime p2 pd pm (by omega)
      have hpk : (p : Int) ∣ k := Int.natAbs_dvd_natAbs.1 (by rw [Int.natAbs_natCast, hkn]; exact pd)
      have hgn : ∃ j, ¬ (p : Int) ∣ cf g j := Classical.byContradiction fun hx => by
        have : (p : Int) ∣ pcont g := dvd_pcont fun i => Classical.byContradiction fun hy => hx ⟨i, hy⟩
        rw [hg] at this
        have := Int.le_of_dvd (by decide) this
        omega
      obtain ⟨j0, hj0⟩ := hgn
      obtain ⟨j, hj, hjm⟩ := exists_min (P := fun j => ¬ (p : Int) ∣ cf g j) j0 hj0
      have hs : ∀ i, (p : Int) ∣ cf s i := fun i0 => Classical.byContradiction fun hi0 => by
        obtain ⟨i, hi, him⟩ := exists_min (P := fun i => ¬ (p : Int) ∣ cf s i) i0 hi0
        have h3 := h (i + j)
        rw [PS.mul_c] at h3
        have key : ∀ m, m ≤ i + j + 1 → (p : Int) ∣ sumTo (fun k => (if k = i then 0 else (ps s).c k * (ps g).c (i + j - k))) m := fun m => by
          induction m with
          | zero => intro _; exact Int.dvd_zero _
          | succ m ihm =>
            intro hm
            rw [sumTo_succ]
            refine Int.dvd_add (ihm (by omega)) ?_
            split
            · exact Int.dvd_zero _
            · rename_i hne
              rw [ps_c, ps_c]
              rcases Nat.lt_or_ge m i with h4 | h4
              · exact Int.dvd_trans (Classical.byContradiction fun hx => him m h4 hx) (Int.dvd_mul_right _ _)
              · exact Int.dvd_trans (Classical.byContradiction fun hx => hjm (i + j - m) (by omega) hx) (Int.dvd_mul_left _ _)
        have e1 : sumTo (fun k => (ps s).c k * (ps g).c (i + j - k)) (i + j + 1) = sumTo (fun k => (if k = i then 0 else (ps s).c k * (ps g).c (i + j - k))) (i + j + 1) + cf s i * cf g j := by
          have e2 : sumTo (fun k => (ps s).c k * (ps g).c (i + j - k)) (i + j + 1) = sumTo (fun k => (if k = i then 0 else (ps s).c k * (ps g).c (i + j - k)) + (if k = i then (ps s).c k * (ps g).c (i + j - k) else 0)) (i + j + 1) :=
            sumTo_congr fun k _ => by split <;> omega
          rw [e2, sumTo_add, sumTo_only (f := fun k => if k = i then (ps s).c k * (ps g).c (i + j - k) else 0) (k := i) (by omega) (fun q _ hq => if_neg hq), if_pos rfl, ps_c, ps_c, show i + j - i = j by omega]
        rw [e1] at h3
        have h4 : (p : Int) ∣ cf s i * cf g j := by
          have h5 : cf s i * cf g j = k * cf a (i + j) - sumTo (fun k => (if k = i then 0 else (ps s).c k * (ps g).c (i + j - k))) (i + j + 1) := by omega
          rw [h5]
          exact Int.dvd_sub (Int.dvd_trans hpk (Int.dvd_mul_right _ _)) (key _ (Nat.le_refl _))
        rcases hpp h4 with h5 | h5
        · exact hi h5
        · exact hj h5
      obtain ⟨k', hk'⟩ := hpk
      have hp0 : (p : Int) ≠ 0 := by omega
      refine ih k'.natAbs ?_ k' (s.map (· / (p : Int))) rfl ?_ ?_
      · rw [← hkn, hk', Int.natAbs_mul, Int.natAbs_natCast]
        have : 0 < k'.natAbs := by
          rcases Nat.eq_zero_or_pos k'.natAbs with h6 | h6
          · rw [show k' = 0 by omega] at hk'; simp at hk'; exact absurd hk' hk
          · exact h6
        have := Nat.mul_le_mul_right k'.natAbs p2
        omega
      · intro e; rw [e] at hk'; simp at hk'; exact hk hk'
      · intro t
        refine Int.eq_of_mul_eq_mul_left hp0 ?_
        rw [← Int.mul_assoc, ← hk', h, PS.mul_c, PS.mul_c, ← sumTo_mul]
        refine sumTo_congr fun i _ => ?_
        rw [ps_c, ps_c, ps_c, cf_map _ _ (by simp), ← Int.mul_assoc, Int.mul_ediv_cancel' (hs i)]
end Go.Sky
namespace Go.Sky
set_option linter.unusedVariables false
def ev1 : List Int → Int → Int
  | [], _ => 0
  | c :: r, t => c + t * ev1 r t
def sdv : List Int → Int → List Int
  | [], _ => []
  | [_], _ => []
  | _ :: c :: r, t => ev1 (c :: r) t :: sdv (c :: r) t
theorem length_sdv : ∀ (u : List Int) (t : Int), (sdv u t).length = u.length - 1
  | [], _ => rfl
  | [_], _ => rfl
  | _ :: c :: r, t => by unfold sdv; rw [List.length_cons, length_sdv (c :: r) t]; simp
theorem ev1_sdv : ∀ (u : List Int) (t x : Int), ev1 u x = ev1 u t + (x - t) * ev1 (sdv u t) x
  | [], t, x => by simp [ev1, sdv]
  | [c], t, x => by simp [ev1, sdv]
  | a :: c :: r, t, x => by
    have ih := ev1_sdv (c :: r) t x
    show a + x * ev1 (c :: r) x = a + t * ev1 (c :: r) t + (x - t) * (ev1 (c :: r) t + x * ev1 (sdv (c :: r) t) x)
    rw [ih]
    generalize ev1 (c :: r) t = A
    generalize ev1 (sdv (c :: r) t) x = B
    grind
theorem cf_cons (a : Int) (u : List Int) (i : Nat) : cf (a :: u) i = if i = 0 then a else cf u (i - 1) := by
  cases i with
  | zero => rfl
  | succ i => simp [cf]
theorem cf_nil (i : Nat) : cf [] i = 0 := cf_ge (Nat.zero_le _)
theorem cf_sdv : ∀ (u : List Int) (t : Int) (i : Nat), cf u (i + 1) = cf (sdv u t) i - t * cf (sdv u t) (i + 1)
  | [], t, i => by unfold sdv; simp [cf_nil]
  | [c], t, i => by unfold sdv; rw [cf_cons, if_neg (by omega)]; simp [cf_nil]
  | a :: c :: r, t, i => by
    unfold sdv
    rw [cf_cons, if_neg (by omega), Nat.add_sub_cancel]
    cases i with
    | zero =>
      rw [cf_cons, if_pos rfl, cf_cons, if_pos rfl, cf_cons, if_neg (by omega)]
      show c = ev1 (c :: r) t - t * cf (sdv (c :: r) t) 0
      match r with
      | [] => simp [ev1, sdv, cf]
      | d :: r' => unfold sdv; rw [cf_cons, if_pos rfl]; show c = (c + t * ev1 (d :: r') t) - _; omega
    | succ i =>
      rw [cf_cons _ (sdv _ _) (i + 1), if_neg (by omega), cf_cons _ (sdv _ _), if_neg (by omega), Nat.add_sub_cancel, Nat.add_sub_cancel]
      exact cf_sdv (c :: r) t i
theorem cf_sdv0 : ∀ (u : List Int) (t : Int), cf u 0 = ev1 u t - t * cf (sdv u t) 0
  | [], t => by simp [ev1, sdv, cf]
  | [c], t => by simp [ev1, sdv, cf]
  | a :: c :: r, t => by
    unfold sdv
    rw [cf_cons, if_pos rfl, cf_cons, if_pos rfl]
    show a = (a + t * ev1 (c :: r) t) - t * ev1 (c :: r) t
    omega
theorem roots_le : ∀ (n : Nat) (u : List Int) (R : List Int), u.length = n → (∃ i, cf u i ≠ 0) → R.Nodup → (∀ t ∈ R, ev1 u t = 0) → R.length < n
  | 0, u, R, hn, hu, _, _ => by
    obtain ⟨i, hi⟩ := hu
    rw [List.eq_nil_of_length_eq_zero hn, cf_nil] at hi
    exact absurd rfl hi
  | n + 1, u, [], hn, hu, _, _ => by simp
  | n + 1, u, t :: R, hn, hu, hd, hR => by
    have h0 := hR t (List.mem_cons_self ..)
    have hl := length_sdv u t
    have hw : ∃ i, cf (sdv u t) i ≠ 0 := Classical.byContradiction fun hx => by
      have hz : ∀ i, cf (sdv u t) i = 0 := fun i => Classical.byContradiction fun hy => hx ⟨i, hy⟩
      obtain ⟨i, hi⟩ := hu
      cases i with
      | zero => rw [cf_sdv0 u t, h0, hz] at hi; simp at hi
      | succ i => rw [cf_sdv u t, hz, hz] at hi; simp at hi
    have := roots_le n (sdv u t) R (by omega) hw (List.nodup_cons.1 hd).2 fun x hx => by
      have h1 := hR x (List.mem_cons_of_mem _ hx)
      rw [ev1_sdv u t x, h0, Int.zero_add] at h1
      rcases Int.mul_eq_zero.1 h1 with h2 | h2
      · exfalso
        have : x = t := by omega
        subst this
        exact (List.nodup_cons.1 hd).1 hx
      · exact h2
    simp; omega
def kk : Nat → Nat
  | 0 => 0
  | d + 1 => 30 * kk d + 1
theorem ev1_pev : ∀ (p : List Int) (t : Int), ev1 p t = sumTo (fun i => cf p i * t ^ i) p.length
  | [], t => rfl
  | c :: r, t => by
    rw [List.length_cons, sumTo_first, ev1, ev1_pev r t, ← sumTo_mul, Int.pow_zero, Int.mul_one]
    congr 1
    exact sumTo_congr fun i _ => by
      rw [cf_cons, if_neg (by omega), Nat.add_sub_cancel, Int.pow_succ]; grind
theorem ev1_pev1 (p : List Int) (t : Int) : ev1 p t = pev p t 1 := by
  rw [ev1_pev]; unfold pev
  exact sumTo_congr fun i _ => by rw [Int.one_pow, Int.mul_one]
def pts : List Int := [0, 1, 2, 3, 4, 5, 6, 7, 8, 9, 10, 11, 12, 13, 14]
theorem filter_len {α : Type} (f : α → Bool) : ∀ l : List α, (l.filter f).length + (l.filter fun x => !f x).length = l.length
  | [] => rfl
  | x :: l => by
    have ih := filter_len f l
    cases h : f x <;> simp [h] <;> omega
end Go.Sky
namespace Go.Sky
set_option linter.unusedVariables false
def Psim (a b : List Int) : Prop := ∃ m n : Int, 0 < m ∧ 0 < n ∧ ∀ i, m * cf a i = n * cf b i
theorem Psim.refl (a : List Int) : Psim a a := ⟨1, 1, by decide, by decide, fun _ => rfl⟩
theorem Psim.symm {a b : List Int} : Psim a b → Psim b a := fun ⟨m, n, hm, hn, h⟩ => ⟨n, m, hn, hm, fun i => (h i).symm⟩
theorem Psim.trans {a b c : List Int} : Psim a b → Psim b c → Psim a c := fun ⟨m, n, hm, hn, h⟩ ⟨u, v, hu, hv, k⟩ =>
  ⟨m * u, n * v, Int.mul_pos hm hu, Int.mul_pos hn hv, fun i => by have h1 := h i; have h2 := k i; grind⟩
theorem Psim.sim {a b : List Int} : Psim a b → Sim a b := fun ⟨m, n, hm, hn, h⟩ => ⟨m, n, by omega, by omega, h⟩
theorem psim_pprim {p : List Int} (h : Tr p) : Psim (pprim p) p := by
  by_cases h0 : p = []
  · subst h0; exact Psim.refl _
  · exact ⟨pcont p, 1, by have := pcont_nonneg p; have := pcont_ne h h0; omega, by decide, fun i => by rw [Int.one_mul, Int.mul_comm]; exact pprim_mul p i⟩
theorem pprim_psim {a b : List Int} (ha : Tr a) (hb : Tr b) (h : Psim a b) : pprim a = pprim b := by
  by_cases h0 : a = []
  · rw [h.sim.nil hb h0, h0]
  · have h0' : b ≠ [] := fun e => h0 (h.sim.symm.nil ha e)
    obtain ⟨m, n, hm, hn, e⟩ := (psim_pprim ha).trans (h.trans (psim_pprim hb).symm)
    have hx := tr_pprim ha
    have hy := tr_pprim hb
    have hs : Sim (pprim a) (pprim b) := ⟨m, n, by omega, by omega, e⟩
    have hx0 : pprim a ≠ [] := fun e => h0 (List.eq_nil_of_length_eq_zero (by rw [← length_pprim, e]; rfl))
    rcases sim_sign hx hy hx0 (pcont_pprim ha h0) (pcont_pprim hb h0') hs with h1 | h1
    · exact h1
    · exfalso
      have h2 := hx.mem hx0
      have h3 := e ((pprim a).length - 1)
      have h4 := h1 ((pprim a).length - 1)
      rw [h4] at h3 h2
      generalize cf (pprim b) ((pprim a).length - 1) = z at h3 h2
      rw [Int.mul_neg] at h3
      have h5 : (m + n) * z = 0 := by rw [Int.add_mul]; omega
      rcases Int.mul_eq_zero.1 h5 with h6 | h6 <;> omega
def rabs (y : List Int) : Int := if cf y (y.length - 1) < 0 then - cf y (y.length - 1) else cf y (y.length - 1)
def rb (x y : List Int) : Int := if cf y (y.length - 1) < 0 then - cf x (x.length - 1) else cf x (x.length - 1)
def rrem1 (x y : List Int) : List Int := psub (pscale x (rabs y)) (shm y (rb x y) (x.length - y.length) y.length)
def rrem : Nat → List Int → List Int → List Int
  | 0, x, _ => x
  | f + 1, x, y => if x.length < y.length then x else rrem f (rrem1 x y) y
theorem length_rrem1 {x y : List Int} (hx : Tr x) (hy : 0 < y.length) (hl : y.length ≤ x.length) : (rrem1 x y).length < x.length := by
  have h := tzl_len_le (p := rrem1 x y) (n := x.length - 1) fun i hi => by
    unfold rrem1
    rw [cf_psub, cf_pscale, cf_shm]
    by_cases he : i = x.length - 1
    · subst he
      rw [if_pos (by omega), show x.length - 1 - (x.length - y.length) = y.length - 1 by omega]
      unfold rabs rb
      split
      · grind
      · grind
    · rw [cf_ge (p := x) (by omega), if_neg (by omega)]; omega
  rw [show tzl (rrem1 x y) = rrem1 x y from tzl_tr (tr_psub _ _)] at h
  omega
theorem rrem1_id (x : List Int) {y : List Int} (t : Nat) : rabs y * cf x t = (ps (mono (x.length - y.length) (rb x y)) * ps y).c t + cf (rrem1 x y) t := by
  unfold rrem1
  rw [mono_mul, cf_psub, cf_pscale, cf_shm, ps_c]
  by_cases h1 : x.length - y.length ≤ t
  · rw [if_pos h1]
    by_cases h2 : t < x.length - y.length + y.length
    · rw [if_pos ⟨h1, h2⟩, Int.mul_comm (cf x t)]; omega
    · rw [if_neg (by omega), cf_ge (p := y) (by omega), Int.mul_comm (cf x t)]; omega
  · rw [if_neg h1, if_neg (by omega), Int.mul_comm (cf x t)]; omega
theorem rabs_pos {y : List Int} (hy : Tr y) (h0 : y ≠ []) : 0 < rabs y := by
  have := hy.mem h0
  unfold rabs; split <;> omega
theorem rrem_id {y : List Int} (hy : Tr y) (h0 : y ≠ []) : ∀ (f : Nat) (x : List Int), Tr x → x.length < y.length + f → Tr (rrem f x y) ∧ (rrem f x y).length < y.length ∧ ∃ (k : Nat) (s : List Int), ∀ t, rabs y ^ k * cf x t = (ps s * ps y).c t + cf (rrem f x y) t
  | 0, x, hx, hl => ⟨hx, hl, 0, [], fun t => by rw [mul_zero_l (fun t => cf_ge (Nat.zero_le _)), Int.pow_zero]; unfold rrem; omega⟩
  | f + 1, x, hx, hl => by
    unfold rrem
    by_cases h : x.length < y.length
    · rw [if_pos h]
      exact ⟨hx, h, 0, [], fun t => by rw [mul_zero_l (fun t => cf_ge (Nat.zero_le _)), Int.pow_zero]; omega⟩
    · rw [if_neg h]
      have h1 := length_rrem1 hx (List.length_pos_iff.2 h0) (by omega)
      obtain ⟨h2, h3, k, s, hs⟩ := rrem_id hy h0 f (rrem1 x y) (tr_psub _ _) (by omega)
      refine ⟨h2, h3, k + 1, psub (pscale s 1) (pscale (mono (x.length - y.length) (rb x y)) (-(rabs y ^ k))), fun t => ?_⟩
      have h4 := hs t
      have h5 := rrem1_id x (y := y) t
      rw [mul_lin2, Int.pow_succ]
      generalize rabs y ^ k = K at *
      generalize rabs y = a at *
      generalize (ps (mono (x.length - y.length) (rb x y)) * ps y).c t = M at *
      generalize (ps s * ps y).c t = S at *
      generalize cf (rrem1 x y) t = X at *
      generalize cf (rrem f (rrem1 x y) y) t = Z at *
      have : K * a * cf x t = K * (a * cf x t) := by grind
      rw [this, h5]; grind
theorem pow_sign (l : Int) (h : l ≠ 0) : ∀ n : Nat, (l < 0 ∧ n % 2 = 1 → l ^ n < 0) ∧ (¬ (l < 0 ∧ n % 2 = 1) → 0 < l ^ n)
  | 0 => ⟨fun h => by omega, fun _ => by rw [Int.pow_zero]; decide⟩
  | n + 1 => by
    have ih := pow_sign l h n
    rw [Int.pow_succ]
    by_cases h1 : l < 0
    · by_cases h2 : n % 2 = 1
      · have h3 := ih.1 ⟨h1, h2⟩
        exact ⟨fun h => by omega, fun _ => Int.mul_pos_of_neg_of_neg h3 h1⟩
      · have h3 := ih.2 (by omega)
        exact ⟨fun _ => Int.mul_neg_of_pos_of_neg h3 h1, fun h => by omega⟩
    · have h3 := ih.2 (by omega)
      exact ⟨fun h => by omega, fun _ => Int.mul_pos h3 (by omega)⟩
def pneg (p : List Int) : List Int := pscale p (-1)
theorem cf_pneg (p : List Int) (i : Nat) : cf (pneg p) i = - cf p i := by unfold pneg; rw [cf_pscale]; omega
theorem pprim_pneg {p : List Int} (h : Tr p) : pprim (pneg p) = pneg (pprim p) := by
  have hc : pcont (pneg p) = pcont p := by
    have d1 : pcont (pneg p) ∣ pcont p := dvd_pcont fun i => by
      have h := pcont_dvd (pneg p) i
      rw [cf_pneg] at h; exact Int.dvd_neg.1 h
    have d2 : pcont p ∣ pcont (pneg p) := dvd_pcont fun i => by rw [cf_pneg]; exact Int.dvd_neg.2 (pcont_dvd p i)
    exact Int.dvd_antisymm (pcont_nonneg _) (pcont_nonneg _) d1 d2
  refine (tr_pprim (tr_pscale _ _)).ext (tr_pscale _ _) fun i => ?_
  show cf (pprim (pneg p)) i = cf (pneg (pprim p)) i
  rw [cf_pneg, cf_pprim, cf_pneg, hc, cf_pprim]
  exact Int.neg_ediv_of_dvd (pcont_dvd p i)
theorem snext_ref {x y : List Int} {f : Nat} (hx : Tr x) (hy : Tr y) (h0 : y ≠ []) (hl : y.length ≤ x.length) (hf : x.length < y.length + f) : pprim (pneg (rrem f x y)) = snext x y := by
  obtain ⟨tr, lr, k, s, hs⟩ := rrem_id hy h0 f x hx hf
  have ly := List.length_pos_iff.2 h0
  obtain ⟨s2, hs2⟩ := rsteps_id (p := x) ly hl _ (Nat.le_refl _)
  have hp : ∀ t, cf (rsteps x y (x.length - y.length + 1)) t = cf (prest x y) t := fun t => by
    unfold prest; rw [if_neg (by omega), cf_tzl]
  have lp := length_prest_lt x h0
  have htp := tr_prest (q := y) hx
  have hlead := hy.mem h0
  have hK : 0 < rabs y ^ k := Int.pow_pos (rabs_pos hy h0)
  have hsg := pow_sign (cf y (y.length - 1)) hlead (x.length - y.length + 1)
  generalize hL : cf y (y.length - 1) ^ (x.length - y.length + 1) = L at hs2 hsg
  have hL0 : L ≠ 0 := by rw [← hL]; exact int_pow_ne hlead _
  generalize rabs y ^ k = K at hs hK
  have key : ∀ t, (ps (psub (pscale s2 K) (pscale s L)) * ps y).c t = cf (psub (pscale (rrem f x y) L) (pscale (prest x y) K)) t := fun t => by
    rw [mul_lin2, cf_psub, cf_pscale, cf_pscale, ← hp t]
    have h1 := hs t
    have h2 := hs2 t
    generalize cf (rsteps x y (x.length - y.length + 1)) t = A at *
    grind
  have z := mul_low hy h0 key fun t ht => by
    rw [cf_psub, cf_pscale, cf_pscale, cf_ge (p := rrem f x y) (by omega), cf_ge (p := prest x y) (by omega)]; omega
  have e : ∀ t, L * cf (rrem f x y) t = K * cf (prest x y) t := fun t => by
    have h1 := key t
    rw [mul_zero_l z, cf_psub, cf_pscale, cf_pscale] at h1
    grind
  unfold snext
  by_cases hc : cf y (y.length - 1) < 0 ∧ (x.length - y.length + 1) % 2 = 1
  · rw [if_pos hc]
    have hn := hsg.1 hc
    exact pprim_psim (tr_pscale _ _) htp ⟨-L, K, by omega, hK, fun t => by rw [cf_pneg, ← e]; grind⟩
  · rw [if_neg hc]
    have hn := hsg.2 hc
    rw [show pscale (pprim (prest x y)) (-1) = pneg (pprim (prest x y)) from rfl, ← pprim_pneg htp]
    exact pprim_psim (tr_pscale _ _) (tr_pscale _ _) ⟨L, K, hn, hK, fun t => by
      rw [cf_pneg, cf_pneg, Int.mul_neg, e, Int.mul_neg]⟩
theorem tr_snext {x y : List Int} (hx : Tr x) : Tr (snext x y) := by
  unfold snext; split
  · exact tr_pprim (tr_prest hx)
  · exact tr_pscale _ _
theorem length_snext {x y : List Int} (hx : Tr x) : (snext x y).length = (prest x y).length := by
  unfold snext
  have h : Tr (pprim (prest x y)) := tr_pprim (tr_prest hx)
  split
  · exact length_pprim _
  · rw [← length_pprim (prest x y)]
    exact ((sim_pscale (pprim (prest x y)) (by decide : (-1 : Int) ≠ 0)).len h (tr_pscale _ _)).symm
theorem sz_nrm {n : Nat} {p : List Int} (h : Sz n p) : Sz n (nrm p) := fun i => by
  unfold nrm; rw [cf_gnorm]; split
  · rw [Int.natAbs_neg]; exact sz_pprim h i
  · exact sz_pprim h i
theorem nrm_ne {p : List Int} (h : Tr p) (h0 : p ≠ []) : nrm p ≠ [] := fun e => h0 (List.eq_nil_of_length_eq_zero (by rw [← length_nrm h, e]; rfl))
theorem lead_gnorm {g : List Int} (h : Tr g) (h0 : g ≠ []) : 0 < cf (gnorm g) ((gnorm g).length - 1) := by
  have h1 := h.mem h0
  rw [length_gnorm h, cf_gnorm]
  have : g.length ≠ 0 := fun e => h0 (List.eq_nil_of_length_eq_zero e)
  split <;> omega
theorem pcont_nrm {p : List Int} (h : Tr p) (h0 : p ≠ []) : pcont (nrm p) = 1 := by unfold nrm; rw [pcont_gnorm]; exact pcont_pprim h h0
theorem nrm_of {p : List Int} (h : Tr p) (h1 : pcont p = 1) (h2 : 0 < cf p (p.length - 1)) : nrm p = p := by
  unfold nrm; rw [pprim_of_one h1]; unfold gnorm; rw [if_neg (by omega)]
theorem sqf_fac {xs : List Int} {F : Nat} (hx : Tr xs) (h0 : xs ≠ []) (hok : eok F (gA (nrm xs) (pder (nrm xs))) (gB (nrm xs) (pder (nrm xs)))) :
    pdv (nrm xs) (pgcd F (nrm xs) (pder (nrm xs))) ∧ Tr (sqf F xs) ∧ sqf F xs ≠ [] ∧ nrm xs = pmul (sqf F xs) (pgcd F (nrm xs) (pder (nrm xs))) ∧ pgcd F (nrm xs) (pder (nrm xs)) ≠ [] ∧ nrm (sqf F xs) = sqf F xs := by
  have hs : Tr (nrm xs) := tr_gnorm (tr_pprim hx)
  have hd : Tr (pder (nrm xs)) := tr_pder hs
  have hs0 := nrm_ne hx h0
  have hdv := (pgcd_dv hs hd hok).1
  have htg := tr_pgcd (F := F) hs hd
  have hg0 : pgcd F (nrm xs) (pder (nrm xs)) ≠ [] := fun e => hs0 ((e ▸ hdv).zero hs)
  have hc := pcont_pgcd hs hd hg0
  obtain ⟨k, s, hk, h⟩ := hdv
  obtain ⟨q, hq⟩ := gauss hc _ k s rfl hk h
  have hqe : nrm xs = pmul (tzl q) (pgcd F (nrm xs) (pder (nrm xs))) := hs.ext (tr_pmul _ _) fun i => by
    rw [cf_pmul, hq, ps_tzl]
  obtain ⟨p1, p2⟩ := pdv_mul (tr_tzl q) htg hg0
  have hsq : sqf F xs = tzl q := by
    unfold sqf
    have p2' := p2
    rw [← hqe] at p2'
    exact p2'
  rw [← hqe] at p1
  have hq0 : tzl q ≠ [] := fun e => hs0 (by rw [hqe, e, pmul_nil_l])
  refine ⟨p1, by rw [hsq]; exact tr_tzl q, by rw [hsq]; exact hq0, by rw [hsq]; exact hqe, hg0, ?_⟩
  rw [hsq]
  refine nrm_of (tr_tzl q) ?_ ?_
  · have h1 := pcont_nrm hx h0
    have h2 : pcont (tzl q) ∣ pcont (nrm xs) := dvd_pcont fun i => by
      rw [hqe, cf_pmul, PS.mul_c]
      have key : ∀ m, pcont (tzl q) ∣ sumTo (fun k => (ps (tzl q)).c k * (ps (pgcd F (nrm xs) (pder (nrm xs)))).c (i - k)) m := fun m => by
        induction m with
        | zero => exact Int.dvd_zero _
        | succ m ih => rw [sumTo_succ]; exact Int.dvd_add ih (Int.dvd_trans (pcont_dvd (tzl q) m) (Int.dvd_mul_right _ _))
      exact key _
    rw [h1] at h2
    have h3 := pcont_nonneg (tzl q)
    have h4 := Int.le_of_dvd (by decide) h2
    have h5 : pcont (tzl q) ≠ 0 := pcont_ne (tr_tzl q) hq0
    omega
  · have l1 := List.length_pos_iff.2 hq0
    have l2 := List.length_pos_iff.2 hg0
    have h1 : 0 < cf (nrm xs) ((nrm xs).length - 1) := lead_gnorm (tr_pprim hx) (fun e => h0 (List.eq_nil_of_length_eq_zero (by rw [← length_pprim, e]; rfl)))
    have h2 : 0 < cf (pgcd F (nrm xs) (pder (nrm xs))) ((pgcd F (nrm xs) (pder (nrm xs))).length - 1) := lead_gnorm (eu_tr F (tr_gA hs hd) (tr_gB hs hd)) (fun e => hg0 (by unfold pgcd; rw [e]; rfl))
    have h3 := length_pmul (tr_tzl q) htg hq0 hg0
    rw [← hqe] at h3
    have h4 : cf (nrm xs) ((nrm xs).length - 1) = cf (tzl q) ((tzl q).length - 1) * cf (pgcd F (nrm xs) (pder (nrm xs))) ((pgcd F (nrm xs) (pder (nrm xs))).length - 1) := by
      rw [h3, hqe, cf_pmul, ← hqe, show (tzl q).length + (pgcd F (nrm xs) (pder (nrm xs))).length - 1 - 1 = ((tzl q).length - 1) + ((pgcd F (nrm xs) (pder (nrm xs))).length - 1) by omega]
      exact conv_top (fun i hi => cf_ge (by omega)) (fun i hi => cf_ge (by omega))
    rw [h4] at h1
    rcases Int.lt_or_le 0 (cf (tzl q) ((tzl q).length - 1)) with h5 | h5
    · exact h5
    · exfalso
      have := Int.mul_nonpos_of_nonpos_of_nonneg h5 (Int.le_of_lt h2)
      omega
theorem len_pder' (p : List Int) : (pder p).length = p.length - 1 := length_mk _ _
theorem der_b' {p : List Int} {n : Nat} (hp : Sz n p) (hl : p.length ≤ 25) (i : Nat) : bl (cf p (i + 1) * ((i : Int) + 1)).natAbs ≤ n + 5 := by
  rcases Nat.lt_or_ge (i + 1) p.length with h | h
  · have h1 := bl_imul (cf p (i + 1)) ((i : Int) + 1)
    have h2 := hp (i + 1)
    have h3 : bl ((i : Int) + 1).natAbs ≤ 5 := (bl_le 5 _).2 (by omega)
    omega
  · rw [cf_ge h]; simp [bl_zero]
theorem cf_pder' (p : List Int) (i : Nat) : cf (pder p) i = cf p (i + 1) * ((i : Int) + 1) := by
  unfold pder
  rw [cf_mk]
  split
  · rfl
  · rw [cf_ge (by omega), Int.zero_mul]
theorem sz_pder' {p : List Int} {n : Nat} (hp : Sz n p) (hl : p.length ≤ 25) : Sz (n + 5) (pder p) := fun i => by rw [cf_pder']; exact der_b' hp hl i
end Go.Sky

