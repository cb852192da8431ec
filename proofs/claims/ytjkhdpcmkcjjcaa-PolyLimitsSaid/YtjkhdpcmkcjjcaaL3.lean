/- the law
   Proved without conditions of its own: each theorem bears its own. -/
import Derived.Test.YtjkhdpcmkcjjcaaRows
import Derived.WalkKit
import Derived.ProofKit
import Derived.OpenShut
import Derived.ShutString
import Derived.ChangeOld
import Derived.Below
import Derived.Deep.Slices
import Derived.Lib.SmallJoins
import Derived.Test.YtjkhdpcmkcjjcaaD
import Derived.Test.YtjkhdpcmkcjjcaaL2
set_option linter.all false
namespace Go.Sky
open Go.ChangeShapes Go.WideShapes Go.ChangeAt Go.RowKit Go.Joins Go.Deep
open Go.Proofs
set_option linter.unusedVariables false
variable {P : Program} {W : World} {H : Type} {enc : TypeId × Value → H}
theorem wide_cells {base : Nat} {spare : Nat → Bool} {held : Bool} {fuel : Nat} {t : TypeId} {f0 f1 : Field} {cs : List Value} {x : DataW H × List MemPlace}
    (ht : P.underlying t = some (.struct #[f0, f1])) (hC : P.cellsOf t = 2) (ho0 : f0.offset = 0) (ho1 : f1.offset = 1) (hc0 : P.cellsOf f0.type = 1) (hc1 : P.cellsOf f1.type = 1) (h0 : P.underlying f0.type = some .bool) (h1 : P.underlying f1.type = some .string)
    (h : DataW.trod enc P W base spare held fuel t cs = some x) : ∃ (b : Bool) (s : ByteArray), cs = [.bool b, .string s] ∧ s.size ≤ maxLen := by
  obtain ⟨y0, y1, n, hx, hl, e0, e1⟩ := trod_struct2 ht h
  rw [hC] at hl
  match cs, hl with
  | [c0, c1], _ =>
    rw [ho0, hc0] at e0
    rw [ho1, hc1] at e1
    obtain ⟨b, hb, _⟩ := DataW.trod_bool h0 e0
    obtain ⟨s, hs, _, hz⟩ := DataW.trod_string h1 e1
    simp at hb hs
    exact ⟨b, s, by rw [hb, hs], hz⟩
theorem choose_list {α : Type} [Inhabited α] {p : Nat → α → Prop} : ∀ n, (∀ i, i < n → ∃ x, p i x) → ∃ xs : List α, xs.length = n ∧ ∀ i x, xs[i]? = some x → p i x
  | 0, _ => ⟨[], rfl, fun i x h => by simp at h⟩
  | n + 1, h => by
    obtain ⟨xs, hl, hp⟩ := choose_list n fun i hi => h i (by omega)
    obtain ⟨x, hx⟩ := h n (by omega)
    refine ⟨xs ++ [x], by simp [hl], fun i y hy => ?_⟩
    rcases Nat.lt_or_ge i n with hi | hi
    · rw [List.getElem?_append_left (by omega)] at hy; exact hp i y hy
    · rw [List.getElem?_append_right (by omega), hl] at hy
      rcases Nat.eq_zero_or_pos (i - n) with h0 | h0
      · rw [h0] at hy; simp at hy; subst hy; rw [show i = n by omega]; exact hx
      · rw [List.getElem?_eq_none (by simp; omega)] at hy; cases hy
theorem okWide_has {r : Reach} {b0 : Nat} {t e : TypeId} {a : Addr} {len cap : Nat} (hs : P.underlying t = some (.slice e)) (hv : Value.okWide P W r b0 t (.slice (some a) len cap)) : a.spot = none ∧ a.block < W.heap.size := by
  unfold Value.okWide at hv
  rw [hs] at hv
  simp only at hv
  unfold Cell.okWide at hv
  rw [hs] at hv
  simp only at hv
  unfold Cell.ok at hv
  rw [hs] at hv
  simp only at hv
  obtain ⟨_, _, _, h1, row, cells, h2, _⟩ := hv
  refine ⟨h1, ?_⟩
  unfold World.shape? at h2
  rcases Nat.lt_or_ge a.block W.heap.size with h | h
  · exact h
  · rw [Array.getElem?_eq_none h] at h2
    simp at h2
/-- a slice of structs that came in -/
theorem open_wides {t e : TypeId} {f0 f1 : Field} {v : Value} {d : DataW H} {p : List MemPlace} (hs : P.underlying t = some (.slice e))
    (ht : P.underlying e = some (.struct #[f0, f1])) (hC : P.cellsOf e = 2) (ho0 : f0.offset = 0) (ho1 : f1.offset = 1) (hc0 : P.cellsOf f0.type = 1) (hc1 : P.cellsOf f1.type = 1) (h0 : P.underlying f0.type = some .bool) (h1 : P.underlying f1.type = some .string)
    {r : Reach} {b0 : Nat} (hv : Value.okWide P W r b0 t v) (h : DataW.Trod enc P W 0 (fun _ => true) true t v d p) (hlt : ∀ x ∈ p, x.block < W.heap.size) :
    ∃ r : List (Bool × ByteArray), (slp 2 encW v r).holds W := by
  obtain ⟨a0, len, cap, rfl⟩ := okWide_slice hs hv
  obtain ⟨fuel, hf⟩ := h
  rcases open_slice hs hf with ⟨hcs, _⟩ | ⟨a, len', cap', m, n, D, Pl, hcs, _, hl, hm, hmm, hx, hel⟩
  · simp [Value.cells] at hcs
    obtain ⟨rfl, rfl, rfl⟩ := hcs
    exact ⟨[], nil_holds 2 encW W⟩
  · simp [Value.cells] at hcs
    obtain ⟨rfl, rfl, rfl⟩ := hcs
    simp at hmm
    subst hmm
    obtain ⟨xs, hxl, hxs⟩ := choose_list (p := fun i (z : Bool × ByteArray) => W.cells? 0 (a.add (i * 2)) 2 = some [.bool z.1, .string z.2]) len fun i hi => by
      obtain ⟨cs', h2, h3⟩ := hel i (by omega)
      rw [hC] at h2
      obtain ⟨b, s, rfl, _⟩ := wide_cells ht hC ho0 ho1 hc0 hc1 h0 h1 h3
      exact ⟨(b, s), h2⟩
    have hp : p = MemPlace.row a (m * 2) ++ (List.range m).flatMap Pl := by rw [hC] at hx; exact (Prod.mk.inj hx).2
    refine ⟨xs, ⟨some a, m, by rw [hxl], by omega, hm, ?_⟩, fun b hb => ?_⟩
    · rcases Nat.eq_zero_or_pos len with hz | hz
      · exact .inl (List.eq_nil_of_length_eq_zero (by omega))
      · right
        obtain ⟨g, off, spot⟩ := a
        obtain ⟨hsp, _⟩ := okWide_has hs hv
        simp only at hsp
        subst hsp
        refine ⟨g, off, rfl, fun i x hi j u hj => ?_⟩
        obtain ⟨_, _, hc⟩ := World.cells?_some (hxs i x hi)
        have hj2 : j < 2 := by
          rcases Nat.lt_or_ge j 2 with h | h
          · exact h
          · rw [List.getElem?_eq_none (by simp [Value.cells]; omega)] at hj; cases hj
        have := hc j hj2
        simp only [addr_add] at this
        rw [this]
        simpa [Value.cells] using hj
    · cases hb
      exact (okWide_has hs hv).2
/-- a struct of a bool and a string that came in -/
theorem open_wide {t : TypeId} {f0 f1 : Field} {v : Value} {d : DataW H} {p : List MemPlace} {base : Nat} {spare : Nat → Bool} {held : Bool} {r : Reach} {b0 : Nat}
    (ht : P.underlying t = some (.struct #[f0, f1])) (hC : P.cellsOf t = 2) (ho0 : f0.offset = 0) (ho1 : f1.offset = 1) (hc0 : P.cellsOf f0.type = 1) (hc1 : P.cellsOf f1.type = 1) (h0 : P.underlying f0.type = some .bool) (h1 : P.underlying f1.type = some .string)
    (hv : Value.okWide P W r b0 t v) (h : DataW.Trod enc P W base spare held t v d p) : ∃ (b : Bool) (s : ByteArray), v = .agg #[.bool b, .string s] := by
  obtain ⟨cs, rfl, hsz⟩ := okWide_struct ht hv
  obtain ⟨fuel, hf⟩ := h
  obtain ⟨b, s, hcs, _⟩ := wide_cells ht hC ho0 ho1 hc0 hc1 h0 h1 hf
  exact ⟨b, s, by rw [show cs = #[.bool b, .string s] from Array.ext' (by simpa [Value.cells] using hcs)]⟩
/-- a struct of two such structs -/
theorem open_ratio {t e : TypeId} {g0 g1 f0 f1 : Field} {v : Value} {d : DataW H} {p : List MemPlace} {base : Nat} {spare : Nat → Bool} {held : Bool} {r : Reach} {b0 : Nat}
    (hg : P.underlying t = some (.struct #[g0, g1])) (ht : P.underlying e = some (.struct #[f0, f1])) (hC4 : P.cellsOf t = 4) (hC : P.cellsOf e = 2) (hg0 : g0.type = e) (hg1 : g1.type = e) (hp0 : g0.offset = 0) (hp1 : g1.offset = 2)
    (hc0 : P.cellsOf f0.type = 1) (hc1 : P.cellsOf f1.type = 1) (h0 : P.underlying f0.type = some .bool) (h1 : P.underlying f1.type = some .string) (ho0 : f0.offset = 0) (ho1 : f1.offset = 1)
    (hv : Value.okWide P W r b0 t v) (h : DataW.Trod enc P W base spare held t v d p) : ∃ (b : Bool) (s : ByteArray) (c : Bool) (u : ByteArray), v = .agg #[.bool b, .string s, .bool c, .string u] := by
  obtain ⟨cs, rfl, hsz⟩ := okWide_struct hg hv
  obtain ⟨fuel, hf⟩ := h
  obtain ⟨y0, y1, n, hx, hl, e0, e1⟩ := trod_struct2 hg hf
  rw [hg0, hp0, hC] at e0
  rw [hg1, hp1, hC] at e1
  obtain ⟨b, s, hb, _⟩ := wide_cells ht hC ho0 ho1 hc0 hc1 h0 h1 e0
  obtain ⟨c, u, hc, _⟩ := wide_cells ht hC ho0 ho1 hc0 hc1 h0 h1 e1
  refine ⟨b, s, c, u, ?_⟩
  rw [show cs = #[.bool b, .string s, .bool c, .string u] from Array.ext' ?_]
  obtain ⟨l⟩ := cs
  simp only [Value.cells] at hb hc
  match l, hsz, hb, hc with
  | l, hsz, hb, hc =>
    have h4 : l.length = 4 := by rw [← hC4]; exact hsz
    match l, h4 with
    | [a, b', c', d'], _ => simp_all
/-- a slice of integers that came in -/
theorem open_intsl {t e : TypeId} {v : Value} {d : DataW H} {p : List MemPlace} (hs : P.underlying t = some (.slice e)) (he : P.underlying e = some (.int .i64)) (hc : P.cellsOf e = 1)
    {r : Reach} {b0 : Nat} (hv : Value.okWide P W r b0 t v) (h : DataW.Trod enc P W 0 (fun _ => true) true t v d p) :
    ∃ l : List Int, (slp 1 encZ v l).holds W ∧ ∀ x ∈ l, inI x := by
  obtain ⟨a0, len, cap, rfl⟩ := okWide_slice hs hv
  obtain ⟨fuel, hf⟩ := h
  rcases open_ints hs he hc hf with ⟨hcs, _⟩ | ⟨a, len', cap', zs, hcs, _, hl, hm, hz, _, hcell, hwz⟩
  · simp [Value.cells] at hcs
    obtain ⟨rfl, rfl, rfl⟩ := hcs
    exact ⟨[], nil_holds 1 encZ W, fun x hx => by cases hx⟩
  · simp [Value.cells] at hcs
    obtain ⟨rfl, rfl, rfl⟩ := hcs
    obtain ⟨g, off, spot⟩ := a
    obtain ⟨hsp, hlt⟩ := okWide_has hs hv
    simp only at hsp
    subst hsp
    have hz2 : zs.length = cap := by simpa using hz
    have htl : (zs.take len).length = len := by rw [List.length_take]; omega
    refine ⟨zs.take len, ⟨⟨some ⟨g, off, none⟩, cap, by rw [htl], by rw [htl]; exact hl, hm, .inr ⟨g, off, rfl, fun i x hi j u hj => ?_⟩⟩, fun b hb => by cases hb; exact hlt⟩, fun x hx => ?_⟩
    · have hil : i < len := by
        rcases Nat.lt_or_ge i len with h | h
        · exact h
        · rw [List.getElem?_eq_none (by rw [htl]; exact h)] at hi; cases hi
      have hj0 : j = 0 := by
        rcases j with _ | j
        · rfl
        · simp [Value.cells] at hj
      subst hj0
      have h2 := hcell i (by omega)
      rw [addr_add] at h2
      rw [List.getElem?_take_of_lt hil] at hi
      rw [List.getD_eq_getElem?_getD, hi] at h2
      simp [Value.cells] at hj
      subst hj
      simpa using h2
    · have h2 := hwz x (List.mem_of_mem_take hx)
      have h3 := bounds_i64 h2
      exact ⟨by omega, by omega⟩
end Go.Sky
namespace Go.Proofs.Ytjkhdpcmkcjjcaa
open Go.ChangeShapes Go.WideShapes Go.ChangeAt Go.RowKit Go.Joins Go.Deep Go.Sky
set_option linter.unusedVariables false
theorem own : ownKnob Try.prog.godebug = none := by kernel_rfl
theorem laidOut : laidOutB Try.prog = true := by kernel_rfl
set_option maxRecDepth 100000 in
theorem lifted (os : Os) (started : os.Started) (H : Type) (enc : TypeId × Value → H) :
    ReturnsInHanded {} Try.checked os 3 .any (Rows.polyLimitsSpec.pre6 enc Try.prog Try.f3 Rows.polyLimitsRow.domain false) (Rows.polyLimitsSpec.post enc Try.prog Try.f3 false true false false) := by
  refine returnsInHanded_of_change (C := Try.checked) own started (by kernel_rfl) Try.func3
    (ChangeSpec.witness6 (enc := enc) (C := Try.checked) false ⟨#[], #[.int .i64 0, .int .i64 0, .int .i64 0, .int .i64 0], []⟩ 8 (by kernel_rfl) (by kernel_rfl) (by kernel_rfl) (by kernel_rfl)) ?_
  intro W base args ds gs before hval0 hW hcnd _
  have hval : ∀ (j : Nat) t v, Try.f3.params[j]? = some t → args[j]? = some v → Value.okWide Try.prog W .any base t v := hval0
  have hW' := hW
  obtain ⟨p, q, hA0, hV, rfl, hfz, hnd⟩ := hW
  have hA : DataW.TrodAll enc Try.prog W 0 (fun _ => true) true Try.f3.params.toList args.toList ds p := hA0
  rw [Try.params3] at hA hval
  obtain ⟨v0, vs0, d0, ds0, p0, q0, hargs, rfl, rfl, h0, r0⟩ := trodAll_cons hA
  obtain ⟨v1, vs1, d1, ds1, p1, q1, rfl, rfl, rfl, h1, r1⟩ := trodAll_cons r0
  obtain ⟨v2, vs2, d2, ds2, p2, q2, rfl, rfl, rfl, h2, r2⟩ := trodAll_cons r1
  obtain ⟨v3, vs3, d3, ds3, p3, q3, rfl, rfl, rfl, h3, r3⟩ := trodAll_cons r2
  obtain ⟨rfl, rfl, rfl⟩ := trodAll_nil r3
  obtain rfl : args = #[v0, v1, v2, v3] := by cases args; simp_all
  obtain ⟨rfl, rfl⟩ := trodVars_none hV
  have lt0 : ∀ x ∈ p0, x.block < W.heap.size := by obtain ⟨m, hm⟩ := h0; exact DataW.trod_lt m _ _ _ hm
  obtain ⟨n0, rfl⟩ := okWide_int Try.underlying3 (hval 0 3 v0 rfl rfl)
  have lt1 : ∀ x ∈ p1, x.block < W.heap.size := by obtain ⟨m, hm⟩ := h1; exact DataW.trod_lt m _ _ _ hm
  obtain ⟨n1, rfl⟩ := okWide_int Try.underlying3 (hval 1 3 v1 rfl rfl)
  have lt2 : ∀ x ∈ p2, x.block < W.heap.size := by obtain ⟨m, hm⟩ := h2; exact DataW.trod_lt m _ _ _ hm
  obtain ⟨n2, rfl⟩ := okWide_int Try.underlying3 (hval 2 3 v2 rfl rfl)
  have lt3 : ∀ x ∈ p3, x.block < W.heap.size := by obtain ⟨m, hm⟩ := h3; exact DataW.trod_lt m _ _ _ hm
  obtain ⟨n3, rfl⟩ := okWide_int Try.underlying3 (hval 3 3 v3 rfl rfl)
  clear hA0 hval0
  refine (law_limits n0 n1 n2 n3 W (fun p hp => by cases hp)).mono fun e W' ⟨_, he, _, bel, _⟩ => ?_
  subst he
  exact ⟨_, rfl, _, _, _, [], _, [], hW', trodAll_mk1 (shut_bool Try.underlying4 _), (trodAll_cons_mk (Below.trod laidOut (by kernel_rfl) (of_decide_eq_true (by kernel_rfl)) h0 bel lt0) (trodAll_cons_mk (Below.trod laidOut (by kernel_rfl) (of_decide_eq_true (by kernel_rfl)) h1 bel lt1) (trodAll_cons_mk (Below.trod laidOut (by kernel_rfl) (of_decide_eq_true (by kernel_rfl)) h2 bel lt2) (trodAll_cons_mk (Below.trod laidOut (by kernel_rfl) (of_decide_eq_true (by kernel_rfl)) h3 bel lt3) trodAll_mk0)))), rfl, bel.frame _, fun h => by cases h⟩
/-- the given statement -/
theorem x_holds : Rows.PolyLimitsSaid :=
  OpenClaim.holds_of_wide 3 Try.f3 rfl rfl rfl rfl rfl rfl rfl ⟨rfl, rfl, rfl, rfl, rfl⟩ rfl rfl rfl rfl rfl (by kernel_rfl) Try.func3 (by kernel_rfl)
    (of_decide_eq_true (by kernel_rfl)) (by unfold Func.isWrapper; first | (rw [if_pos (by decide +kernel)]; kernel_rfl) | (rw [if_neg (by decide +kernel)]; exact ⟨rfl, rfl⟩))
    (fun os started H enc _ => lifted os started H enc)
#print axioms x_holds
end Go.Proofs.Ytjkhdpcmkcjjcaa

