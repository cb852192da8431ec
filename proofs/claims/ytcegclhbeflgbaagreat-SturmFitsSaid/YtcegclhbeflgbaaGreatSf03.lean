/- rules, arithmetic and contracts: part 4
   Proved without conditions of its own: each theorem bears its own. -/
import Derived.Test.YtcegclhbeflgbaaGreatRows
import Derived.WalkKit
import Derived.ProofKit
import Derived.OpenShut
import Derived.ShutString
import Derived.ChangeOld
import Derived.Below
import Derived.Deep.Slices
import Derived.Lib.SmallJoins
import Derived.Test.YtcegclhbeflgbaaGreatSf02
set_option linter.all false
namespace Go.Sky
open Go.ChangeShapes Go.WideShapes Go.ChangeAt Go.RowKit Go.Joins Go.Deep
open Go.Proofs
set_option linter.unusedVariables false
variable {P : Program} {W : World} {H : Type} {enc : TypeId × Value → H}
theorem wide_cells {base : Nat} {spare : Nat → Bool} {held : Bool} {fuel : Nat} {t : TypeId} {f0 f1 : Field} {cs : List Value} {x : DataW H × List MemPlace}
    (ht : P.underlying t = some (.struct #[f0, f1])) (hC : P.cellsOf t = 2) (ho0 : f0.offset = 0) (ho1 : f1.offset = 1) (hc0 : P.cellsOf f0.type = 1) (hc1 : P.cellsOf f1.type = 1) (h0 : P.underlying f0.type = some .bool) (h1 : P.underlying f1.type = some .string)
    (h : DataW.trod enc P W base spare held fuel t cs = some x) : ∃ (b : Bool) (s : ByteArray), cs = [.bool b, .string s] ∧ s.size ≤ maxLen := by
  obtain ⟨y0, y1, n, hx, hl, e0, e1⟩ := trod_struct2 ht h
  rw [hC] at hl
  match cs, hl with
  | [c0, c1], _ =>
    rw [ho0, hc0] at e0
    rw [ho1, hc1] at e1
    obtain ⟨b, hb, _⟩ := DataW.trod_bool h0 e0
    obtain ⟨s, hs, _, hz⟩ := DataW.trod_string h1 e1
    simp at hb hs
    exact ⟨b, s, by rw [hb, hs], hz⟩
theorem choose_list {α : Type} [Inhabited α] {p : Nat → α → Prop} : ∀ n, (∀ i, i < n → ∃ x, p i x) → ∃ xs : List α, xs.length = n ∧ ∀ i x, xs[i]? = some x → p i x
  | 0, _ => ⟨[], rfl, fun i x h => by simp at h⟩
  | n + 1, h => by
    obtain ⟨xs, hl, hp⟩ := choose_list n fun i hi => h i (by omega)
    obtain ⟨x, hx⟩ := h n (by omega)
    refine ⟨xs ++ [x], by simp [hl], fun i y hy => ?_⟩
    rcases Nat.lt_or_ge i n with hi | hi
    · rw [List.getElem?_append_left (by omega)] at hy; exact hp i y hy
    · rw [List.getElem?_append_right (by omega), hl] at hy
      rcases Nat.eq_zero_or_pos (i - n) with h0 | h0
      · rw [h0] at hy; simp at hy; subst hy; rw [show i = n by omega]; exact hx
      · rw [List.getElem?_eq_none (by simp; omega)] at hy; cases hy
theorem okWide_has {r : Reach} {b0 : Nat} {t e : TypeId} {a : Addr} {len cap : Nat} (hs : P.underlying t = some (.slice e)) (hv : Value.okWide P W r b0 t (.slice (some a) len cap)) : a.spot = none ∧ a.block < W.heap.size := by
  unfold Value.okWide at hv
  rw [hs] at hv
  simp only at hv
  unfold Cell.okWide at hv
  rw [hs] at hv
  simp only at hv
  unfold Cell.ok at hv
  rw [hs] at hv
  simp only at hv
  obtain ⟨_, _, _, h1, row, cells, h2, _⟩ := hv
  refine ⟨h1, ?_⟩
  unfold World.shape? at h2
  rcases Nat.lt_or_ge a.block W.heap.size with h | h
  · exact h
  · rw [Array.getElem?_eq_none h] at h2
    simp at h2
/-- a slice of structs that came in -/
theorem open_wides {t e : TypeId} {f0 f1 : Field} {v : Value} {d : DataW H} {p : List MemPlace} (hs : P.underlying t = some (.slice e))
    (ht : P.underlying e = some (.struct #[f0, f1])) (hC : P.cellsOf e = 2) (ho0 : f0.offset = 0) (ho1 : f1.offset = 1) (hc0 : P.cellsOf f0.type = 1) (hc1 : P.cellsOf f1.type = 1) (h0 : P.underlying f0.type = some .bool) (h1 : P.underlying f1.type = some .string)
    {r : Reach} {b0 : Nat} (hv : Value.okWide P W r b0 t v) (h : DataW.Trod enc P W 0 (fun _ => true) true t v d p) (hlt : ∀ x ∈ p, x.block < W.heap.size) :
    ∃ r : List (Bool × ByteArray), (slp 2 encW v r).holds W := by
  obtain ⟨a0, len, cap, rfl⟩ := okWide_slice hs hv
  obtain ⟨fuel, hf⟩ := h
  rcases open_slice hs hf with ⟨hcs, _⟩ | ⟨a, len', cap', m, n, D, Pl, hcs, _, hl, hm, hmm, hx, hel⟩
  · simp [Value.cells] at hcs
    obtain ⟨rfl, rfl, rfl⟩ := hcs
    exact ⟨[], nil_holds 2 encW W⟩
  · simp [Value.cells] at hcs
    obtain ⟨rfl, rfl, rfl⟩ := hcs
    simp at hmm
    subst hmm
    obtain ⟨xs, hxl, hxs⟩ := choose_list (p := fun i (z : Bool × ByteArray) => W.cells? 0 (a.add (i * 2)) 2 = some [.bool z.1, .string z.2]) len fun i hi => by
      obtain ⟨cs', h2, h3⟩ := hel i (by omega)
      rw [hC] at h2
      obtain ⟨b, s, rfl, _⟩ := wide_cells ht hC ho0 ho1 hc0 hc1 h0 h1 h3
      exact ⟨(b, s), h2⟩
    have hp : p = MemPlace.row a (m * 2) ++ (List.range m).flatMap Pl := by rw [hC] at hx; exact (Prod.mk.inj hx).2
    refine ⟨xs, ⟨some a, m, by rw [hxl], by omega, hm, ?_⟩, fun b hb => ?_⟩
    · rcases Nat.eq_zero_or_pos len with hz | hz
      · exact .inl (List.eq_nil_of_length_eq_zero (by omega))
      · right
        obtain ⟨g, off, spot⟩ := a
        obtain ⟨hsp, _⟩ := okWide_has hs hv
        simp only at hsp
        subst hsp
        refine ⟨g, off, rfl, fun i x hi j u hj => ?_⟩
        obtain ⟨_, _, hc⟩ := World.cells?_some (hxs i x hi)
        have hj2 : j < 2 := by
          rcases Nat.lt_or_ge j 2 with h | h
          · exact h
          · rw [List.getElem?_eq_none (by simp [Value.cells]; omega)] at hj; cases hj
        have := hc j hj2
        simp only [addr_add] at this
        rw [this]
        simpa [Value.cells] using hj
    · cases hb
      exact (okWide_has hs hv).2
end Go.Sky
namespace Go.Sky
set_option linter.unusedVariables false
set_option maxRecDepth 20000
theorem ints_snoc (zs : List (Int × SL)) (z : Int × SL) : ints (zs ++ [z]) = ints zs ++ [z.1] := by simp [ints]
theorem msz_ints (p : List Int) (i : Nat) (h : i < p.length) : msz (p.take (i + 1)) = max (msz (p.take i)) (bl (cf p i).natAbs) := by
  rw [take_snocI _ _ h, msz_snoc]
theorem pscale_len (p : List Int) (c : Int) : (pscale p c).length ≤ p.length := by
  unfold pscale; have := tzl_le (p.map (· * c)); rwa [List.length_map] at this
theorem map_wr_iff (xs ys : List Int) : xs.map wr = ys.map wr ↔ xs = ys := by
  refine ⟨fun h => ?_, fun h => by rw [h]⟩
  exact List.map_inj_right (fun x y h => wv_inj (congrArg Prod.fst h) (congrArg Prod.snd h)) |>.1 h
theorem Cal.imp2 {P : Program} {f : FuncId} {args : Array Value} {p1 p q : Pc} {pre : List Pc} {al : Bool} {G : Type} {φ : G → Prop} {val : G → Value} {its : G → List Pc} (h : Cal P f args (p1 :: p :: pre) al φ val its) (hh : ∀ w, q.holds w → p.holds w) (hf : ∀ b, p.fp b → q.fp b) :
    Cal P f args (p1 :: q :: pre) al φ val its := fun w hp => by
  refine (h w fun r hr => ?_).mono ?_
  · rcases List.mem_cons.1 hr with rfl | hr
    · exact hp _ (List.mem_cons_self ..)
    · rcases List.mem_cons.1 hr with rfl | hr
      · exact hh w (hp q (List.mem_cons_of_mem _ (List.mem_cons_self ..)))
      · exact hp r (List.mem_cons_of_mem _ (List.mem_cons_of_mem _ hr))
  · rintro e w' ⟨g, he, hg, hb, hits⟩
    refine ⟨g, he, hg, hb, fun p' hp' => ?_⟩
    obtain ⟨h1, h2, h3⟩ := hits p' hp'
    refine ⟨h1, h2, fun b hb => ?_⟩
    rcases h3 b hb with h | ⟨h, r, hr, hrb⟩
    · exact .inl h
    · refine .inr ⟨h, ?_⟩
      rcases List.mem_cons.1 hr with rfl | hr
      · exact ⟨r, List.mem_cons_self .., hrb⟩
      · rcases List.mem_cons.1 hr with rfl | hr
        · exact ⟨q, List.mem_cons_of_mem _ (List.mem_cons_self ..), hf b hrb⟩
        · exact ⟨r, List.mem_cons_of_mem _ (List.mem_cons_of_mem _ hr), hrb⟩
theorem okP_fin2 {r : List (Bool × ByteArray)} (ha : r.all (fun w => okW w.1 w.2) = true) : okP r = (decide (r.length ≤ 25) && (decide (r.length = 0) || decide ((0 : Int) < (((r.getD (r.length - 1) (false, ⟨#[]⟩)).2.size : Nat) : Int)))) := by
  unfold okP
  rw [ha, Bool.true_and]
  congr 2
  rw [decide_eq_decide]; omega
end Go.Sky
namespace Go.Sky
/-! the pseudo-remainder, as the reference finds it -/
def shm (q : List Int) (c : Int) (s i : Nat) : List Int := mk (s + i) fun t => if t < s then 0 else c * cf q (t - s)
section
variable {p q : List Int}
theorem rsteps_top (hq : 0 < q.length) (hl : q.length ≤ p.length) : ∀ j, j ≤ p.length - q.length + 1 → ∀ t, p.length - j ≤ t → cf (rsteps p q j) t = 0
  | 0, _, t, ht => cf_ge (by unfold rsteps; omega)
  | j + 1, hj, t, ht => by
    rcases Nat.lt_or_ge t p.length with h | h
    · unfold rsteps
      rw [cf_rstep (by rw [length_rsteps]; exact h)]
      by_cases he : t = p.length - 1 - j
      · subst he
        rw [if_pos (by omega), show p.length - 1 - j - (p.length - 1 - j - (q.length - 1)) = q.length - 1 by omega]
        omega
      · rw [rsteps_top hq hl j (by omega) t (by omega), Int.zero_mul, if_neg (by omega)]; rfl
    · exact cf_ge (by rw [length_rsteps]; omega)
/-- what the reference's rest is at some step -/
def RestInv (p q R : List Int) (j : Nat) : Prop := Tr R ∧ ∀ t, cf R t = cf (rsteps p q j) t * cf q (q.length - 1) ^ (p.length - q.length + 1 - j)
end
end Go.Sky
namespace Go.Sky
section
variable {P : Program} {N : Nat} {sc : Nat → Prop} {env env' : Env} {H H' : Hp}
end
end Go.Sky
namespace Go.Sky
theorem vp_lit {l : List Int} (h1 : ∀ x ∈ l, inI x) (h2 : tzl l = l) (h3 : l.length ≤ 25) : Vp l := ⟨sz_ints h1, h2 ▸ tr_tzl l, h3⟩
theorem inI_all {l : List Int} (h : (l.all fun x => decide (-1000000 ≤ x) && decide (x ≤ 1000000)) = true) : ∀ x ∈ l, inI x := fun x hx => by
  have h1 := List.all_eq_true.1 h x hx
  simp only [Bool.and_eq_true, decide_eq_true_eq] at h1
  exact ⟨by omega, by omega⟩
def litb (l : List Int) : Bool := (l.all fun x => decide (-1000000 ≤ x) && decide (x ≤ 1000000)) && (decide (tzl l = l) && decide (l.length ≤ 25))
theorem vp_b {l : List Int} (h : litb l = true) : Vp l := by
  unfold litb at h
  rw [Bool.and_eq_true, Bool.and_eq_true] at h
  exact vp_lit (inI_all h.1) (of_decide_eq_true h.2.1) (of_decide_eq_true h.2.2)
instance eokDec : ∀ f a b, Decidable (eok f a b)
  | 0, _, b => inferInstanceAs (Decidable (b = []))
  | f + 1, a, b => @instDecidableOr _ _ _ (@instDecidableAnd _ _ _ (eokDec f b (pprim (prest a b))))
end Go.Sky
namespace Go.Sky
end Go.Sky
namespace Go.Sky
def rterm (a b : Int) : Nat → List Int
  | 0 => [1]
  | i + 1 => pmul (rterm a b i) (tzl [a, b])
def rsum (p : List Int) (a b d : Int) : Nat → List Int
  | 0 => []
  | i + 1 => padd (rsum p a b d i) (pscale (rterm a b i) (cf p i * d ^ (p.length - 1 - i)))
def hs (f : Nat → PS) : Nat → PS
  | 0 => 0
  | n + 1 => hs f n + f n
end Go.Sky
namespace Go.Sky
abbrev RW := List (Bool × ByteArray)
abbrev qR (z : SL × RW) : Pc := slp 2 encW (svv z.1) z.2
abbrev qZ (z : SL × List Int) : Pc := slp 2 wv (svv z.1) z.2
abbrev R0 : SL × RW := ((none, 0, 0), [])
def short1 (r : RW) : Bool := (decide (r.length ≤ 14) || decide (r.length = 26)) && r.all fun c => decide (c.2.size ≤ 16)
def shortb (ls : List RW) : Bool := ls.all short1
theorem r1g' {P : Program} {N : Nat} {sc : Nat → Prop} {M : Nat → Prop} {env : Env} {H : Hp} {ops : Array Oper} {F : Env → Hp → Prop} {rest : List (Nat × Nat)} {i : Nat} {o : Oper} {G : Type} {φ : G → Prop} {genv : G → Env} {gH : G → Hp} {j e : Nat} {b : Bool} (ho : ops[i]? = some o) (hg : o.guard = some (j, b)) (hj : (ops[j]?).bind (·.dst) = some e) (he : lk env e = some (.bool b)) (heN : Nat.blt e N = true) (ht : T P N sc M o env H φ genv gH)
    (h : ∀ g, φ g → LD P N sc M ops F rest (genv g) (gH g)) :
    LD P N sc M ops F ((i, 1) :: rest) env H := r1g ht ho hg hj he heN h
theorem inI_bl {x : Int} (h : inI x) : bl x.natAbs ≤ 65536 := sz_ints (l := [x]) (fun y hy => by rw [List.mem_singleton.1 hy]; exact h) 0
end Go.Sky
/- The greatest common divisor, up to a factor. -/
namespace Go.Sky
set_option linter.unusedVariables false
theorem sumTo_only {f : Nat → Int} {k : Nat} : ∀ {n : Nat}, k < n → (∀ i, i < n → i ≠ k → f i = 0) → sumTo f n = f k
  | 0, hk, _ => absurd hk (Nat.not_lt_zero _)
  | n + 1, hk, h => by
    rw [sumTo_succ]
    by_cases e : k = n
    · subst e
      rw [sumTo_z fun i hi => h i (by omega) (by omega), Int.zero_add]
    · rw [h n (by omega) (fun x => e x.symm), sumTo_only (by omega) (fun i hi => h i (by omega)), Int.add_zero]
theorem mul_zero_l {s : List Int} (h : ∀ t, cf s t = 0) (f : PS) (t : Nat) : (ps s * f).c t = 0 := by
  rw [PS.mul_c]
  exact sumTo_z fun k _ => by rw [ps_c, h, Int.zero_mul]
/-! the rest -/
def mono (s : Nat) (c : Int) : List Int := List.replicate s 0 ++ [c]
theorem length_prest_lt (p : List Int) {q : List Int} (hq : q ≠ []) : (prest p q).length < q.length := by
  have hq' : 0 < q.length := List.length_pos_iff.2 hq
  unfold prest
  split
  · assumption
  · have := tzl_len_le (p := rsteps p q (p.length - q.length + 1)) (n := q.length - 1) fun i hi => rsteps_top hq' (by omega) _ (Nat.le_refl _) i (by omega)
    omega
theorem tr_prest {p q : List Int} (hp : Tr p) : Tr (prest p q) := by
  unfold prest; split
  · exact hp
  · exact tr_tzl _
/-! the same but for a factor -/
def Sim (a b : List Int) : Prop := ∃ m n : Int, m ≠ 0 ∧ n ≠ 0 ∧ ∀ i, m * cf a i = n * cf b i
theorem Sim.refl (a : List Int) : Sim a a := ⟨1, 1, by decide, by decide, fun _ => rfl⟩
theorem Sim.symm {a b : List Int} : Sim a b → Sim b a := fun ⟨m, n, hm, hn, h⟩ => ⟨n, m, hn, hm, fun i => (h i).symm⟩
theorem Sim.trans {a b c : List Int} : Sim a b → Sim b c → Sim a c := fun ⟨m, n, hm, hn, h⟩ ⟨u, v, hu, hv, k⟩ =>
  ⟨m * u, n * v, Int.mul_ne_zero hm hu, Int.mul_ne_zero hn hv, fun i => by have h1 := h i; have h2 := k i; grind⟩
theorem Sim.zero {a b : List Int} (h : Sim a b) {i : Nat} (hi : cf a i = 0) : cf b i = 0 := by
  obtain ⟨m, n, hm, hn, h⟩ := h
  have := h i
  rw [hi, Int.mul_zero] at this
  rcases Int.mul_eq_zero.1 this.symm with h | h
  · exact absurd h hn
  · exact h
theorem Sim.len_le {a b : List Int} (h : Sim a b) (hb : Tr b) : b.length ≤ a.length := by
  rcases Nat.lt_or_ge a.length b.length with hl | hl
  · exfalso
    have hne : b ≠ [] := List.length_pos_iff.1 (by omega)
    exact hb.mem hne (h.zero (cf_ge (by omega)))
  · exact hl
theorem Sim.len {a b : List Int} (h : Sim a b) (ha : Tr a) (hb : Tr b) : a.length = b.length := Nat.le_antisymm (h.symm.len_le ha) (h.len_le hb)
theorem Sim.nil {a b : List Int} (h : Sim a b) (hb : Tr b) (ha : a = []) : b = [] := by
  have := h.len_le hb
  rw [ha] at this
  exact List.eq_nil_of_length_eq_zero (by simpa using this)
/-! contents -/
/-- primitive, with a positive leading coefficient -/
def nrm (p : List Int) : List Int := gnorm (pprim p)
theorem cf_gnorm (g : List Int) (i : Nat) : cf (gnorm g) i = if g.length ≠ 0 ∧ cf g (g.length - 1) < 0 then - cf g i else cf g i := by
  unfold gnorm; split
  · rw [cf_pscale]; omega
  · rfl
theorem tr_gnorm {g : List Int} (h : Tr g) : Tr (gnorm g) := by
  unfold gnorm; split
  · exact tr_pscale _ _
  · exact h
theorem sim_gnorm (g : List Int) : Sim (gnorm g) g := by
  by_cases h : g.length ≠ 0 ∧ cf g (g.length - 1) < 0
  · exact ⟨-1, 1, by decide, by decide, fun i => by rw [cf_gnorm, if_pos h]; omega⟩
  · exact ⟨1, 1, by decide, by decide, fun i => by rw [cf_gnorm, if_neg h]⟩
/-! Euclid's chain -/
/-! sizes of Euclid's chain -/
def chk : Nat → Nat → Nat → Nat → Nat → Bool
  | 0, _, lb, _, _ => Nat.beq lb 0
  | f + 1, la, lb, A, B => Nat.beq lb 0 || (bif Nat.blt la lb then chk f lb la B A else
      Nat.ble (A + (la - lb + 1) * B) 65537 && (List.range lb).all fun l => chk f lb l B (bif Nat.ble l 1 then 2 else A + (la - lb + 1) * B))
end Go.Sky
namespace Go.Sky
set_option linter.unusedVariables false
theorem lgcd_dv2 (x y : Int) : lgcd x y ∣ y := by
  unfold lgcd; split
  · exact Int.neg_dvd.2 (Int.gcd_dvd_right ..)
  · exact Int.gcd_dvd_right ..
/-- at most 8 bytes each -/
def s8 (l : List Int) : Prop := ∀ x ∈ l, (bstr x.natAbs).size ≤ 8
abbrev Z0 : SL × List Int := ((none, 0, 0), [])
theorem vp_eu : ∀ (f : Nat) {a b : List Int}, Vp a → Vp b → eok f a b → Vp (eu f a b)
  | 0, _, _, h, _, _ => h
  | f + 1, a, b, ha, hb, h => by
    unfold eu
    split
    · exact ha
    · rcases h with h | h
      · contradiction
      · exact vp_eu f hb (vp_pprim (vp_prest ha h.1)) h.2
theorem vp_gnorm {g : List Int} (h : Vp g) : Vp (gnorm g) := by
  unfold gnorm
  split
  · refine ⟨fun i => by rw [cf_pscale]; exact bl_negm h.sz i, tr_pscale _ _, Nat.le_trans (pscale_len _ _) h.len⟩
  · exact h
theorem vp_pgcd {F : Nat} {p q : List Int} (hp : Vp p) (hq : Vp q) (h : eok F (gA p q) (gB p q)) : Vp (pgcd F p q) := vp_gnorm (vp_eu F (vp_gA hp hq) (vp_gB hp hq) h)
end Go.Sky
/- What holds of sums, products, quotients and values. -/
namespace Go.Sky
set_option linter.unusedVariables false
/-! values -/
def pevn (p : List Int) (x y : Int) (n : Nat) : Int := sumTo (fun i => cf p i * (x ^ i * y ^ (n - 1 - i))) n
def dn (p : List Int) (y : Int) : Int := y ^ (p.length - 1)
/-! lowest terms -/
theorem lgcd_denp {N D : Int} (h : 0 < D) : 0 < D / lgcd N D := by
  have h1 : lgcd N D = (Int.gcd N D : Int) := if_neg (by omega)
  have h2 := Int.ediv_mul_cancel (lgcd_dv2 N D)
  rw [h1] at h2 ⊢
  generalize D / (Int.gcd N D : Int) = d at *
  rcases Int.lt_or_le 0 d with h3 | h3
  · exact h3
  · exfalso
    have : d * (Int.gcd N D : Int) ≤ 0 := Int.mul_nonpos_of_nonpos_of_nonneg h3 (by omega)
    omega
/-! the quotient of a product -/
section
variable {p q : List Int}
end
/-! what the greatest common divisor divides -/
def Dv (g a : List Int) : Prop := ∃ (k : Int) (s : List Int), k ≠ 0 ∧ ∀ t, k * cf a t = (ps s * ps g).c t
theorem one_mulc (f : PS) (t : Nat) : (ps [1] * f).c t = f.c t := by
  rw [PS.mul_c, sumTo_only (k := 0) (by omega) fun i _ hne => by rw [ps_c, cf_ge (p := [1]) (by simp; omega), Int.zero_mul], ps_c, show cf [1] 0 = 1 from rfl, Int.one_mul, Nat.sub_zero]
theorem Dv.refl (a : List Int) : Dv a a := ⟨1, [1], by decide, fun t => by rw [one_mulc, Int.one_mul, ps_c]⟩
theorem Dv.nil (g : List Int) : Dv g [] := ⟨1, [], by decide, fun t => by rw [mul_zero_l (fun t => cf_ge (Nat.zero_le _)), cf_ge (Nat.zero_le _)]; rfl⟩
theorem Dv.zero {a : List Int} (ha : Tr a) (h : Dv [] a) : a = [] := by
  obtain ⟨k, s, hk, h⟩ := h
  rw [← tzl_tr ha, tzl_nil_iff]
  intro i
  have h1 := h i
  rw [PS.mul_comm', mul_zero_l (fun t => cf_ge (Nat.zero_le _))] at h1
  rcases Int.mul_eq_zero.1 h1 with h2 | h2
  · exact absurd h2 hk
  · exact h2
theorem sim_pscale (p : List Int) {c : Int} (h : c ≠ 0) : Sim p (pscale p c) := ⟨c, 1, h, by decide, fun i => by rw [cf_pscale]; grind⟩
/-! how large it is -/
def fin8 (la A : Nat) : Bool := Nat.ble la 2 || Nat.ble (64 + (9 - la) * A) 65536
def chk2 : Nat → Nat → Nat → Nat → Nat → Bool
  | 0, la, _, A, _ => fin8 la A
  | f + 1, la, lb, A, B => bif Nat.beq lb 0 then fin8 la A else bif Nat.blt la lb then chk2 f lb la B A else
      (List.range lb).all fun l => chk2 f lb l B (bif Nat.ble l 1 then 2 else A + (la - lb + 1) * B)
theorem length_gnorm {g : List Int} (h : Tr g) : (gnorm g).length = g.length := (sim_gnorm g).len (tr_gnorm h) h
end Go.Sky
/- Chains: what they are. -/
namespace Go.Sky
set_option linter.unusedVariables false
/-- the polynomial is small enough for chains -/
def sfits (xs : List Int) : Prop := xs.length = 0 ∨ (xs.length + 2) * (xs.length + 2) * (msz xs + 16) ≤ 65536
instance (xs : List Int) : Decidable (sfits xs) := by unfold sfits; infer_instance
def sqf (F : Nat) (xs : List Int) : List Int := pquoz (nrm xs) (pgcd F (nrm xs) (pder (nrm xs)))
/-- what SquareFree needs -/
def sqOK (F : Nat) (xs : List Int) : Prop := (∀ i, i < xs.length → bl (cf (nrm xs) (i + 1) * ((i : Int) + 1)).natAbs ≤ 65536) ∧ ¬ gfull (nrm xs) (pder (nrm xs)) ∧ eok F (gA (nrm xs) (pder (nrm xs))) (gB (nrm xs) (pder (nrm xs))) ∧
  derr (nrm xs) (pgcd F (nrm xs) (pder (nrm xs))) = 0 ∧ pdv (nrm xs) (pgcd F (nrm xs) (pder (nrm xs)))
/-- the next one of a chain -/
def snext (x y : List Int) : List Int := if cf y (y.length - 1) < 0 ∧ (x.length - y.length + 1) % 2 = 1 then pprim (prest x y) else pscale (pprim (prest x y)) (-1)
def cok : Nat → List Int → List Int → Prop
  | 0, _, y => y = []
  | f + 1, x, y => y = [] ∨ (derr x y = 0 ∧ y.length ≤ x.length ∧ cok f y (snext x y))
def schain : Nat → List Int → List Int → List (List Int)
  | 0, x, _ => [x]
  | f + 1, x, y => if y = [] then [x] else x :: schain f y (snext x y)
theorem schain_nil (f : Nat) (x : List Int) : schain f x [] = [x] := by cases f <;> rfl
theorem cok_step {f : Nat} {a b : List Int} (h : cok f a b) (hb : b ≠ []) : ∃ g, f = g + 1 ∧ derr a b = 0 ∧ b.length ≤ a.length ∧ cok g b (snext a b) ∧ schain f a b = a :: schain g b (snext a b) := by
  cases f with
  | zero => exact absurd h hb
  | succ g =>
    rcases h with h | h
    · exact absurd h hb
    · exact ⟨g, rfl, h.1, h.2.1, h.2.2, by show (if b = [] then [a] else _) = _; rw [if_neg hb]⟩
def chn (F : Nat) (xs : List Int) : List (List Int) := schain F (sqf F xs) (pprim (pder (sqf F xs)))
/-- what Chain needs -/
def chOK (F : Nat) (xs : List Int) : Prop := sqOK F xs ∧ (∀ i, i < xs.length → bl (cf (sqf F xs) (i + 1) * ((i : Int) + 1)).natAbs ≤ 65536) ∧ cok F (sqf F xs) (pprim (pder (sqf F xs)))
theorem vp_nrm {p : List Int} (h : Vp p) : Vp (nrm p) := by
  unfold nrm
  have h1 := vp_pprim h
  refine ⟨fun i => ?_, tr_gnorm h1.tr, by rw [length_gnorm h1.tr]; exact h1.len⟩
  rw [cf_gnorm]; split
  · rw [Int.natAbs_neg]; exact h1.sz i
  · exact h1.sz i
theorem length_nrm {p : List Int} (h : Tr p) : (nrm p).length = p.length := by unfold nrm; rw [length_gnorm (tr_pprim h), length_pprim]
theorem vp_snext {x y : List Int} (hx : Vp x) (hd : derr x y = 0) : Vp (snext x y) := by
  have h := vp_pprim (vp_prest hx hd)
  unfold snext
  split
  · exact h
  · exact ⟨fun i => by rw [cf_pscale]; exact bl_negm h.sz i, tr_pscale _ _, Nat.le_trans (pscale_len _ _) h.len⟩
/-! changes of sign -/
def chg1 (s : Int × Int) (x : Int) : Int × Int := if x = 0 then s else (if x = -s.2 then s.1 + 1 else s.1, x)
def chg (l : List Int) : Int := (l.foldl chg1 (0, 0)).1
theorem foldl_snoc {α β : Type} (f : α → β → α) (a : α) (l : List β) (x : β) : (l ++ [x]).foldl f a = f (l.foldl f a) x := by simp
theorem chg1_n (s : Int × Int) (x : Int) : (chg1 s x).1 = s.1 ∨ (chg1 s x).1 = s.1 + 1 := by
  unfold chg1; split
  · exact .inl rfl
  · dsimp only; split
    · exact .inr rfl
    · exact .inl rfl
/-- the signs at a ratio -/
def sgs (ls : List (List Int)) (x y : Int) : List Int := ls.map fun p => (pev p x y).sign
/-- far to the right, and to the left -/
def sgr (ls : List (List Int)) : List Int := ls.map fun p => (cf p (p.length - 1)).sign
def sgl (ls : List (List Int)) : List Int := ls.map fun p => if p.length % 2 = 0 then - (cf p (p.length - 1)).sign else (cf p (p.length - 1)).sign
/-- the bound of the roots -/
def smost (xs : List Int) : Nat := (xs.take (xs.length - 1)).foldl (fun m c => max m c.natAbs) 0
def sbound (xs : List Int) : Int := ((smost xs / (cf xs (xs.length - 1)).natAbs : Nat) : Int) + 2
end Go.Sky
namespace Go.Sky
/-- what the check of a polynomial says -/
def chk0 (xs : List Int) : Int := if xs.length = 0 then 3 else if sfits xs then 0 else 7
/-- an end that is too large -/
def ef (z : Int × Int) : Bool := decide (512 < bl z.1.natAbs) || decide (512 < bl z.2.natAbs)
def chk2r (xs : List Int) (x y x2 y2 : Int) : Int := if xs.length = 0 then 3 else if 0 < x * y2 - x2 * y then 3 else if sfits xs ∧ ef (x, y) = false ∧ ef (x2, y2) = false then 0 else 7
theorem chk0_ok {xs : List Int} (h0 : xs ≠ []) (h : sfits xs) : chk0 xs = 0 := by
  unfold chk0
  rw [if_neg (fun e => h0 (List.eq_nil_of_length_eq_zero e)), if_pos h]
theorem nrm_pos {xs : List Int} (h : ¬ cf (pprim xs) ((pprim xs).length - 1) < 0) : nrm xs = pprim xs := by
  unfold nrm gnorm; rw [if_neg (by omega)]
theorem nrm_neg {xs : List Int} (h0 : (pprim xs).length ≠ 0) (h : cf (pprim xs) ((pprim xs).length - 1) < 0) : nrm xs = pscale (pprim xs) (-1) := by
  unfold nrm gnorm; rw [if_pos ⟨h0, h⟩]
end Go.Sky
/- Factors: what divides with a factor divides, and factors are not much larger. -/
namespace Go.Sky
set_option linter.unusedVariables false
end Go.Sky
/- Factors are not much larger: their values at small integers divide. -/
namespace Go.Sky
set_option linter.unusedVariables false
def ev1 : List Int → Int → Int
  | [], _ => 0
  | c :: r, t => c + t * ev1 r t
/-- the quotient by x - t -/
def sdv : List Int → Int → List Int
  | [], _ => []
  | [_], _ => []
  | _ :: c :: r, t => ev1 (c :: r) t :: sdv (c :: r) t
def kk : Nat → Nat
  | 0 => 0
  | d + 1 => 30 * kk d + 1
def pts : List Int := [0, 1, 2, 3, 4, 5, 6, 7, 8, 9, 10, 11, 12, 13, 14]
end Go.Sky
/- The chain of a small polynomial fits; and it is that of the reference. -/
namespace Go.Sky
set_option linter.unusedVariables false
/-! the same but for a positive factor -/
def Psim (a b : List Int) : Prop := ∃ m n : Int, 0 < m ∧ 0 < n ∧ ∀ i, m * cf a i = n * cf b i
theorem Psim.refl (a : List Int) : Psim a a := ⟨1, 1, by decide, by decide, fun _ => rfl⟩
theorem Psim.symm {a b : List Int} : Psim a b → Psim b a := fun ⟨m, n, hm, hn, h⟩ => ⟨n, m, hn, hm, fun i => (h i).symm⟩
theorem Psim.trans {a b c : List Int} : Psim a b → Psim b c → Psim a c := fun ⟨m, n, hm, hn, h⟩ ⟨u, v, hu, hv, k⟩ =>
  ⟨m * u, n * v, Int.mul_pos hm hu, Int.mul_pos hn hv, fun i => by have h1 := h i; have h2 := k i; grind⟩
/-! the reference's remainder -/
def rabs (y : List Int) : Int := if cf y (y.length - 1) < 0 then - cf y (y.length - 1) else cf y (y.length - 1)
def rb (x y : List Int) : Int := if cf y (y.length - 1) < 0 then - cf x (x.length - 1) else cf x (x.length - 1)
def rrem1 (x y : List Int) : List Int := psub (pscale x (rabs y)) (shm y (rb x y) (x.length - y.length) y.length)
def rrem : Nat → List Int → List Int → List Int
  | 0, x, _ => x
  | f + 1, x, y => if x.length < y.length then x else rrem f (rrem1 x y) y
def pneg (p : List Int) : List Int := pscale p (-1)
/-! sizes -/
theorem length_snext {x y : List Int} (hx : Tr x) : (snext x y).length = (prest x y).length := by
  unfold snext
  have h : Tr (pprim (prest x y)) := tr_pprim (tr_prest hx)
  split
  · exact length_pprim _
  · rw [← length_pprim (prest x y)]
    exact ((sim_pscale (pprim (prest x y)) (by decide : (-1 : Int) ≠ 0)).len h (tr_pscale _ _)).symm
/-- a polynomial of at most 8 coefficients of at most 48 bits -/
theorem len_pder' (p : List Int) : (pder p).length = p.length - 1 := length_mk _ _
theorem cf_pder' (p : List Int) (i : Nat) : cf (pder p) i = cf p (i + 1) * ((i : Int) + 1) := by
  unfold pder
  rw [cf_mk]
  split
  · rfl
  · rw [cf_ge (by omega), Int.zero_mul]
end Go.Sky

