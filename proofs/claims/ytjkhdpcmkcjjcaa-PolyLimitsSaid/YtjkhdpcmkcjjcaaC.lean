/- the arithmetic of integers and polynomials
   Proved without conditions of its own: each theorem bears its own. -/
import Derived.Test.YtjkhdpcmkcjjcaaB
import Derived.Laws.StructEq
import Derived.Test.YtjkhdpcmkcjjcaaA
set_option linter.all false
namespace Go.Sky
set_option linter.unusedVariables false
/-- the sign flag s fits x -/
def sg (s : Bool) (x : Int) : Prop := (s = true → x ≤ 0) ∧ (s = false → 0 ≤ x)
theorem sg_neg {s : Bool} {x : Int} (h : sg s x) : sg (!s) (-x) := by
  cases s <;> simp [sg] at * <;> omega
theorem sg_mul {s t : Bool} {x y : Int} (hs : sg s x) (ht : sg t y) : sg (s != t) (x * y) := by
  cases s <;> cases t <;> simp [sg] at *
  · exact Int.mul_nonneg hs ht
  · exact Int.mul_nonpos_of_nonneg_of_nonpos hs ht
  · exact Int.mul_nonpos_of_nonpos_of_nonneg hs ht
  · exact Int.mul_nonneg_of_nonpos_of_nonpos hs ht
theorem sign_zero {x : Int} (h : (((dg U x.natAbs).length : Nat) : Int) = 0) : Value.int .i64 x.sign = .int .i64 0 := by
  have h1 := (dg_nil_iff two_U x.natAbs).1 (by omega)
  have : x = 0 := by omega
  subst this; rfl
theorem sign_neg {s : Bool} {x : Int} (hs : sg s x) (h1 : s = true) (h : ¬ (((dg U x.natAbs).length : Nat) : Int) = 0) : Value.int .i64 x.sign = .int .i64 (-1) := by
  have h2 : ¬ x.natAbs = 0 := fun e => h (by rw [(dg_nil_iff two_U x.natAbs).2 e]; rfl)
  have h3 := hs.1 h1
  rw [Int.sign_eq_neg_one_of_neg (by omega)]
theorem sign_pos {s : Bool} {x : Int} (hs : sg s x) (h1 : s = false) (h : ¬ (((dg U x.natAbs).length : Nat) : Int) = 0) : Value.int .i64 x.sign = .int .i64 1 := by
  have h2 : ¬ x.natAbs = 0 := fun e => h (by rw [(dg_nil_iff two_U x.natAbs).2 e]; rfl)
  have h3 := hs.2 h1
  rw [Int.sign_eq_one_of_pos (by omega)]
theorem sg_add1 {s : Bool} {x y : Int} (hs : sg s x) (ht : sg s y) : sg s (x + y) := by
  cases s <;> simp [sg] at * <;> omega
theorem abs_add1 {s : Bool} {x y : Int} (hs : sg s x) (ht : sg s y) : (x + y).natAbs = x.natAbs + y.natAbs := by
  cases s <;> simp [sg] at * <;> omega
theorem sg_add2 {s t : Bool} {x y : Int} (hs : sg s x) (ht : sg t y) (h : s ≠ t) (hge : y.natAbs ≤ x.natAbs) : sg s (x + y) := by
  cases s <;> cases t <;> simp [sg] at * <;> omega
theorem abs_add2 {s t : Bool} {x y : Int} (hs : sg s x) (ht : sg t y) (h : s ≠ t) (hge : y.natAbs ≤ x.natAbs) : (x + y).natAbs = x.natAbs - y.natAbs := by
  cases s <;> cases t <;> simp [sg] at * <;> omega
/-- api.Wide of x -/
abbrev wv (x : Int) : Value := .agg #[.bool (decide (x < 0)), .string (bstr x.natAbs)]
/-- what is left of a result, and its error -/
def clip (x : Int) : Int := if 65536 < bl x.natAbs then 0 else x
def full (x : Int) : Int := if 65536 < bl x.natAbs then 7 else 0
theorem clip_bl (x : Int) : bl (clip x).natAbs ≤ 65536 := by
  unfold clip
  split
  · decide
  · omega
theorem clip_ok {x : Int} (h : bl x.natAbs ≤ 65536) : clip x = x := by unfold clip; rw [if_neg (by omega)]
theorem full_ok {x : Int} (h : bl x.natAbs ≤ 65536) : full x = 0 := by unfold full; rw [if_neg (by omega)]
theorem clip_no {x : Int} (h : 65536 < bl x.natAbs) : clip x = 0 := by unfold clip; rw [if_pos h]
theorem full_no {x : Int} (h : 65536 < bl x.natAbs) : full x = 7 := by unfold full; rw [if_pos h]
/-- what number.wide gives -/
abbrev wideV (x : Int) : Value := .tuple #[wv (clip x), .int .i64 (full x)]
theorem wide_full {x : Int} (h : ((65536 : Int) < ((bl x.natAbs : Nat) : Int))) : wideV x = .tuple #[.agg #[.bool false, .string ⟨#[]⟩], .int .i64 7] := by
  unfold wideV; rw [clip_no (by omega), full_no (by omega)]; rfl
theorem wide_ok {x : Int} (h : ¬ ((65536 : Int) < ((bl x.natAbs : Nat) : Int))) : wideV x = .tuple #[wv x, .int .i64 0] := by
  unfold wideV; rw [clip_ok (by omega), full_ok (by omega)]
theorem wide_okf {x : Int} (hs : sg false x) (h : ¬ ((65536 : Int) < ((bl x.natAbs : Nat) : Int))) : wideV x = .tuple #[.agg #[.bool false, .string (bstr x.natAbs)], .int .i64 0] := by
  rw [wide_ok h, wv, decide_eq_false (by have := hs.2 rfl; omega)]
theorem wide_okt {x : Int} (hs : sg true x) (h : ¬ ((65536 : Int) < ((bl x.natAbs : Nat) : Int))) : wideV x = .tuple #[.agg #[.bool (decide ((0 : Int) < (((dg U x.natAbs).length : Nat) : Int))), .string (bstr x.natAbs)], .int .i64 0] := by
  have h1 := hs.1 rfl
  have h2 := dg_nil_iff two_U x.natAbs
  rw [wide_ok h, wv, show decide (x < 0) = decide ((0 : Int) < (((dg U x.natAbs).length : Nat) : Int)) from decide_eq_decide.2 ⟨fun h => by omega, fun h => by omega⟩]
theorem ediv_uniq {x y q r : Int} (hy : y ≠ 0) (h : x = y * q + r) (h0 : 0 ≤ r) (h1 : r < (y.natAbs : Int)) : x / y = q ∧ x % y = r := by
  have e := Int.mul_ediv_add_emod x y
  have e0 := Int.emod_nonneg x hy
  have e1 := Int.emod_lt x hy
  have hq : x / y = q := by
    have hk : y * (x / y - q) = r - x % y := by rw [Int.mul_sub]; omega
    have habs : (y * (x / y - q)).natAbs < y.natAbs := by rw [hk]; omega
    rw [Int.natAbs_mul] at habs
    rcases Nat.eq_zero_or_pos (x / y - q).natAbs with h | h
    · omega
    · exact absurd (Nat.le_mul_of_pos_right y.natAbs h) (by omega)
  refine ⟨hq, ?_⟩
  rw [hq] at e; omega
theorem sg_abs {s : Bool} {x : Int} (h : sg s x) : x = if s then -(x.natAbs : Int) else (x.natAbs : Int) := by
  cases s <;> simp [sg] at * <;> omega
theorem div_gen {s t : Bool} {x y : Int} (hs : sg s x) (ht : sg t y) (hy : y ≠ 0) (Q R : Nat) (hR : R < y.natAbs) (h : x = (if s then -1 else 1) * ((y.natAbs : Int) * Q) + R) :
    sg (s != t) (x / y) ∧ (x / y).natAbs = Q ∧ (x % y).natAbs = R := by
  have hy2 := sg_abs ht
  have key : x / y = (if s != t then -(Q : Int) else Q) ∧ x % y = R := by
    refine ediv_uniq hy ?_ (by omega) (by omega)
    conv => lhs; rw [h]
    conv => rhs; rw [hy2]
    cases s <;> cases t <;> simp [Int.neg_mul, Int.mul_neg]
  rw [key.1, key.2]
  cases s <;> cases t <;> simp [sg]
theorem divB {s t : Bool} {x y : Int} (hs : sg s x) (ht : sg t y) (hy : y ≠ 0) (hc : s = false ∨ x.natAbs % y.natAbs = 0) : sg (s != t) (x / y) ∧ (x / y).natAbs = x.natAbs / y.natAbs ∧ (x % y).natAbs = x.natAbs % y.natAbs := by
  have hx := sg_abs hs
  have e := Nat.div_add_mod x.natAbs y.natAbs
  refine div_gen hs ht hy _ _ (Nat.mod_lt _ (by omega)) ?_
  have e2 : ((y.natAbs : Int) * ((x.natAbs / y.natAbs : Nat) : Int)) + ((x.natAbs % y.natAbs : Nat) : Int) = x.natAbs := by rw [← Int.natCast_mul, ← Int.natCast_add, e]
  rcases hc with rfl | h0
  · simp at hx ⊢; simp at e2; omega
  · rw [h0] at e2 ⊢
    cases s <;> simp at hx e2 ⊢ <;> omega
theorem divA {t : Bool} {x y : Int} (hs : sg true x) (ht : sg t y) (hy : y ≠ 0) (h0 : 0 < x.natAbs % y.natAbs) : sg (true != t) (x / y) ∧ (x / y).natAbs = x.natAbs / y.natAbs + 1 ∧ (x % y).natAbs = y.natAbs - x.natAbs % y.natAbs := by
  have hx := sg_abs hs
  have e := Nat.div_add_mod x.natAbs y.natAbs
  have hl := Nat.mod_lt x.natAbs (show 0 < y.natAbs by omega)
  refine div_gen hs ht hy _ _ (by omega) ?_
  have e2 : ((y.natAbs : Int) * ((x.natAbs / y.natAbs : Nat) : Int)) + ((x.natAbs % y.natAbs : Nat) : Int) = x.natAbs := by rw [← Int.natCast_mul, ← Int.natCast_add, e]
  rw [Int.natCast_sub (by omega), Int.natCast_add, Int.mul_add]
  generalize ((y.natAbs : Int) * ((x.natAbs / y.natAbs : Nat) : Int)) = P at *
  generalize ((x.natAbs % y.natAbs : Nat) : Int) = R at *
  simp only [if_true] at *
  omega
/-! valid wide integers -/
def okW (b : Bool) (s : ByteArray) : Bool := if s.size = 0 then !b else decide ((s.data.toList.getD 0 0).toNat ≠ 0) && decide (s.size ≤ 8192)
theorem bl256 {n k : Nat} : (dg 256 n).length ≤ k ↔ bl n ≤ 8 * k := by rw [len256]; omega
theorem okW_wv {x : Int} (h : bl x.natAbs ≤ 65536) : okW (decide (x < 0)) (bstr x.natAbs) = true := by
  unfold okW
  rw [bstr_size]
  split
  · rename_i h0
    have := (dg_nil_iff (by omega : 2 ≤ 256) x.natAbs).1 h0
    simp; omega
  · rename_i h0
    have hp : 0 < x.natAbs := by
      rcases Nat.eq_zero_or_pos x.natAbs with h1 | h1
      · rw [h1] at h0; simp [dg_zero] at h0
      · exact h1
    have h1 := bstr_get x.natAbs 0 (by omega)
    have h2 := dg_top (by omega : 2 ≤ 256) hp
    rw [dg_getD (by omega)] at h2
    have h3 := (bl256 (n := x.natAbs) (k := 8192)).2 (by omega)
    rw [Bool.and_eq_true]
    refine ⟨decide_eq_true (by rw [h1]; simpa using h2), decide_eq_true h3⟩
theorem bytes_ext {a b : ByteArray} (h : a.data.toList = b.data.toList) : a = b := by
  cases a; cases b; simp at h; rw [h]
theorem bstr_of {s : ByteArray} (h0 : s.size ≠ 0) (h : (s.data.toList.getD 0 0).toNat ≠ 0) : s = bstr (val 256 (s.data.toList.reverse.map UInt8.toNat)) := by
  have hl : s.data.toList.length = s.size := rfl
  have hb : ∀ d ∈ s.data.toList.reverse.map UInt8.toNat, d < 256 := fun d hd => by
    obtain ⟨u, _, rfl⟩ := List.mem_map.1 hd
    exact u.toNat_lt
  refine bytes_ext ?_
  unfold bstr
  rw [dg_val (by omega) _ hb, tz_eq]
  · simp [List.map_reverse, Function.comp_def]
  · refine .inr ?_
    rw [List.length_map, List.length_reverse, List.getD_eq_getElem?_getD, List.getElem?_map, List.getElem?_reverse (by omega)]
    rw [show s.data.toList.length - 1 - (s.data.toList.length - 1) = 0 by omega]
    rw [List.getD_eq_getElem?_getD] at h
    cases hx : s.data.toList[0]? with
    | none => rw [hx] at h; simp at h
    | some u => rw [hx] at h; simpa using h
theorem okW_ex {b : Bool} {s : ByteArray} (h : okW b s = true) : ∃ x : Int, bl x.natAbs ≤ 65536 ∧ b = decide (x < 0) ∧ s = bstr x.natAbs := by
  unfold okW at h
  split at h
  · rename_i h0
    refine ⟨0, by simp [bl_zero], ?_, ?_⟩
    · cases b <;> simp_all
    · refine bytes_ext ?_
      have : s.data.toList.length = 0 := h0
      rw [List.eq_nil_of_length_eq_zero this]; rfl
  · rename_i h0
    rw [Bool.and_eq_true] at h
    have h1 := of_decide_eq_true h.1
    have h2 := of_decide_eq_true h.2
    have hs := bstr_of h0 h1
    generalize val 256 (s.data.toList.reverse.map UInt8.toNat) = n at hs
    have hsz : (dg 256 n).length = s.size := by rw [hs, bstr_size]
    have hn : 0 < n := by
      rcases Nat.eq_zero_or_pos n with h | h
      · subst h; simp [dg_zero] at hsz; omega
      · exact h
    have hbl : bl n ≤ 65536 := by have := (bl256 (n := n) (k := 8192)).1 (by omega); omega
    cases b with
    | true => exact ⟨-(n : Int), by simpa using hbl, by simp; omega, by simpa using hs⟩
    | false => exact ⟨n, by simpa using hbl, by simp, by simpa using hs⟩
def eqW (a : Bool) (s : ByteArray) (b : Bool) (t : ByteArray) : Bool := (a == b) && (s.toList == t.toList)
theorem wv_inj {x y : Int} (h : decide (x < 0) = decide (y < 0)) (h2 : bstr x.natAbs = bstr y.natAbs) : x = y := by
  have h3 : x.natAbs = y.natAbs := by
    have h4 : (dg 256 x.natAbs).reverse.map UInt8.ofNat = (dg 256 y.natAbs).reverse.map UInt8.ofNat := by
      have := congrArg (fun b : ByteArray => b.data.toList) h2
      simpa [bstr] using this
    have h5 : ∀ n : Nat, ((dg 256 n).reverse.map UInt8.ofNat).map UInt8.toNat = (dg 256 n).reverse := fun n => by
      rw [List.map_map]
      conv => rhs; rw [← List.map_id (dg 256 n).reverse]
      refine List.map_congr_left fun d hd => ?_
      have := dg_lt (by omega : 2 ≤ 256) n d (List.mem_reverse.1 hd)
      simp [UInt8.toNat_ofNat', Nat.mod_eq_of_lt this]
    have h6 := congrArg (List.map UInt8.toNat) h4
    rw [h5, h5] at h6
    exact (dg_eq_iff (by omega : 2 ≤ 256)).1 (List.reverse_inj.1 h6)
  have h4 := decide_eq_decide.1 h
  omega
theorem eqW_iff {a b : Bool} {s t : ByteArray} : eqW a s b t = true ↔ a = b ∧ s = t := by
  unfold eqW
  rw [Bool.and_eq_true, ByteArray.toList_eq, ByteArray.toList_eq, beq_iff_eq, beq_iff_eq]
  exact ⟨fun h => ⟨h.1, bytes_ext h.2⟩, fun h => ⟨h.1, by rw [h.2]⟩⟩
end Go.Sky
/- Functions that change a box of their caller; boxes that are only read. -/
namespace Go.Sky
open Go.RowKit (Below)
set_option linter.unusedVariables false
variable {P : Program} {N : Nat} {sc : Nat → Prop} {env env' : Env} {H H' : Hp} {Q Q' : Exit → Act → World → Prop} {M : Nat → Prop}
/-- a block that is only read -/
def rbox (b : Nat) (t : TypeId) (cs : Array Value) : Pc :=
  { own := false, fp := fun k => k = b, holds := fun w => w.heap[b]? = some (.cells cs t (0, 0))
    lt := fun w k h hk => by subst hk; exact (Array.getElem?_eq_some_iff.1 h).1
    stable := fun w w' h hc => by
      rw [← h]; exact hc.block b (Array.getElem?_eq_some_iff.1 h).1 (fun hn => hn rfl) }
theorem s_rbox {b : Nat} {t : TypeId} {cs : Array Value} (i : Nat) (hi : lk H i = some (box b t cs)) (hi0 : Nat.beq i 0 = false) : ∀ a w, Sat N sc env H a w → Sat N sc env ((i, rbox b t cs) :: H) a w := fun a w hs => by
    have h0 : i ≠ 0 := fun e => by subst e; simp at hi0
    refine ⟨hs.size, hs.defers, hs.env, fun j jt hj => ?_, fun j j' jt jt' hne hj hj' ho b hb hb' => ?_, fun j jt hj0 hj b hb => ?_⟩
    · by_cases hk : i = j
      · subst hk; rw [lk_same] at hj; cases hj; have h1 := hs.hold i (box _ t cs) hi; exact h1
      · rw [lk_other _ _ hk] at hj; exact hs.hold j jt hj
    · by_cases hk : i = j
      · subst hk; rw [lk_same] at hj; cases hj; cases ho
      · rw [lk_other _ _ hk] at hj
        by_cases hk' : i = j'
        · subst hk'; rw [lk_same] at hj'; cases hj'
          exact hs.sep j i jt (box _ t cs) hne hj hi ho b hb hb'
        · rw [lk_other _ _ hk'] at hj'
          exact hs.sep j j' jt jt' hne hj hj' ho b hb hb'
    · by_cases hk : i = j
      · subst hk; rw [lk_same] at hj; cases hj; exact hs.scope i (box _ t cs) h0 hi b hb
      · rw [lk_other _ _ hk] at hj; exact hs.scope j jt hj0 hj b hb
theorem d_lr {o : Oper} {x : Operand} {t tb : TypeId} {i b j : Nat} {cs : Array Value} {v : Value} (ho : o.op = .load t x)
    (hx : ev env x = some (.pointer (some ⟨b, j, none⟩))) (hH : lk H i = some (rbox b tb cs)) (ht : ∀ w, (isAgg t).run P w = .ok false w) (hv : cs[j]? = some v) : Det P N sc o env H v := fun a w hs => by
  have h0 : w.heap[b]? = some (.cells cs tb (0, 0)) := hs.hold i _ hH
  have h : w.cell? ⟨b, j, none⟩ = cs[j]? := by simp [World.cell?, h0]
  rw [hv] at h
  simp [execOp, ho, hs.ev hx, Instr.loadAt, Instr.sureAddr, loadVar, ht, load, Sem.run, h]
/-- a contract of a function that changes the box b of its caller -/
def CalB (P : Program) (f : FuncId) (args : Array Value) (pre : List Pc) (al : Bool) (b : Nat) (t : TypeId) (cs : Array Value) {G : Type} (φ : G → Prop) (val : G → Value) (cs' : G → Array Value) (its : G → List Pc) : Prop :=
  ∀ w, (∀ p ∈ pre, p.holds w ∧ ¬ p.fp b) → (box b t cs).holds w → Calls P f args w fun e w' => ∃ g, e = .returned (val g) ∧ φ g ∧ Chg (fun k => k = b) w w' ∧ (box b t (cs' g)).holds w' ∧
    ∀ p ∈ its g, p.holds w' ∧ p.own = false ∧ ∀ k, p.fp k → w.heap.size ≤ k ∨ (al = true ∧ ∃ q ∈ pre, q.fp k)
theorem t_callb {o : Oper} {f : FuncId} {xs : List Operand} {ats : Array TypeId} {d n i b : Nat} {t : TypeId} {cs : Array Value} {vs : List Value} {pre : List Pc} {al : Bool} {G : Type} {φ : G → Prop} {val : G → Value} {cs' : G → Array Value} {its : G → List Pc} {w0 : World} {M0 : Nat → Prop}
    (hc : CalB P f vs.toArray pre al b t cs φ val cs' its)
    (ho : o.op = .call { callee := .value (.func f), args := xs.toArray, argTypes := ats }) (hd : o.dst = some d) (hN : Nat.blt d N = true)
    (hargs : EvL env xs vs) (hcall : ∀ args w, (callFunc f args).run P w = .ok (.enter f args) w) (hH : lk H i = some (box b t cs)) (hi0 : i ≠ 0) (hpre : PreOk (drp i H) al pre)
    (h0 : lk H 0 = some (keep w0 M0)) (hw : ∀ b, w0.heap.size ≤ b → sc b) (hM : M b) :
    T P N sc M o env H φ (fun g => (d, val g) :: env) (fun g => adds n (its g) ((i, box b t (cs' g)) :: H)) := fun a w hs K Q hK => by
  have hr : (execOp a.eval o).run P w = .ok (.enter f vs.toArray) w := by rw [run_execcall hs ho hargs, hcall]
  unfold Oper.wp
  rw [hr]
  have hbox : (box b t cs).holds w := hs.hold i _ hH
  refine (hc w (fun p hp => by
    obtain ⟨j, it, _, hj, himp, hfp, _⟩ := hpre.mem p hp
    obtain ⟨hne, hj⟩ := lk_drp _ _ _ _ hj
    exact ⟨himp w (hs.hold j it hj), fun hb => hs.sep i j _ it (Ne.symm hne) hH hj rfl b rfl (hfp b hb)⟩) hbox).mono ?_
  rintro e w' ⟨g, rfl, hg, hchg, hbox', hits⟩
  show K (a.put o.dst (val g)) w'
  rw [hd]
  have hs' : Sat N sc env ((i, box b t (cs' g)) :: H) a w' := hs.upd hH rfl hi0 hchg hbox' (fun k hk => .inl hk) h0 hw
  have hCM : Chg M w w' := ⟨hchg.os, hchg.tape, hchg.output, hchg.size, fun k hk hn => hchg.block k hk (fun e => hn (by subst e; exact hM))⟩
  refine hK g _ _ hg (Sat.put (hs'.adds (w1 := w) (its g) n ?_) d _ hN) hCM
  intro p hp
  obtain ⟨h1, h2, h3⟩ := hits p hp
  refine ⟨h1, h2, fun k hk => ?_, fun j jt hj hown k hk hk' => ?_⟩
  · rcases h3 k hk with h | ⟨_, q, hq, hqb⟩
    · exact hw k (Nat.le_trans (hs.hold 0 _ h0).size h)
    · obtain ⟨j, it, hj0, hj, _, hfp, _⟩ := hpre.mem q hq
      exact hs.scope j it hj0 (lk_drp _ _ _ _ hj).2 k (hfp k hqb)
  · have hlt : k < w.heap.size := by
      by_cases hij : i = j
      · subst hij; rw [lk_same] at hj; cases hj
        have : k = b := hk'
        subst this
        exact (Array.getElem?_eq_some_iff.1 hbox).1
      · rw [lk_other _ _ hij] at hj; exact jt.lt w k (hs.hold j jt hj) hk'
    rcases h3 k hk with h | ⟨hal, q, hq, hqb⟩
    · omega
    · obtain ⟨j', it, hj0, hj', _, hfp, hno⟩ := hpre.mem q hq
      obtain ⟨hne, hj'⟩ := lk_drp _ _ _ _ hj'
      by_cases hij : i = j
      · subst hij; rw [lk_same] at hj; cases hj
        exact hs.sep i j' _ it (Ne.symm hne) hH hj' rfl k hk' (hfp k hqb)
      · rw [lk_other _ _ hij] at hj
        by_cases hjj : j = j'
        · subst hjj; rw [hj'] at hj; cases hj; rw [hno hal] at hown; cases hown
        · exact hs.sep j j' jt it hjj hj hj' hown k hk' (hfp k hqb)
def FPostB (P : Program) (fn : Func) (w0 : World) (pre : List Pc) (al : Bool) (b : Nat) (t : TypeId) {G : Type} (φ : G → Prop) (val : G → Value) (cs' : G → Array Value) (its : G → List Pc) : Exit → Act → World → Prop :=
  bodyPost P fn fun e w' => ∃ g, e = .returned (val g) ∧ φ g ∧ Chg (fun k => k = b) w0 w' ∧ (box b t (cs' g)).holds w' ∧
        ∀ p ∈ its g, p.holds w' ∧ p.own = false ∧ ∀ k, p.fp k → w0.heap.size ≤ k ∨ (al = true ∧ ∃ q ∈ pre, q.fp k)
theorem calb_in {f : FuncId} {fn : Func} {c : Code} {vs : List Value} {pre : List Pc} {al : Bool} {b : Nat} {t : TypeId} {cs : Array Value} {G : Type} {φ : G → Prop} {val : G → Value} {cs' : G → Array Value} {its : G → List Pc} {N : Nat}
    (hf : P.funcs[f]? = some fn) (hb : fn.body = some c) (hN : fn.ntmps = N) (hle : Nat.ble vs.length N = true) (hro : AllRo pre)
    (h : ∀ w0 (sc : Nat → Prop), (∀ k, w0.heap.size ≤ k → sc k) → (∀ k, sc k → w0.heap.size ≤ k ∨ k = b ∨ ∃ q ∈ pre, q.fp k) →
      E P N sc c (FPostB P fn w0 pre al b t φ val cs' its) (enumEnv 0 vs) ((0, keep w0 (fun k => k = b)) :: (1, box b t cs) :: enumPre 2 pre)) :
    CalB P f vs.toArray pre al b t cs φ val cs' its := fun w hp hbx => by
  refine calls_of_wp hf hb (h w (fun k => w.heap.size ≤ k ∨ k = b ∨ ∃ q ∈ pre, q.fp k) (fun k hk => .inl hk) (fun k hk => hk) _ w ?_)
  have hle : vs.length ≤ N := by simpa using hle
  have hpre : ∀ i p, lk ((0, keep w (fun k => k = b)) :: (1, box b t cs) :: enumPre 2 pre) i = some p → (i = 0 ∧ p = keep w (fun k => k = b)) ∨ (i = 1 ∧ p = box b t cs) ∨ (i ≠ 0 ∧ i ≠ 1 ∧ p ∈ pre ∧ p.own = false) := fun i p hi => by
      by_cases h0 : 0 = i
      · subst h0; rw [lk_same] at hi; cases hi; exact .inl ⟨rfl, rfl⟩
      · rw [lk_other _ _ h0] at hi
        by_cases h1 : 1 = i
        · subst h1; rw [lk_same] at hi; cases hi; exact .inr (.inl ⟨rfl, rfl⟩)
        · rw [lk_other _ _ h1] at hi
          obtain ⟨_, hm⟩ := lk_enumPre pre 2 i p hi
          exact .inr (.inr ⟨fun e => h0 e.symm, fun e => h1 e.symm, hm, hro.mem p hm⟩)
  refine ⟨by simp [hN]; omega, rfl, fun t v ht => ?_, fun i p hi => ?_, fun i j p q hne hi hj ho k hk hk' => ?_, fun i p hi0 hi k hk => ?_⟩
  · have h1 : vs.toArray[t]? = some v := by simpa using (lk_enumEnv vs 0 t v ht).2
    have hlt := (Array.getElem?_eq_some_iff.1 h1).1
    rw [Array.getD_eq_getD_getElem?, Array.getElem?_append_left hlt, h1]; rfl
  · rcases hpre i p hi with ⟨_, rfl⟩ | ⟨_, rfl⟩ | ⟨_, _, hm, _⟩
    · exact Chg.refl _ w
    · exact hbx
    · exact (hp p hm).1
  · rcases hpre i p hi with ⟨_, rfl⟩ | ⟨h1, rfl⟩ | ⟨_, _, hm, hown⟩
    · cases ho
    · have hkb : k = b := hk
      subst hkb
      rcases hpre j q hj with ⟨_, rfl⟩ | ⟨h2, rfl⟩ | ⟨_, _, hm, _⟩
      · exact hk'.2 rfl
      · exact hne (h1.trans h2.symm)
      · exact (hp q hm).2 hk'
    · rw [hown] at ho; cases ho
  · rcases hpre i p hi with ⟨h0, _⟩ | ⟨_, rfl⟩ | ⟨_, _, hm, _⟩
    · exact absurd h0 hi0
    · exact .inr (.inl hk)
    · exact .inr (.inr ⟨p, hm, hk⟩)
theorem x_endb {fn : Func} {pre : List Pc} {al : Bool} {b : Nat} {t : TypeId} {cs : Array Value} {G : Type} {φ : G → Prop} {val : G → Value} {cs' : G → Array Value} {its : G → List Pc} {w0 : World} {e : Exit} (he : e = .ret ∨ e = .normal) (hsc : ∀ k, sc k → w0.heap.size ≤ k ∨ k = b ∨ ∃ q ∈ pre, q.fp k)
    (g : G) (v : Value) (hres : ∀ a w, Sat N sc env H a w → (results fn a.tmps).run P w = .ok v w) (hv : val g = v) (hg : φ g) (i : Nat) (hi : lk H i = some (box b t cs)) (hcs : cs' g = cs) (hi0 : Nat.beq i 0 = false) (h0 : lk H 0 = some (keep w0 (fun k => k = b))) (hgive : Give (drp i H) al (its g)) :
    X N sc e (FPostB P fn w0 pre al b t φ val cs' its) env H := fun a w hs => by
  have key : a.defers = [] ∧ ∃ v, (results fn a.tmps).run P w = .ok v w ∧ (∃ g, Ending.returned v = .returned (val g) ∧ φ g ∧ Chg (fun k => k = b) w0 w ∧ (box b t (cs' g)).holds w ∧
        ∀ p ∈ its g, p.holds w ∧ p.own = false ∧ ∀ k, p.fp k → w0.heap.size ≤ k ∨ (al = true ∧ ∃ q ∈ pre, q.fp k)) := by
    refine ⟨hs.defers, v, hres a w hs, g, by rw [hv], hg, hs.hold 0 _ h0, by rw [hcs]; exact hs.hold i _ hi, fun p hp => ?_⟩
    obtain ⟨ho, h | ⟨h1, h2⟩⟩ := hgive.mem p hp
    case inr => exact ⟨h1 w, ho, fun b hb => absurd hb (h2 b)⟩
    obtain ⟨j, it, hj0, hj, himp, hfp, hal⟩ := h
    obtain ⟨hne, hj⟩ := lk_drp _ _ _ _ hj
    refine ⟨himp w (hs.hold j it hj), ho, fun k hk => ?_⟩
    have hk' := hfp k hk
    have hkb : k ≠ b := fun e => by subst e; exact hs.sep i j _ it (Ne.symm hne) hi hj rfl k rfl hk'
    cases al with
    | true =>
      rcases hsc k (hs.scope j it hj0 hj k hk') with h | h | h
      · exact .inl h
      · exact absurd h hkb
      · exact .inr ⟨rfl, h⟩
    | false =>
      have hown := hal rfl
      have hn := hs.sep j 0 it _ hj0 hj h0 hown k hk'
      refine .inl ?_
      rcases Nat.lt_or_ge k w0.heap.size with hlt | hge
      · exact absurd ⟨hlt, hkb⟩ hn
      · exact hge
  rcases he with rfl | rfl
  · exact key
  · exact key
end Go.Sky
/- Method values, struct equality, slices of structs that hold slices. -/
namespace Go.Sky
open Go.RowKit (Below)
set_option linter.unusedVariables false
variable {P : Program} {N : Nat} {sc : Nat → Prop} {env env' : Env} {H H' : Hp} {Q Q' : Exit → Act → World → Prop} {M : Nat → Prop}
theorem d_mkf {o : Oper} {f : FuncId} {xs : List Operand} {vs : List Value} (ho : o.op = .makeFunc (.func f) xs.toArray #[]) (hv : EvL env xs vs) : Det P N sc o env H (.func (.func f) vs.toArray #[]) := fun a w hs => by
  have hm := hv.map hs
  simp [execOp, ho, Instr.makeFunc, hm]
theorem run_execcallv {a : Act} {w : World} (hs : Sat N sc env H a w) {o : Oper} {f : FuncId} {c : Operand} {xs : List Operand} {ats : Array TypeId} {fs vs : List Value} (ho : o.op = .call { callee := .value c, args := xs.toArray, argTypes := ats })
    (hc : ev env c = some (.func (.func f) fs.toArray #[])) (hargs : EvL env xs vs) : (execOp a.eval o).run P w = (callFunc f (fs ++ vs).toArray).run P w := by
  have hm := hargs.map hs
  simp [execOp, ho, resolve, invoke, hs.ev hc, Deferred.ofValue, hm]
theorem t_callbv {o : Oper} {f : FuncId} {c : Operand} {xs : List Operand} {ats : Array TypeId} {d n i b : Nat} {t : TypeId} {cs : Array Value} {fs vs : List Value} {pre : List Pc} {al : Bool} {G : Type} {φ : G → Prop} {val : G → Value} {cs' : G → Array Value} {its : G → List Pc} {w0 : World} {M0 : Nat → Prop}
    (hc : CalB P f (fs ++ vs).toArray pre al b t cs φ val cs' its)
    (ho : o.op = .call { callee := .value c, args := xs.toArray, argTypes := ats }) (hcv : ev env c = some (.func (.func f) fs.toArray #[])) (hd : o.dst = some d) (hN : Nat.blt d N = true)
    (hargs : EvL env xs vs) (hcall : ∀ args w, (callFunc f args).run P w = .ok (.enter f args) w) (hH : lk H i = some (box b t cs)) (hi0 : i ≠ 0) (hpre : PreOk (drp i H) al pre)
    (h0 : lk H 0 = some (keep w0 M0)) (hw : ∀ b, w0.heap.size ≤ b → sc b) (hM : M b) :
    T P N sc M o env H φ (fun g => (d, val g) :: env) (fun g => adds n (its g) ((i, box b t (cs' g)) :: H)) := fun a w hs K Q hK => by
  have hr : (execOp a.eval o).run P w = .ok (.enter f (fs ++ vs).toArray) w := by rw [run_execcallv hs ho hcv hargs, hcall]
  let o2 : Oper := { o with op := .call { callee := .value (.func f), args := ((fs ++ vs).map Operand.const).toArray, argTypes := ats } }
  have hev : ∀ l : List Value, EvL env (l.map Operand.const) l := fun l => by
    induction l with
    | nil => trivial
    | cons v r ih => exact ⟨rfl, ih⟩
  have hr2 : (execOp a.eval o2).run P w = .ok (.enter f (fs ++ vs).toArray) w := by rw [run_execcall hs (o := o2) rfl (hev _), hcall]
  have h2 : o2.wp P a w K Q := t_callb (n := n) (i := i) (M := M) hc (o := o2) rfl hd hN (hev _) hcall hH hi0 hpre h0 hw hM a w hs K Q hK
  unfold Oper.wp at h2 ⊢
  rw [hr2] at h2
  rw [hr]
  exact h2
theorem a_br3 {ops : Array Oper} {ts : List Nat} {listed : Array Bool} {n m : Nat} (i j k : Nat) (hr : ((Region.ready .any ops listed == [i, j, k]) && !(tailed ops ts listed) && !([i, j, k] : List Nat).isEmpty && Nat.beq (n + 1) m) = true)
    (h1 : AAct P N sc M ops ts Q n listed env H i) (h2 : AAct P N sc M ops ts Q n listed env H j) (h3 : AAct P N sc M ops ts Q n listed env H k) : A P N sc M ops ts Q m listed env H := by
  rw [Bool.and_eq_true] at hr
  have h4 := Nat.eq_of_beq_eq_true hr.2
  subst h4
  exact a_br [i, j, k] hr.1 (fun q hq => by
    simp only [List.mem_cons, List.not_mem_nil, or_false] at hq
    rcases hq with rfl | rfl | rfl
    · exact h1
    · exact h2
    · exact h3)
theorem d_eqs0 {o : Oper} {x y : Operand} {t t' : TypeId} {s s0 : ByteArray} (ho : o.op = .binOp .eql t x y t') (hx : ev env x = some (.string s)) (hy : ev env y = some (.string s0)) (h0 : s0.data.toList = []) :
    Det P N sc o env H (.bool (decide (s.size = 0))) := fun a w hs => by
  have h1 : (s.toList == s0.toList) = decide (s.size = 0) := by
    rw [ByteArray.toList_eq, ByteArray.toList_eq, h0]
    have : s.size = s.data.toList.length := rfl
    rw [this]
    cases s.data.toList <;> simp
  simp [execOp, ho, hs.ev hx, hs.ev hy, eqGuard, binOp_string_eql, h1]
/-- two structs compared -/
theorem d_eqg {o : Oper} {op : BinOp} {t t' : TypeId} {x y : Operand} {xs ys : Array Value} {r : Value} (ho : o.op = .binOp op t x y t') (hx : ev env x = some (.agg xs)) (hy : ev env y = some (.agg ys))
    (hm : P.eqGuardType P.depth t = false) (hr : ∀ w, (binOp op t (.agg xs) (.agg ys)).run P w = .ok r w) : Det P N sc o env H r := fun a w hs => by
  have hg := run_eqGuard_agg (P := P) w op t x y xs ys hm
  simp only [execOp, ho, hs.ev hx, hs.ev hy, Sem.run_bind, hg, hr w, Result.andThen_ok, Sem.run_pure]
/-! slices as data -/
abbrev SL := Option Addr × Nat × Nat
abbrev svv (s : SL) : Value := .slice s.1 s.2.1 s.2.2
/-- a slice that is known is a slice -/
theorem f_slice {α : Type} {k : Nat} {enc : α → Value} {v : Value} {xs : List α} {p : Pc} (i : Nat) (hi : lk H i = some p) (hr : Rd p k enc v xs) : ∀ a w, Sat N sc env H a w → ∃ s : SL, v = svv s := fun a w hs => by
  obtain ⟨ad, c, rfl, _⟩ := hr w (hs.hold i p hi)
  exact ⟨(ad, xs.length, c), rfl⟩
theorem l_ex {ops : Array Oper} {rest : List Oper} {α : Type} {p : α → Prop} (hp : ∀ a w, Sat N sc env H a w → ∃ x, p x) (h : ∀ x, p x → L P N sc ops rest Q env H) : L P N sc ops rest Q env H := fun a w hs => by
  obtain ⟨x, hx⟩ := hp a w hs
  exact h x hx a w hs
/-- slices that are only read, one for each element of a list -/
def many {β : Type} (q : β → Pc) (zs : List β) : Pc :=
  { own := false, fp := fun b => ∃ z ∈ zs, (q z).fp b, holds := fun w => ∀ z ∈ zs, (q z).holds w
    lt := fun w b h hb => by obtain ⟨z, hz, hb⟩ := hb; exact (q z).lt w b (h z hz) hb
    stable := fun w w' h hc z hz => (q z).stable w w' (h z hz) ⟨hc.os, hc.tape, hc.output, hc.size, fun k hk hn => hc.block k hk (fun hf => hn (fun hq => hf ⟨z, hz, hq⟩))⟩ }
/-- a slice of elements, and what hangs at each -/
def deep {β : Type} (k : Nat) (enc : β → Value) (q : β → Pc) (v : Value) (zs : List β) : Pc :=
  { own := false, fp := fun b => v.ownBlock = some b ∨ ∃ z ∈ zs, (q z).fp b, holds := fun w => (slp k enc v zs).holds w ∧ (many q zs).holds w
    lt := fun w b h hb => by
      rcases hb with hb | hb
      · exact (slp k enc v zs).lt w b h.1 hb
      · exact (many q zs).lt w b h.2 hb
    stable := fun w w' h hc => ⟨(slp k enc v zs).stable w w' h.1 ⟨hc.os, hc.tape, hc.output, hc.size, fun k hk hn => hc.block k hk (fun hf => hn (fun hq => hf (.inl hq)))⟩,
      (many q zs).stable w w' h.2 ⟨hc.os, hc.tape, hc.output, hc.size, fun k hk hn => hc.block k hk (fun hf => hn (fun hq => hf (.inr hq)))⟩⟩ }
theorem rd_deep {β : Type} {k : Nat} {enc : β → Value} {q : β → Pc} {v : Value} {zs : List β} : Rd (deep k enc q v zs) k enc v zs := fun w h => h.1.1
/-- a piece that is only read, out of one that is there -/
theorem s_sub {p q : Pc} (i j : Nat) (hi : lk H i = some p) (hi0 : Nat.beq i 0 = false) (ho : p.own = false) (hh : ∀ w, p.holds w → q.holds w) (hf : ∀ b, q.fp b → p.fp b) (hq : q.own = false) : ∀ a w, Sat N sc env H a w → Sat N sc env ((j, q) :: H) a w := fun a w hs =>
  hs.add j q (hh w (hs.hold i p hi)) (fun j' jt _ hj hor b hb hb' => by
    rcases hor with hor | hor
    · rw [hq] at hor; cases hor
    · by_cases hij : j' = i
      · subst hij; rw [hi] at hj; cases hj; rw [ho] at hor; cases hor
      · exact hs.sep j' i jt p hij hj hi hor b hb' (hf b hb)) (fun b hb => hs.scope i p (fun e => by subst e; simp at hi0) hi b (hf b hb))
theorem getD_mem {β : Type} {zs : List β} {i : Nat} {d : β} (h : i < zs.length) : zs.getD i d ∈ zs := by
  rw [List.getD_eq_getElem?_getD, List.getElem?_eq_getElem h]; exact List.getElem_mem h
/-- two pieces that are only read, as one -/
theorem s_join {p q r : Pc} (i j n : Nat) (hi : lk H i = some p) (hj : lk H j = some q) (hi0 : Nat.beq i 0 = false) (hj0 : Nat.beq j 0 = false) (ho : p.own = false) (hoq : q.own = false) (hh : ∀ w, p.holds w → q.holds w → r.holds w) (hf : ∀ b, r.fp b → p.fp b ∨ q.fp b) (hr : r.own = false) :
    ∀ a w, Sat N sc env H a w → Sat N sc env ((n, r) :: H) a w := fun a w hs =>
  hs.add n r (hh w (hs.hold i p hi) (hs.hold j q hj)) (fun j' jt _ hj' hor b hb hb' => by
    rcases hor with hor | hor
    · rw [hr] at hor; cases hor
    · rcases hf b hb with h | h
      · by_cases hij : j' = i
        · subst hij; rw [hi] at hj'; cases hj'; rw [ho] at hor; cases hor
        · exact hs.sep j' i jt p hij hj' hi hor b hb' h
      · by_cases hij : j' = j
        · subst hij; rw [hj] at hj'; cases hj'; rw [hoq] at hor; cases hor
        · exact hs.sep j' j jt q hij hj' hj hor b hb' h) (fun b hb => by
    rcases hf b hb with h | h
    · exact hs.scope i p (fun e => by subst e; simp at hi0) hi b h
    · exact hs.scope j q (fun e => by subst e; simp at hj0) hj b h)
theorem s_mkdeep {β : Type} {k : Nat} {enc : β → Value} {q : β → Pc} {v : Value} {zs : List β} (i j n : Nat) (hi : lk H i = some (slp k enc v zs)) (hj : lk H j = some (many q zs)) (hi0 : Nat.beq i 0 = false) (hj0 : Nat.beq j 0 = false) :
    ∀ a w, Sat N sc env H a w → Sat N sc env ((n, deep k enc q v zs) :: H) a w :=
  s_join i j n hi hj hi0 hj0 rfl rfl (fun w h1 h2 => ⟨h1, h2⟩) (fun b hb => hb) rfl
theorem s_many_nil {β : Type} (q : β → Pc) (n : Nat) : ∀ a w, Sat N sc env H a w → Sat N sc env ((n, many q ([] : List β)) :: H) a w := fun a w hs =>
  hs.add n _ (fun z hz => by cases hz) (fun j' jt _ _ hor b hb hb' => by obtain ⟨z, hz, _⟩ := hb; cases hz) (fun b hb => by obtain ⟨z, hz, _⟩ := hb; cases hz)
theorem s_many_snoc {β : Type} {q : β → Pc} {zs : List β} {z : β} (i j n : Nat) (hi : lk H i = some (many q zs)) (hj : lk H j = some (q z)) (hi0 : Nat.beq i 0 = false) (hj0 : Nat.beq j 0 = false) (hq : (q z).own = false) :
    ∀ a w, Sat N sc env H a w → Sat N sc env ((n, many q (zs ++ [z])) :: H) a w :=
  s_join i j n hi hj hi0 hj0 rfl hq (fun w h1 h2 y hy => by
    rcases List.mem_append.1 hy with h | h
    · exact h1 y h
    · rw [List.mem_singleton.1 h]; exact h2) (fun b hb => by
    obtain ⟨y, hy, hb⟩ := hb
    rcases List.mem_append.1 hy with h | h
    · exact .inl ⟨y, h, hb⟩
    · rw [List.mem_singleton.1 h] at hb; exact .inr hb) rfl
end Go.Sky
/- Regions that draw, in which boxes are made and written before all else is done. -/
namespace Go.Sky
open Go.RowKit (Below)
set_option linter.unusedVariables false
variable {P : Program} {N : Nat} {sc : Nat → Prop} {env env' : Env} {H H' : Hp} {Q Q' : Exit → Act → World → Prop} {M : Nat → Prop}
/-- off the pieces ks -/
def Off (H : Hp) (ks : List Nat) : Nat → Prop := fun x => ∀ k ∈ ks, ∀ p, lk H k = some p → ¬ p.fp x
def Agr (H0 H : Hp) : List Nat → Prop
  | [] => True
  | k :: r => lk H k = lk H0 k ∧ Agr H0 H r
theorem Agr.mem {H0 H : Hp} : ∀ {ks : List Nat}, Agr H0 H ks → ∀ k ∈ ks, lk H k = lk H0 k
  | k :: r, h, j, hj => by
    cases hj with
    | head => exact h.1
    | tail _ hj => exact Agr.mem h.2 j hj
def rst (ks : List Nat) : Hp → Hp
  | [] => []
  | (i, p) :: r => cond (ks.any (Nat.beq i)) ((i, p) :: rst ks r) (rst ks r)
theorem lk_rst (ks : List Nat) : ∀ (H : Hp) (i : Nat) (p : Pc), lk (rst ks H) i = some p → i ∈ ks ∧ lk H i = some p
  | [], _, _, h => by cases h
  | (j, q) :: r, i, p, h => by
    unfold rst at h
    cases hb : ks.any (Nat.beq j) with
    | true =>
      rw [hb] at h
      simp only [cond_true] at h
      by_cases hk : j = i
      · subst hk
        rw [lk_same] at h ⊢
        obtain ⟨x, hx, he⟩ := List.any_eq_true.1 hb
        have := Nat.eq_of_beq_eq_true he
        subst this
        exact ⟨hx, h⟩
      · rw [lk_other _ _ hk] at h ⊢
        exact lk_rst ks r i p h
    | false =>
      rw [hb] at h
      simp only [cond_false] at h
      obtain ⟨h1, h2⟩ := lk_rst ks r i p h
      refine ⟨h1, ?_⟩
      have hne : j ≠ i := fun e => by
        subst e
        have : ks.any (Nat.beq j) = true := List.any_eq_true.2 ⟨j, h1, by simp⟩
        rw [hb] at this; cases this
      rw [lk_other _ _ hne]; exact h2
theorem e_dregf {id : Nat} {l : List Oper} (ks : List Nat) (ts : List Nat) (hm : P.follows .mixedOrders = true)
    (h : A P N sc (Off H ks) l.toArray ts Q l.length (Array.replicate l.length false) env H) : E P N sc (.region id l.toArray true) Q env H := e_drega (Off H ks) ts hm h
theorem stf {o : Oper} {v : Value} {H0 : Hp} {ks : List Nat} (hv : Det P N sc o env (rst ks H) v) (ha : Agr H0 H ks) : Stb P N sc (Off H0 ks) o env H v := fun a w hs w' hc => by
  refine hv a w' ⟨hs.size, hs.defers, hs.env, fun i it hi => ?_, fun i j it jt hne hi hj => hs.sep i j it jt hne (lk_rst _ _ _ _ hi).2 (lk_rst _ _ _ _ hj).2, fun i it h0 hi => hs.scope i it h0 (lk_rst _ _ _ _ hi).2⟩
  obtain ⟨hm, hi'⟩ := lk_rst _ _ _ _ hi
  refine it.stable w w' (hs.hold i it hi') ⟨hc.os, hc.tape, hc.output, hc.size, fun q hq hn => hc.block q hq (fun ho => hn (fun hf => ?_))⟩
  exact ho i hm it (by rw [← ha.mem i hm]; exact hi') hf
theorem t_allocf {o : Oper} {t : TypeId} {d i : Nat} {z : Value} {cs : Array Value} {w0 : World} {M0 : Nat → Prop} {H0 : Hp} {ks : List Nat} (ho : o.op = .alloc t) (hd : o.dst = some d) (hN : Nat.blt d N = true)
    (hz : ∀ w, (zeroValue t).run P w = .ok z w) (hc : z.cells = cs) (h0 : lk H 0 = some (keep w0 M0)) (hw : ∀ b, w0.heap.size ≤ b → sc b) (ha : Agr H0 H ks) :
    T P N sc (Off H0 ks) o env H (G := Nat) (fun b => Off H0 ks b) (fun b => (d, .pointer (some ⟨b, 0, none⟩)) :: env) (fun b => (i, box b t cs) :: H) := fun a w hs K Q hK => by
  subst hc
  have hr : (execOp a.eval o).run P w = .ok (.value (.pointer (some ⟨w.heap.size, 0, none⟩))) (w.alloc (.cells z.cells t)) := by
    simp [execOp, ho, Instr.alloc, hz, newVar, newRow]
  unfold Oper.wp
  rw [hr]
  show K (a.put o.dst _) _
  rw [hd]
  exact hK w.heap.size _ _ (fun k hk p hp hf => by
    rw [← ha.mem k hk] at hp
    exact absurd (p.lt w _ (hs.hold k p hp) hf) (Nat.lt_irrefl _)) ((hs.new h0 hw i (box w.heap.size t z.cells) (.cells z.cells t) (heap_alloc_new w _) (fun b hb => hb)).put d _ hN) (Chg.alloc _ _ _)
theorem t_off {o : Oper} {G : Type} {φ : G → Prop} {genv : G → Env} {gH : G → Hp} {H0 : Hp} {ks : List Nat} {b : Nat} {t : TypeId} {cs : Array Value} (i : Nat) (hi : lk H i = some (box b t cs)) (hn : ks.all (fun k => !Nat.beq k i) = true) (ha : Agr H0 H ks)
    (h : Off H0 ks b → T P N sc (Off H0 ks) o env H φ genv gH) : T P N sc (Off H0 ks) o env H φ genv gH := fun a w hs =>
  h (fun k hk p hp hf => by
    rw [← ha.mem k hk] at hp
    have hne : i ≠ k := fun e => by
      subst e
      have := List.all_eq_true.1 hn i hk
      simp at this
    exact hs.sep i k _ p hne hi hp rfl b rfl hf) a w hs
theorem s_eqp {p q : Pc} (i : Nat) (h : p = q) (hi : lk H i = some p) (hi0 : Nat.beq i 0 = false) : ∀ a w, Sat N sc env H a w → Sat N sc env ((i, q) :: H) a w := fun a w hs => by
  subst h
  exact s_conv i hi rfl (fun _ h => h) (fun _ h => h) hi0 a w hs
theorem u_negm {o : Oper} {t : TypeId} {x : Operand} {m r : Int} (ho : o.op = .unOp .neg t x) (hx : ev env x = some (.int .u64 m)) (hr : (-m) % 18446744073709551616 = r) : Det P N sc o env H (.int .u64 r) := fun a w hs => by
  rw [← hr, ← wrap_u]
  simp [execOp, ho, hs.ev hx, Op.unary, Op.intArith]
theorem cv_u64i {o : Oper} {t t' : TypeId} {x : Operand} {k : IntKind} {m r : Int} {ds : TypeDesc} (ho : o.op = .convert t t' x) (hx : ev env x = some (.int k m)) (hs0 : P.underlying t = some ds) (ht : P.underlying t' = some (.int .u64)) (hr : m % 18446744073709551616 = r) :
    Det P N sc o env H (.int .u64 r) := u_conv ho hx hs0 ht (by rw [wrap_u]; exact hr)
theorem Sat.yieldedu {a : Act} {w : World} (h : Sat N sc env H a w) {ops : Array Oper} {j d : Nat} (hj : (ops[j]?).bind (·.dst) = some d) (hd : lk env d = some undef) : Go.yielded ops a.tmps j = none := by
  have h1 := h.env d _ hd
  unfold Go.yielded
  rw [hj]
  simp only [Option.bind_some]
  rw [Array.getD_eq_getD_getElem?] at h1
  cases hx : a.tmps[d]? with
  | none => rfl
  | some v => rw [hx] at h1; simp only [Option.getD_some] at h1; subst h1; rfl
theorem gsku {ops : Array Oper} {rest : List Oper} {d : Nat} {ty : TypeId} {pos : String} {af : Array Edge} {op : Op} {j e : Nat} {b : Bool} (hj : (ops[j]?).bind (·.dst) = some e) (he : lk env e = some undef) (hN : Nat.blt d N = true)
    (h : L P N sc ops rest Q ((d, undef) :: env) H) : L P N sc ops (⟨some d, op, ty, pos, af, some (j, b)⟩ :: rest) Q env H := fun a w hs =>
  wpList_step fun K hK => by
    have hy := hs.yieldedu hj he
    have hw : Region.wanted ⟨some d, op, ty, pos, af, some (j, b)⟩ (yielded ops a.tmps) = false := by simp [Region.wanted, hy]
    rw [hw, if_neg (by simp)]
    exact hK _ _ (h _ _ (hs.put d undef hN))
/-- nothing -/
def nop : Pc := { own := false, fp := fun _ => False, holds := fun _ => True, lt := fun _ _ _ h => h.elim, stable := fun _ _ _ _ => trivial }
/-- a piece gets another number -/
theorem s_move {p : Pc} (i j : Nat) (hi : lk H i = some p) (hi0 : Nat.beq i 0 = false) (hj0 : Nat.beq j 0 = false) (hij : Nat.beq i j = false) : ∀ a w, Sat N sc env H a w → Sat N sc env ((j, p) :: (i, nop) :: H) a w := fun a w hs => by
  have hi0 : i ≠ 0 := fun e => by subst e; simp at hi0
  have hj0 : j ≠ 0 := fun e => by subst e; simp at hj0
  have hij : i ≠ j := fun e => by subst e; simp at hij
  refine ⟨hs.size, hs.defers, hs.env, fun k kt hk => ?_, fun k k' kt kt' hne hk hk' ho b hb hb' => ?_, fun k kt hk0 hk b hb => ?_⟩
  · by_cases h1 : j = k
    · subst h1; rw [lk_same] at hk; cases hk; exact hs.hold i p hi
    · rw [lk_other _ _ h1] at hk
      by_cases h2 : i = k
      · subst h2; rw [lk_same] at hk; cases hk; trivial
      · rw [lk_other _ _ h2] at hk; exact hs.hold k kt hk
  · by_cases h1 : j = k
    · subst h1; rw [lk_same] at hk; cases hk
      rw [lk_other _ _ hne] at hk'
      by_cases h2 : i = k'
      · subst h2; rw [lk_same] at hk'; cases hk'; exact hb'
      · rw [lk_other _ _ h2] at hk'; exact hs.sep i k' p kt' h2 hi hk' ho b hb hb'
    · rw [lk_other _ _ h1] at hk
      by_cases h2 : i = k
      · subst h2; rw [lk_same] at hk; cases hk; cases ho
      · rw [lk_other _ _ h2] at hk
        by_cases h3 : j = k'
        · subst h3; rw [lk_same] at hk'; cases hk'; exact hs.sep k i kt p (Ne.symm h2) hk hi ho b hb hb'
        · rw [lk_other _ _ h3] at hk'
          by_cases h4 : i = k'
          · subst h4; rw [lk_same] at hk'; cases hk'; exact hb'
          · rw [lk_other _ _ h4] at hk'; exact hs.sep k k' kt kt' hne hk hk' ho b hb hb'
  · by_cases h1 : j = k
    · subst h1; rw [lk_same] at hk; cases hk; exact hs.scope i p hi0 hi b hb
    · rw [lk_other _ _ h1] at hk
      by_cases h2 : i = k
      · subst h2; rw [lk_same] at hk; cases hk; exact hb.elim
      · rw [lk_other _ _ h2] at hk; exact hs.scope k kt hk0 hk b hb
theorem fill3 (u0 u1 a0 a1 b0 b1 c0 c1 : Value) : Instr.fill (fun i => some (i * 2, 2)) ((List.range (3 * 2)).map ((Value.agg #[u0, u1]).cells[· % (Value.agg #[u0, u1]).cells.size]!)).toArray [(0, .agg #[a0, a1]), (1, .agg #[b0, b1]), (2, .agg #[c0, c1])] = some #[a0, a1, b0, b1, c0, c1] := by
  simp [Instr.fill, Value.cells, List.range, List.range.loop]
  try rfl
end Go.Sky
namespace Go.Sky
set_option linter.unusedVariables false
theorem sg_dec (x : Int) : sg (decide (x < 0)) x := by
  unfold sg
  simp; omega
theorem bl_iadd (x y : Int) : bl (x + y).natAbs ≤ max (bl x.natAbs) (bl y.natAbs) + 1 :=
  Nat.le_trans (bl_mono (Int.natAbs_add_le x y)) (bl_add _ _)
theorem bl_imul (x y : Int) : bl (x * y).natAbs ≤ bl x.natAbs + bl y.natAbs := by
  rw [Int.natAbs_mul]; exact bl_mul _ _
theorem bl_isub (x y : Int) : bl (x - y).natAbs ≤ max (bl x.natAbs) (bl y.natAbs) + 1 := by
  have := bl_iadd x (-y)
  rwa [Int.natAbs_neg, ← Int.sub_eq_add_neg] at this
theorem bl_neg (x : Int) : bl (-x).natAbs = bl x.natAbs := by rw [Int.natAbs_neg]
theorem bl_idiv (x y : Int) : bl (x / y).natAbs ≤ bl x.natAbs + 1 := by
  have h : (x / y).natAbs ≤ x.natAbs := Int.natAbs_ediv_le_natAbs x y
  have := bl_mono h; omega
theorem bl_imod (x y : Int) (hy : y ≠ 0) : bl (x % y).natAbs ≤ bl y.natAbs := by
  have e0 := Int.emod_nonneg x hy
  have e1 := Int.emod_lt x hy
  exact bl_mono (by omega)
theorem bl_gcd (x y : Nat) : bl (Nat.gcd x y) ≤ max (bl x) (bl y) := by
  rcases Nat.eq_zero_or_pos x with h | h
  · subst h; rw [Nat.gcd_zero_left]; omega
  · have := bl_mono (Nat.le_of_dvd h (Nat.gcd_dvd_left x y)); omega
theorem sg_emod (x : Int) {y : Int} (h : y ≠ 0) : sg false (x % y) := ⟨fun h0 => Bool.noConfusion h0, fun _ => Int.emod_nonneg x h⟩
/-- the divisor that brings a fraction to lowest terms -/
def lgcd (x y : Int) : Int := if y < 0 then -(Int.gcd x y : Int) else (Int.gcd x y : Int)
theorem lgcd_abs (x y : Int) : (lgcd x y).natAbs = Nat.gcd x.natAbs y.natAbs := by
  unfold lgcd; split <;> simp [Int.gcd]
theorem lgcd_ne {x y : Int} (h : y ≠ 0) : lgcd x y ≠ 0 := fun e => by
  have h1 := lgcd_abs x y
  rw [e] at h1
  have := (Nat.gcd_eq_zero_iff.1 h1.symm).2
  omega
theorem sg_lgcd {t : Bool} {x y : Int} (ht : sg t y) (hy : y ≠ 0) : sg t (lgcd x y) := by
  unfold lgcd sg at *
  refine ⟨fun h => ?_, fun h => ?_⟩
  · rw [if_pos (by have := ht.1 h; omega)]; omega
  · rw [if_neg (by have := ht.2 h; omega)]; omega
theorem lgcd_pc (v : Value) (x y : Int) : dgp v (Nat.gcd x.natAbs y.natAbs) = dgp v (lgcd x y).natAbs := by rw [lgcd_abs]
def rfull (x y : Int) : Prop := 65536 < bl (x / lgcd x y).natAbs ∨ 65536 < bl (y / lgcd x y).natAbs
instance (x y : Int) : Decidable (rfull x y) := by unfold rfull; infer_instance
def rnum (x y : Int) : Int := if rfull x y then 0 else x / lgcd x y
def rden (x y : Int) : Int := if rfull x y then 0 else y / lgcd x y
def rerr (x y : Int) : Int := if rfull x y then 7 else 0
abbrev ratioV (x y : Int) : Value := .tuple #[.agg #[.bool (decide (rnum x y < 0)), .string (bstr (rnum x y).natAbs), .bool (decide (rden x y < 0)), .string (bstr (rden x y).natAbs)], .int .i64 (rerr x y)]
theorem ratio_full {x y : Int} (h : rfull x y) : ratioV x y = .tuple #[.agg #[.bool false, .string ⟨#[]⟩, .bool false, .string ⟨#[]⟩], .int .i64 7] := by
  unfold ratioV rnum rden rerr; rw [if_pos h, if_pos h, if_pos h]; rfl
theorem full_ne {x : Int} (h : full x ≠ 0) : 65536 < bl x.natAbs := by
  unfold full at h; split at h
  · assumption
  · exact absurd rfl h
theorem full_eq {x : Int} (h : full x = 0) : bl x.natAbs ≤ 65536 := by
  unfold full at h; split at h
  · omega
  · omega
theorem ratio_ok {x y : Int} (h1 : full (x / lgcd x y) = 0) (h2 : full (y / lgcd x y) = 0) : ratioV x y = .tuple #[.agg #[.bool (decide (clip (x / lgcd x y) < 0)), .string (bstr (clip (x / lgcd x y)).natAbs), .bool (decide (clip (y / lgcd x y) < 0)), .string (bstr (clip (y / lgcd x y)).natAbs)], .int .i64 0] := by
  have h3 : ¬ rfull x y := fun h => by have := full_eq h1; have := full_eq h2; unfold rfull at h; omega
  unfold ratioV rnum rden rerr
  rw [if_neg h3, if_neg h3, if_neg h3, clip_ok (full_eq h1), clip_ok (full_eq h2)]
def okR (b : Bool) (s : ByteArray) (c : Bool) (t : ByteArray) : Bool := okW b s && okW c t && (!c && decide (0 < t.size))
theorem pos_iff (z : Int) : (!decide (z < 0) && decide (0 < (bstr z.natAbs).size)) = decide (0 < z) := by
  rw [Bool.eq_iff_iff, Bool.and_eq_true, bstr_size, decide_eq_true_iff, decide_eq_true_iff]
  have := dg_nil_iff (by omega : 2 ≤ 256) z.natAbs
  simp only [Bool.not_eq_true', decide_eq_false_iff_not]
  omega
theorem sign_pos_iff (z : Int) : decide (0 < z.sign) = decide (0 < z) := by
  rw [decide_eq_decide]
  rcases Int.lt_trichotomy z 0 with h | h | h
  · rw [Int.sign_eq_neg_one_of_neg h]; omega
  · subst h; simp
  · rw [Int.sign_eq_one_of_pos h]; omega
theorem okR_sign {b : Bool} {s : ByteArray} {z : Int} (h1 : okW b s = true) (hz : bl z.natAbs ≤ 65536) : okR b s (decide (z < 0)) (bstr z.natAbs) = decide (0 < z.sign) := by
  unfold okR; rw [h1, okW_wv hz, pos_iff, sign_pos_iff]; rfl
theorem okR_wv {x y : Int} (hx : bl x.natAbs ≤ 65536) (hy : bl y.natAbs ≤ 65536) (hy0 : 0 < y) : okR (decide (x < 0)) (bstr x.natAbs) (decide (y < 0)) (bstr y.natAbs) = true := by
  unfold okR; rw [okW_wv hx, okW_wv hy, pos_iff]; simp [hy0]
end Go.Sky
namespace Go.Sky
open Go.RowKit (Below)
set_option linter.unusedVariables false
/-- all coefficients have at most n bits -/
def Sz (n : Nat) (p : List Int) : Prop := ∀ i, bl (cf p i).natAbs ≤ n
theorem Sz.getD {n : Nat} {p : List Int} (h : Sz n p) (i : Nat) : bl (p.getD i 0).natAbs ≤ n := h i
theorem Sz.mono {n m : Nat} {p : List Int} (h : Sz n p) (hm : n ≤ m) : Sz m p := fun i => Nat.le_trans (h i) hm
theorem Sz.tzl {n : Nat} {p : List Int} (h : Sz n p) : Sz n (tzl p) := fun i => by rw [cf_tzl]; exact h i
theorem Sz.nil (n : Nat) : Sz n [] := fun i => by simp [cf, bl_zero]
theorem Sz.take {n : Nat} {p : List Int} (h : Sz n p) (k : Nat) : Sz n (p.take k) := fun i => by
  rw [cf_take]; split
  · exact h i
  · simp [bl_zero]
theorem Sz.mem {n : Nat} {p : List Int} (h : Sz n p) {x : Int} (hx : x ∈ p) : bl x.natAbs ≤ n := by
  obtain ⟨i, hi, rfl⟩ := List.mem_iff_getElem.1 hx
  have := h i
  rwa [cf_lt hi] at this
theorem Sz.of_mem {n : Nat} {p : List Int} (h : ∀ x ∈ p, bl x.natAbs ≤ n) : Sz n p := fun i => by
  rcases Nat.lt_or_ge i p.length with hi | hi
  · rw [cf_lt hi]; exact h _ (List.getElem_mem hi)
  · rw [cf_ge hi]; simp [bl_zero]
/-- a valid polynomial -/
structure Vp (p : List Int) : Prop where
  sz : Sz 65536 p
  tr : Tr p
  len : p.length ≤ 25
def wr (x : Int) : Bool × ByteArray := (decide (x < 0), bstr x.natAbs)
def okP (r : List (Bool × ByteArray)) : Bool := r.all (fun w => okW w.1 w.2) && (decide (r.length ≤ 25) && (decide (r.length = 0) || decide ((r.getD (r.length - 1) (false, ⟨#[]⟩)).2.size ≠ 0)))
theorem bstr_size0 {x : Int} : (bstr x.natAbs).size = 0 ↔ x = 0 := by
  rw [bstr_size]
  have := dg_nil_iff (by omega : 2 ≤ 256) x.natAbs
  omega
theorem getD_map_wr (xs : List Int) (i : Nat) (h : i < xs.length) : (xs.map wr).getD i (false, ⟨#[]⟩) = wr (cf xs i) := by
  rw [cf_lt h]; simp [List.getD, h]
theorem okP_wr {xs : List Int} (h : Vp xs) : okP (xs.map wr) = true := by
  unfold okP
  rw [Bool.and_eq_true, Bool.and_eq_true, Bool.or_eq_true]
  refine ⟨List.all_eq_true.2 fun w hw => ?_, by simpa using h.len, ?_⟩
  · obtain ⟨x, hx, rfl⟩ := List.mem_map.1 hw
    exact okW_wv (h.sz.mem hx)
  · rcases h.tr with h0 | h0
    · left; simp [h0]
    · right
      have hl : 0 < xs.length := by
        rcases Nat.eq_zero_or_pos xs.length with h1 | h1
        · rw [cf_ge (by omega)] at h0; exact absurd rfl h0
        · exact h1
      rw [List.length_map, getD_map_wr _ _ (by omega)]
      refine decide_eq_true fun he => h0 (bstr_size0.1 he)
theorem okW_list {r : List (Bool × ByteArray)} (h : ∀ w ∈ r, okW w.1 w.2 = true) : ∃ xs : List Int, (∀ x ∈ xs, bl x.natAbs ≤ 65536) ∧ r = xs.map wr := by
  induction r with
  | nil => exact ⟨[], by simp, rfl⟩
  | cons w r ih =>
    obtain ⟨xs, h1, h2⟩ := ih fun u hu => h u (List.mem_cons_of_mem _ hu)
    obtain ⟨x, hx, h3, h4⟩ := okW_ex (h w (List.mem_cons_self ..))
    refine ⟨x :: xs, fun y hy => ?_, ?_⟩
    · rcases List.mem_cons.1 hy with rfl | hy
      · exact hx
      · exact h1 y hy
    · rw [List.map_cons, ← h2, wr, ← h3, ← h4]
theorem takeD_zero {xs : List Int} {k j : Nat} (h : j < k) (h0 : (xs.take k).getD j 0 = 0) : cf xs j = 0 := by rw [getD_take _ _ _ _ h] at h0; exact h0
theorem takeD_ne {xs : List Int} {k j : Nat} (h : j < k) (h0 : ¬ ((xs.take k).getD j 0).sign = 0) : cf xs j ≠ 0 := fun e => h0 (by rw [getD_take _ _ _ _ h]; rw [show xs.getD j 0 = 0 from e]; rfl)
theorem okP_bad {r : List (Bool × ByteArray)} {w : Bool × ByteArray} (hw : w ∈ r) (h : okW w.1 w.2 = false) : okP r = false := by
  unfold okP
  rw [show r.all (fun w => okW w.1 w.2) = false from List.all_eq_false.2 ⟨w, hw, by simp [h]⟩]; rfl
theorem okP_fin {xs : List Int} (h : ∀ x ∈ xs, bl x.natAbs ≤ 65536) : okP (xs.map wr) = (decide (xs.length ≤ 25) && (decide (xs.length = 0) || decide (¬ (xs.getD (xs.length - 1) 0).sign = 0))) := by
  unfold okP
  rw [show (xs.map wr).all (fun w => okW w.1 w.2) = true from List.all_eq_true.2 fun w hw => by
    obtain ⟨x, hx, rfl⟩ := List.mem_map.1 hw
    exact okW_wv (h x hx)]
  rw [List.length_map, Bool.true_and]
  congr 1
  by_cases h0 : xs.length = 0
  · simp [h0]
  · rw [decide_eq_false h0, Bool.false_or, Bool.false_or, getD_map_wr _ _ (by omega)]
    rw [decide_eq_decide, Int.sign_eq_zero_iff_zero]
    exact not_congr bstr_size0
/-- the error that is kept -/
def err (e x : Int) : Int := if e = 0 then full x else e
theorem err_ok {x : Int} (h : bl x.natAbs ≤ 65536) : err 0 x = 0 := by unfold err; rw [if_pos rfl, full_ok h]
/-- the greatest number of bits -/
def msz : List Int → Nat
  | [] => 0
  | x :: r => max (bl x.natAbs) (msz r)
theorem msz_sz (p : List Int) : Sz (msz p) p := by
  refine Sz.of_mem fun x hx => ?_
  induction p with
  | nil => cases hx
  | cons y r ih =>
    rcases List.mem_cons.1 hx with rfl | h
    · simp only [msz]; omega
    · have := ih h; simp only [msz]; omega
theorem msz_le {n : Nat} {p : List Int} (h : Sz n p) : msz p ≤ n := by
  have h2 : ∀ x ∈ p, bl x.natAbs ≤ n := fun x hx => h.mem hx
  clear h
  induction p with
  | nil => exact Nat.zero_le _
  | cons y r ih =>
    have := h2 y (List.mem_cons_self ..)
    have := ih fun x hx => h2 x (List.mem_cons_of_mem _ hx)
    simp only [msz]; omega
theorem msz_snoc (p : List Int) (x : Int) : msz (p ++ [x]) = max (msz p) (bl x.natAbs) := by
  induction p with
  | nil => simp [msz]
  | cons y r ih => simp only [List.cons_append, msz, ih]; omega
variable {P : Program} {N : Nat} {sc : Nat → Prop} {env env' : Env} {H H' : Hp} {Q Q' : Exit → Act → World → Prop} {M : Nat → Prop}
/-- a list of integers, as pairs -/
theorem slp_wr (v : Value) (xs : List Int) (w : World) (h : (slp 2 wv v xs).holds w) : (slp 2 (fun w : Bool × ByteArray => Value.agg #[.bool w.1, .string w.2]) v (xs.map wr)).holds w := by
  obtain ⟨⟨a, c, h0, h1, h2, h3⟩, hb⟩ := h
  refine ⟨⟨a, c, by rw [List.length_map]; exact h0, by rw [List.length_map]; exact h1, h2, ?_⟩, hb⟩
  rcases h3 with h3 | ⟨g, off, h3, h4⟩
  · left; rw [h3]; rfl
  · right
    refine ⟨g, off, h3, fun i x hi j u hu => ?_⟩
    rw [List.getElem?_map] at hi
    cases hx : xs[i]? with
    | none => rw [hx] at hi; cases hi
    | some y => rw [hx] at hi; cases hi; exact h4 i y hx j u hu
theorem slp_wr' (v : Value) (xs : List Int) (w : World) (h : (slp 2 (fun w : Bool × ByteArray => Value.agg #[.bool w.1, .string w.2]) v (xs.map wr)).holds w) : (slp 2 wv v xs).holds w := by
  obtain ⟨⟨a, c, h0, h1, h2, h3⟩, hb⟩ := h
  rw [List.length_map] at h0 h1
  refine ⟨⟨a, c, h0, h1, h2, ?_⟩, hb⟩
  rcases h3 with h3 | ⟨g, off, h3, h4⟩
  · left; simpa using h3
  · right
    refine ⟨g, off, h3, fun i x hi j u hu => ?_⟩
    exact h4 i (wr x) (by rw [List.getElem?_map, hi]; rfl) j u hu
/-- a contract asks for less -/
theorem Cal.imp {f : FuncId} {args : Array Value} {p q : Pc} {pre : List Pc} {al : Bool} {G : Type} {φ : G → Prop} {val : G → Value} {its : G → List Pc} (h : Cal P f args (p :: pre) al φ val its) (hh : ∀ w, q.holds w → p.holds w) (hf : ∀ b, p.fp b → q.fp b) :
    Cal P f args (q :: pre) al φ val its := fun w hp => by
  refine (h w fun r hr => ?_).mono ?_
  · rcases List.mem_cons.1 hr with rfl | hr
    · exact hh w (hp q (List.mem_cons_self ..))
    · exact hp r (List.mem_cons_of_mem _ hr)
  · rintro e w' ⟨g, he, hg, hb, hits⟩
    refine ⟨g, he, hg, hb, fun p' hp' => ?_⟩
    obtain ⟨h1, h2, h3⟩ := hits p' hp'
    refine ⟨h1, h2, fun b hb => ?_⟩
    rcases h3 b hb with h | ⟨h, r, hr, hrb⟩
    · exact .inl h
    · refine .inr ⟨h, ?_⟩
      rcases List.mem_cons.1 hr with rfl | hr
      · exact ⟨q, List.mem_cons_self .., hf b hrb⟩
      · exact ⟨r, List.mem_cons_of_mem _ hr, hrb⟩
end Go.Sky
namespace Go.Sky
set_option linter.unusedVariables false
/-- the first k of n values, then zeros -/
def fill (n k : Nat) (f : Nat → Int) : List Int := mk n fun i => if i < k then f i else 0
theorem length_fill (n k : Nat) (f : Nat → Int) : (fill n k f).length = n := length_mk _ _
theorem fill_set {n k : Nat} {f : Nat → Int} (h : k < n) : (fill n k f).set k (f k) = fill n (k + 1) f := list_ext (by simp [length_fill]) fun i hi => by
  rw [List.length_set, length_fill] at hi
  rw [cf_set _ _ _ _ (by rw [length_fill]; exact h)]
  unfold fill
  rw [cf_mk, cf_mk, if_pos hi, if_pos hi]
  by_cases hk : i = k
  · subst hk; rw [if_pos rfl, if_pos (by omega)]
  · rw [if_neg hk]
    by_cases h2 : i < k
    · rw [if_pos h2, if_pos (by omega)]
    · rw [if_neg h2, if_neg (by omega)]
theorem fill_zero (n : Nat) (f : Nat → Int) : List.replicate n 0 = fill n 0 f := list_ext (by simp [length_fill]) fun i hi => by
  rw [List.length_replicate] at hi
  unfold fill; rw [cf_mk, if_pos hi, if_neg (by omega), cf_lt (by simpa using hi)]; simp
theorem fill_all (n : Nat) (f : Nat → Int) : fill n n f = mk n f := mk_congr fun i hi => by rw [if_pos hi]
theorem mk_map (xs : List Int) (g : Int → Int) : mk xs.length (fun i => g (cf xs i)) = xs.map g := list_ext (by simp [length_mk]) fun i hi => by
  rw [length_mk] at hi
  rw [cf_mk, if_pos hi, cf_lt hi, cf_lt (p := xs.map g) (by simpa using hi)]; simp
theorem mk_sz {n m : Nat} {f : Nat → Int} (h : ∀ i, i < n → bl (f i).natAbs ≤ m) : Sz m (mk n f) := fun i => by
  rw [cf_mk]; split
  · exact h i ‹_›
  · simp [bl_zero]
theorem tr_pder {p : List Int} (h : Tr p) : Tr (pder p) := by
  unfold pder
  rcases Nat.lt_or_ge 1 p.length with h1 | h1
  · right
    rw [length_mk, cf_mk, if_pos (by omega)]
    have h2 := h.mem (by intro e; rw [e] at h1; simp at h1)
    rw [show p.length - 1 - 1 + 1 = p.length - 1 by omega]
    intro h3
    rcases Int.mul_eq_zero.1 h3 with h4 | h4
    · exact h2 h4
    · omega
  · left
    exact List.eq_nil_of_length_eq_zero (by rw [length_mk]; omega)
theorem pscale_mk (xs : List Int) (c : Int) : tzl (fill xs.length xs.length fun i => cf xs i * c) = pscale xs c := by
  rw [fill_all, mk_map xs (· * c)]; rfl
theorem pder_mk {xs : List Int} (h : Tr xs) : tzl (fill (xs.length - 1) (xs.length - 1) fun i => cf xs (i + 1) * ((i : Int) + 1)) = pder xs := by
  rw [fill_all]; exact tzl_tr (tr_pder h)
theorem pder_nil {p : List Int} (h : p.length = 0) : pder p = [] := List.eq_nil_of_length_eq_zero (by unfold pder; rw [length_mk]; omega)
theorem pcont_snoc (p : List Int) (x : Int) : pcont (p ++ [x]) = (Int.gcd (pcont p) x : Int) := by unfold pcont; rw [List.foldl_append]; rfl
theorem pcont_nonneg (p : List Int) : 0 ≤ pcont p := by
  rcases snoc_or p with rfl | ⟨ys, y, rfl⟩
  · exact Int.le_refl _
  · rw [pcont_snoc]; omega
theorem pcont_take_succ {p : List Int} {k : Nat} (h : k < p.length) : pcont (p.take (k + 1)) = (Int.gcd (pcont (p.take k)) (p.getD k 0) : Int) := by rw [take_snoc 0 _ _ h, pcont_snoc]
theorem pcont_bl {n : Nat} : ∀ (p : List Int), Sz n p → bl (pcont p).natAbs ≤ n := fun p => by
  have key : ∀ k, k ≤ p.length → Sz n p → bl (pcont (p.take k)).natAbs ≤ n := by
    intro k
    induction k with
    | zero => intro _ _; rw [List.take_zero]; exact Nat.zero_le _
    | succ k ih =>
      intro hk hs
      rw [pcont_take_succ hk]
      have h1 := ih (by omega) hs
      have h2 := hs k
      have := bl_gcd (pcont (p.take k)).natAbs (p.getD k 0).natAbs
      have h4 : bl (p.getD k 0).natAbs ≤ n := h2
      show bl (Nat.gcd _ _) ≤ n
      omega
  intro hs
  have := key p.length (Nat.le_refl _) hs
  rwa [List.take_length] at this
theorem pcont_dvd (p : List Int) : ∀ i, pcont p ∣ cf p i := by
  have key : ∀ k, k ≤ p.length → ∀ i, i < k → pcont (p.take k) ∣ cf p i := by
    intro k
    induction k with
    | zero => intro _ i hi; omega
    | succ k ih =>
      intro hk i hi
      rw [pcont_take_succ hk]
      rcases Nat.lt_or_ge i k with h | h
      · exact Int.dvd_trans (Int.gcd_dvd_left ..) (ih (by omega) i h)
      · have : i = k := by omega
        subst this
        exact Int.gcd_dvd_right ..
  intro i
  rcases Nat.lt_or_ge i p.length with h | h
  · have := key p.length (Nat.le_refl _) i h
    rwa [List.take_length] at this
  · rw [cf_ge h]; exact Int.dvd_zero _
theorem pcont_zero_iff (p : List Int) : pcont p = 0 ↔ ∀ i, cf p i = 0 := by
  refine ⟨fun h i => by have := pcont_dvd p i; rw [h] at this; exact Int.zero_dvd.1 this, fun h => ?_⟩
  have key : ∀ k, k ≤ p.length → pcont (p.take k) = 0 := by
    intro k
    induction k with
    | zero => intro _; rfl
    | succ k ih =>
      intro hk
      rw [pcont_take_succ hk, ih (by omega)]
      have := h k
      rw [show p.getD k 0 = 0 from this]; rfl
  have := key p.length (Nat.le_refl _)
  rwa [List.take_length] at this
/-- whatever divides all coefficients divides the content -/
theorem dvd_pcont {p : List Int} {d : Int} (h : ∀ i, d ∣ cf p i) : d ∣ pcont p := by
  have key : ∀ k, k ≤ p.length → d ∣ pcont (p.take k) := by
    intro k
    induction k with
    | zero => intro _; exact Int.dvd_zero _
    | succ k ih =>
      intro hk
      rw [pcont_take_succ hk]
      exact Int.dvd_coe_gcd (ih (by omega)) (h k)
  have := key p.length (Nat.le_refl _)
  rwa [List.take_length] at this
theorem cf_pprim (p : List Int) (i : Nat) : cf (pprim p) i = cf p i / pcont p := by
  unfold pprim
  rw [cf_map _ _ (by simp)]
theorem length_pprim (p : List Int) : (pprim p).length = p.length := by simp [pprim]
theorem ediv_bl_le {x y : Int} {n : Nat} (h : y ∣ x) (hx : bl x.natAbs ≤ n) : bl (x / y).natAbs ≤ n := by
  have h1 : (x / y).natAbs ≤ x.natAbs := Int.natAbs_ediv_le_natAbs x y
  exact Nat.le_trans (bl_mono h1) hx
theorem tr_pprim {p : List Int} (h : Tr p) : Tr (pprim p) := by
  rcases h with rfl | h
  · left; rfl
  · right
    rw [cf_pprim, length_pprim]
    intro h0
    have hd := pcont_dvd p (p.length - 1)
    have := Int.mul_ediv_cancel' hd
    rw [h0, Int.mul_zero] at this
    exact h this.symm
theorem sz_pprim {n : Nat} {p : List Int} (h : Sz n p) : Sz n (pprim p) := fun i => by rw [cf_pprim]; exact ediv_bl_le (pcont_dvd p i) (h i)
theorem vp_pprim {p : List Int} (h : Vp p) : Vp (pprim p) := ⟨sz_pprim h.sz, tr_pprim h.tr, by rw [length_pprim]; exact h.len⟩
theorem Vp.ne {p : List Int} (h : Vp p) (h0 : p ≠ []) : pcont p ≠ 0 := fun e => h.tr.mem h0 ((pcont_zero_iff p).1 e _)
/-! values -/
/-- the value of the upper part -/
def hor (p : List Int) (n d : Int) (i : Nat) : Int := sumTo (fun m => cf p (i + m) * (n ^ m * d ^ (p.length - 1 - (i + m)))) (p.length - i)
theorem hor_zero (p : List Int) (n d : Int) : hor p n d 0 = pev p n d := by unfold hor pev; simp only [Nat.zero_add, Nat.sub_zero]
theorem hor_top {p : List Int} (n d : Int) (h : 0 < p.length) : hor p n d (p.length - 1) = cf p (p.length - 1) := by
  unfold hor
  rw [show p.length - (p.length - 1) = 0 + 1 by omega, sumTo_succ, sumTo_zero]
  simp
theorem hor_step {p : List Int} (n d : Int) {i : Nat} (h : i < p.length) : hor p n d i = hor p n d (i + 1) * n + cf p i * d ^ (p.length - 1 - i) := by
  unfold hor
  rw [show p.length - i = p.length - (i + 1) + 1 by omega, sumTo_first]
  rw [← sumTo_mulr]
  have : sumTo (fun m => cf p (i + (m + 1)) * (n ^ (m + 1) * d ^ (p.length - 1 - (i + (m + 1))))) (p.length - (i + 1)) = sumTo (fun m => cf p (i + 1 + m) * (n ^ m * d ^ (p.length - 1 - (i + 1 + m))) * n) (p.length - (i + 1)) :=
    sumTo_congr fun m hm => by rw [show i + (m + 1) = i + 1 + m by omega, Int.pow_succ]; grind
  rw [this]
  simp only [Nat.add_zero, Int.pow_zero, Int.one_mul]
  omega
theorem bl_sum {K : Nat} {f : Nat → Int} : ∀ {n : Nat}, (∀ i, i < n → bl (f i).natAbs ≤ K) → (sumTo f n).natAbs ≤ n * (2 ^ K - 1)
  | 0, _ => by simp [sumTo]
  | n + 1, h => by
    have ih := bl_sum (n := n) fun i hi => h i (by omega)
    have h1 := (bl_le K _).1 (h n (by omega))
    rw [sumTo_succ, Nat.add_mul]
    have := Int.natAbs_add_le (sumTo f n) (f n)
    omega
theorem bl_sum5 {K : Nat} {f : Nat → Int} {n : Nat} (h : ∀ i, i < n → bl (f i).natAbs ≤ K) (hn : n ≤ 31) : bl (sumTo f n).natAbs ≤ K + 5 := by
  rw [bl_le]
  have h1 := bl_sum h
  have h2 : n * (2 ^ K - 1) ≤ 31 * (2 ^ K - 1) := Nat.mul_le_mul_right _ hn
  have h3 : 0 < 2 ^ K := Nat.two_pow_pos K
  rw [Nat.pow_add]
  omega
theorem bl_ipow (x : Int) {m : Nat} (h : bl x.natAbs ≤ m) : ∀ k, 0 < k → bl (x ^ k).natAbs ≤ k * m
  | 0, h0 => by omega
  | 1, _ => by rw [Int.pow_succ, Int.pow_zero, Int.one_mul, Nat.one_mul]; exact h
  | k + 2, _ => by
    have ih := bl_ipow x h (k + 1) (by omega)
    rw [Int.pow_succ, show k + 2 = (k + 1) + 1 from rfl, Nat.add_mul (k + 1) 1 m]
    have := bl_imul (x ^ (k + 1)) x
    omega
theorem bl_one : bl 1 = 1 := by decide
theorem bl_term {a n d : Int} {A m i j : Nat} (ha : bl a.natAbs ≤ A) (hn : bl n.natAbs ≤ m) (hd : bl d.natAbs ≤ m) : bl (a * (n ^ i * d ^ j)).natAbs ≤ A + (i + j) * m := by
  rcases Nat.eq_zero_or_pos i with rfl | hi
  · rcases Nat.eq_zero_or_pos j with rfl | hj
    · simp; exact ha
    · have h1 := bl_ipow d hd j hj
      have h2 := bl_imul a (n ^ 0 * d ^ j)
      rw [Int.pow_zero, Int.one_mul] at h2 ⊢
      rw [Nat.zero_add]; omega
  · rcases Nat.eq_zero_or_pos j with rfl | hj
    · have h1 := bl_ipow n hn i hi
      have h2 := bl_imul a (n ^ i * d ^ 0)
      rw [Int.pow_zero, Int.mul_one] at h2 ⊢
      rw [Nat.add_zero]; omega
    · have h1 := bl_ipow n hn i hi
      have h2 := bl_ipow d hd j hj
      have h3 := bl_imul (n ^ i) (d ^ j)
      have h4 := bl_imul a (n ^ i * d ^ j)
      rw [Nat.add_mul]; omega
theorem bl_hor {p : List Int} {n d : Int} {A m : Nat} (hp : Sz A p) (hn : bl n.natAbs ≤ m) (hd : bl d.natAbs ≤ m) (hl : p.length ≤ 31) (i : Nat) : bl (hor p n d i).natAbs ≤ A + (p.length - 1 - i) * m + 5 := by
  unfold hor
  refine bl_sum5 (fun k hk => ?_) (by omega)
  have h1 := bl_term (i := k) (j := p.length - 1 - (i + k)) (hp (i + k)) hn hd
  rw [show k + (p.length - 1 - (i + k)) = p.length - 1 - i by omega] at h1
  exact h1
/-- the value may be too large -/
def evfull (p : List Int) (n d : Int) : Prop := p ≠ [] ∧ 65536 < msz p + (p.length - 1) * msz [n, d] + 8
instance (p : List Int) (n d : Int) : Decidable (evfull p n d) := by unfold evfull; infer_instance
def evv (p : List Int) (n d : Int) : Int := if evfull p n d then 0 else pev p n d
def eve (p : List Int) (n d : Int) : Int := if evfull p n d then 7 else 0
abbrev wc (x : Int) : Array Value := #[.bool (decide (x < 0)), .string (bstr x.natAbs)]
section
variable {p : List Int} {n d : Int} (hF : msz p + (p.length - 1) * msz [n, d] + 8 ≤ 65536) (hl : p.length ≤ 25)
include hF
theorem ev_in : bl n.natAbs ≤ msz [n, d] ∧ bl d.natAbs ≤ msz [n, d] := by simp only [msz]; omega
theorem ev_pow {k : Nat} : bl (d ^ (p.length - 1 - k)).natAbs ≤ 65536 := by
  rcases Nat.eq_zero_or_pos (p.length - 1 - k) with h | h
  · rw [h, Int.pow_zero]; decide
  · have h1 := bl_ipow d (ev_in hF).2 _ h
    have h2 : (p.length - 1 - k) * msz [n, d] ≤ (p.length - 1) * msz [n, d] := Nat.mul_le_mul_right _ (by omega)
    omega
theorem ev_term {k : Nat} : bl (cf p k * d ^ (p.length - 1 - k)).natAbs ≤ 65536 := by
  have h1 := bl_term (i := 0) (j := p.length - 1 - k) (msz_sz p k) (ev_in hF).1 (ev_in hF).2
  have h2 : (0 + (p.length - 1 - k)) * msz [n, d] ≤ (p.length - 1) * msz [n, d] := Nat.mul_le_mul_right _ (by omega)
  rw [Int.pow_zero, Int.one_mul] at h1
  omega
include hl
theorem ev_hor (k : Nat) : bl (hor p n d k).natAbs ≤ 65536 := by
  have h1 := bl_hor (msz_sz p) (ev_in hF).1 (ev_in hF).2 (by omega) k
  have h2 : (p.length - 1 - k) * msz [n, d] ≤ (p.length - 1) * msz [n, d] := Nat.mul_le_mul_right _ (by omega)
  omega
theorem ev_mul {k : Nat} (h1 : 1 ≤ k) (h2 : k ≤ p.length - 1) : bl (hor p n d k * n).natAbs ≤ 65536 := by
  have h3 := bl_hor (msz_sz p) (ev_in hF).1 (ev_in hF).2 (by omega) k
  have h4 := bl_imul (hor p n d k) n
  have h5 := (ev_in hF).1
  have h6 : (p.length - 1 - k) * msz [n, d] + msz [n, d] ≤ (p.length - 1) * msz [n, d] := by
    rw [← Nat.succ_mul]; exact Nat.mul_le_mul_right _ (by omega)
  omega
end
theorem evv_bl {p : List Int} {n d : Int} (hl : p.length ≤ 25) : bl (evv p n d).natAbs ≤ 65536 := by
  unfold evv
  split
  · decide
  · rename_i h
    rcases Nat.eq_zero_or_pos p.length with h0 | h0
    · rw [List.eq_nil_of_length_eq_zero h0, show pev [] n d = 0 from rfl]; decide
    · rw [← hor_zero]
      have hne : p ≠ [] := fun e => by rw [e] at h0; simp at h0
      exact ev_hor (Nat.le_of_not_lt fun hlt => h ⟨hne, hlt⟩) hl 0
theorem ev_not {p : List Int} {n d : Int} (h : ¬ evfull p n d) (hp : p ≠ []) : msz p + (p.length - 1) * msz [n, d] + 8 ≤ 65536 := Nat.le_of_not_lt fun hlt => h ⟨hp, hlt⟩
theorem ev_pw {p : List Int} {n d : Int} (h : ¬ evfull p n d) : ∀ k, k ≤ p.length - 1 → bl (d ^ k).natAbs ≤ 65536 := fun k hk => by
  rcases Nat.eq_zero_or_pos p.length with h0 | h0
  · obtain rfl : k = 0 := by omega
    rw [Int.pow_zero]; decide
  · have hF := ev_not h (fun e => by rw [e] at h0; simp at h0)
    have := ev_pow hF (k := p.length - 1 - k)
    rwa [show p.length - 1 - (p.length - 1 - k) = k by omega] at this
theorem pow_step (d : Int) {L k : Nat} (h1 : 1 ≤ k) (h2 : k ≤ L) : d ^ (L - k) * d = d ^ (L - (k - 1)) := by
  rw [show L - (k - 1) = L - k + 1 by omega, Int.pow_succ]
theorem hor_step' {p : List Int} (n d : Int) {k : Nat} (h1 : 1 ≤ k) (h2 : k ≤ p.length - 1) : hor p n d k * n + cf p (k - 1) * d ^ (p.length - 1 - (k - 1)) = hor p n d (k - 1) := by
  rw [hor_step n d (i := k - 1) (by omega), show k - 1 + 1 = k by omega]
end Go.Sky
namespace Go.Sky
set_option linter.unusedVariables false
/-! products -/
def acc (p q : List Int) (i t : Nat) : Int := sumTo (fun k => if k ≤ t then cf p k * cf q (t - k) else 0) i
def acc2 (p q : List Int) (i j t : Nat) : Int := acc p q i t + if i ≤ t ∧ t < i + j then cf p i * cf q (t - i) else 0
theorem acc2_zero (p q : List Int) (i : Nat) : acc2 p q i 0 = acc p q i := funext fun t => by
  unfold acc2; rw [if_neg (by omega), Int.add_zero]
theorem acc2_all (p q : List Int) (i : Nat) : acc2 p q i q.length = acc p q (i + 1) := funext fun t => by
  unfold acc2 acc
  rw [sumTo_succ]
  by_cases h : i ≤ t
  · rw [if_pos h]
    by_cases h2 : t < i + q.length
    · rw [if_pos ⟨h, h2⟩]
    · rw [if_neg (fun h => h2 h.2), cf_ge (p := q) (by omega), Int.mul_zero]
  · rw [if_neg h, if_neg (fun h2 => h h2.1)]
theorem mk_set {L k : Nat} {f g : Nat → Int} (hk : k < L) (h : ∀ t, t < L → t ≠ k → f t = g t) (x : Int) (hx : x = g k) : (mk L f).set k x = mk L g := list_ext (by simp [length_mk]) fun t ht => by
  rw [List.length_set, length_mk] at ht
  rw [cf_set _ _ _ _ (by rw [length_mk]; exact hk), cf_mk, cf_mk, if_pos ht]
  by_cases htk : t = k
  · rw [if_pos htk, htk, hx, if_pos hk]
  · rw [if_neg htk, if_pos ht, h t ht htk]
theorem acc2_set {p q : List Int} {L i j : Nat} (h : i + j < L) : (mk L (acc2 p q i j)).set (i + j) (acc2 p q i j (i + j) + cf p i * cf q j) = mk L (acc2 p q i (j + 1)) := by
  refine mk_set h (fun t ht hne => ?_) _ ?_
  · unfold acc2
    by_cases h1 : i ≤ t ∧ t < i + j
    · rw [if_pos h1, if_pos (by omega)]
    · rw [if_neg h1, if_neg (by omega)]
  · unfold acc2
    rw [if_neg (by omega), if_pos (by omega), Int.add_zero, show i + j - i = j by omega]
theorem acc_conv (p q : List Int) (t : Nat) : acc p q p.length t = (ps p * ps q).c t := by
  rw [PS.mul_c]
  unfold acc
  have h1 : sumTo (fun k => if k ≤ t then cf p k * cf q (t - k) else 0) (max (t + 1) p.length) = sumTo (fun k => if k ≤ t then cf p k * cf q (t - k) else 0) p.length :=
    sumTo_ext (by omega) fun k h1 _ => by rw [cf_ge h1, Int.zero_mul]; split <;> rfl
  have h2 : sumTo (fun k => if k ≤ t then cf p k * cf q (t - k) else 0) (max (t + 1) p.length) = sumTo (fun k => if k ≤ t then cf p k * cf q (t - k) else 0) (t + 1) :=
    sumTo_ext (by omega) fun k h1 _ => by rw [if_neg (by omega)]
  rw [← h1, h2]
  exact sumTo_congr fun k hk => by rw [if_pos (by omega)]; rfl
theorem rep_mk (L : Nat) : List.replicate L 0 = mk L fun _ => 0 := by
  rw [fill_zero L fun _ => 0]; unfold fill; exact mk_congr fun i _ => by split <;> rfl
theorem pmul_acc (p q : List Int) : tzl (mk (p.length + q.length - 1) (acc p q p.length)) = pmul p q := by
  unfold pmul; congr 1; exact mk_congr fun i _ => acc_conv p q i
theorem bl_acc2 {p q : List Int} {A B i j t : Nat} (hp : Sz A p) (hq : Sz B q) (hi : i < 31) : bl (acc2 p q i j t).natAbs ≤ A + B + 5 := by
  have h : acc2 p q i j t = sumTo (fun k => if k < i then (if k ≤ t then cf p k * cf q (t - k) else 0) else if i ≤ t ∧ t < i + j then cf p i * cf q (t - i) else 0) (i + 1) := by
    rw [sumTo_succ]
    rw [if_neg (Nat.lt_irrefl i)]
    unfold acc2 acc
    congr 1
    exact sumTo_congr fun k hk => by rw [if_pos hk]
  rw [h]
  have hm : ∀ a b, bl (cf p a * cf q b).natAbs ≤ A + B := fun a b => by have := bl_imul (cf p a) (cf q b); have := hp a; have := hq b; omega
  refine bl_sum5 (fun k hk => ?_) (by omega)
  split
  · split
    · exact hm _ _
    · simp [bl_zero]
  · split
    · exact hm _ _
    · simp [bl_zero]
theorem bl_acc {p q : List Int} {A B i t : Nat} (hp : Sz A p) (hq : Sz B q) (hi : i ≤ 31) : bl (acc p q i t).natAbs ≤ A + B + 5 := by
  refine bl_sum5 (fun k hk => ?_) hi
  split
  · have := bl_imul (cf p k) (cf q (t - k)); have := hp k; have := hq (t - k); omega
  · simp [bl_zero]
def mulfull (p q : List Int) : Prop := p ≠ [] ∧ q ≠ [] ∧ (24 < p.length + q.length - 2 ∨ 65536 < msz p + msz q + 5)
instance (p q : List Int) : Decidable (mulfull p q) := by unfold mulfull; infer_instance
theorem getD_mk {L i : Nat} {f : Nat → Int} (h : i < L) : (mk L f).getD i 0 = f i := by
  have := cf_mk L f i; rw [if_pos h] at this; exact this
/-! division -/
def dlow (p q : List Int) : Bool := decide (q ≠ []) && decide (p.length < q.length)
def derr (p q : List Int) : Int := if q.length = 0 then 3 else if p.length < q.length then 0 else if 65536 < msz p + (p.length - q.length + 1) * (msz q + 1) then 7 else 0
/-- a step of the pseudo-division: the coefficient at top goes -/
def rstep (q r : List Int) (top : Nat) : List Int :=
  mk r.length fun t => cf r t * cf q (q.length - 1) - if top - (q.length - 1) ≤ t ∧ t < top - (q.length - 1) + q.length then cf r top * cf q (t - (top - (q.length - 1))) else 0
def rsteps (p q : List Int) : Nat → List Int
  | 0 => p
  | j + 1 => rstep q (rsteps p q j) (p.length - 1 - j)
theorem length_rstep (q r : List Int) (top : Nat) : (rstep q r top).length = r.length := length_mk _ _
theorem length_rsteps (p q : List Int) : ∀ j, (rsteps p q j).length = p.length
  | 0 => rfl
  | j + 1 => by unfold rsteps; rw [length_rstep, length_rsteps p q j]
def prest (p q : List Int) : List Int := if p.length < q.length then p else tzl (rsteps p q (p.length - q.length + 1))
theorem cf_rstep {q r : List Int} {top t : Nat} (ht : t < r.length) : cf (rstep q r top) t = cf r t * cf q (q.length - 1) - if top - (q.length - 1) ≤ t ∧ t < top - (q.length - 1) + q.length then cf r top * cf q (t - (top - (q.length - 1))) else 0 := by
  unfold rstep; rw [cf_mk, if_pos ht]
theorem bl_step {a b c d : Int} {A B : Nat} (ha : bl a.natAbs ≤ A) (hb : bl b.natAbs ≤ B) (hc : bl c.natAbs ≤ A) (hd : bl d.natAbs ≤ B) : bl (a * b - c * d).natAbs ≤ A + (B + 1) := by
  have h1 := bl_imul a b
  have h2 := bl_imul c d
  have h3 := bl_isub (a * b) (c * d)
  omega
theorem sz_rstep {q r : List Int} {A B : Nat} (hr : Sz A r) (hq : Sz B q) (top : Nat) : Sz (A + (B + 1)) (rstep q r top) := by
  unfold rstep
  refine mk_sz fun t ht => ?_
  split
  · exact bl_step (hr t) (hq _) (hr _) (hq _)
  · rw [Int.sub_zero]
    have := bl_imul (cf r t) (cf q (q.length - 1)); have := hr t; have := hq (q.length - 1); omega
theorem sz_rsteps (p q : List Int) : ∀ j, Sz (msz p + j * (msz q + 1)) (rsteps p q j)
  | 0 => by rw [Nat.zero_mul]; exact msz_sz p
  | j + 1 => by
    unfold rsteps
    rw [Nat.succ_mul, ← Nat.add_assoc]
    exact sz_rstep (sz_rsteps p q j) (msz_sz q) _
/-- exact division, a step: the quotient's coefficient k -/
def dq (q r : List Int) (k : Nat) : Int := cf r (k + q.length - 1) / cf q (q.length - 1)
def dstep (q r : List Int) (k : Nat) : List Int := mk r.length fun t => cf r t - if k ≤ t ∧ t < k + q.length then dq q r k * cf q (t - k) else 0
/-- the rest behind j steps -/
def dsteps (p q : List Int) : Nat → List Int
  | 0 => p
  | j + 1 => dstep q (dsteps p q j) (p.length - q.length - j)
theorem length_dsteps (p q : List Int) : ∀ j, (dsteps p q j).length = p.length
  | 0 => rfl
  | j + 1 => by unfold dsteps dstep; rw [length_mk, length_dsteps p q j]
/-- the quotient's coefficient k, where k = n - m - j -/
def dcoef (p q : List Int) (k : Nat) : Int := dq q (dsteps p q (p.length - q.length - k)) k
def dexact (p q : List Int) (k : Nat) : Prop := cf (dsteps p q (p.length - q.length - k)) (k + q.length - 1) % cf q (q.length - 1) = 0
def pquo (p q : List Int) : List Int := tzl (mk (p.length - q.length + 1) (dcoef p q))
/-- whether the division is exact -/
def pdivs (p q : List Int) : Prop := p = [] ∨ (q.length ≤ p.length ∧ (∀ k, k ≤ p.length - q.length → dexact p q k) ∧ ∀ i, cf (dsteps p q (p.length - q.length + 1)) i = 0)
theorem sz_dstep {q r : List Int} {A B : Nat} (hr : Sz A r) (hq : Sz B q) (k : Nat) (he : cf r (k + q.length - 1) % cf q (q.length - 1) = 0) : Sz (A + (B + 1)) (dstep q r k) := by
  unfold dstep
  refine mk_sz fun t ht => ?_
  split
  · have h1 : bl (dq q r k).natAbs ≤ A := ediv_bl_le (Int.dvd_of_emod_eq_zero he) (hr _)
    have h2 := bl_imul (dq q r k) (cf q (t - k))
    have h3 := bl_isub (cf r t) (dq q r k * cf q (t - k))
    have := hr t; have := hq (t - k); omega
  · rw [Int.sub_zero]; have := hr t; omega
theorem sz_dsteps (p q : List Int) : ∀ j, j ≤ p.length - q.length + 1 → (∀ k, p.length - q.length < k + j → k ≤ p.length - q.length → dexact p q k) → Sz (msz p + j * (msz q + 1)) (dsteps p q j)
  | 0, _, _ => by rw [Nat.zero_mul]; exact msz_sz p
  | j + 1, hj, h => by
    unfold dsteps
    rw [Nat.succ_mul, ← Nat.add_assoc]
    refine sz_dstep (sz_dsteps p q j (by omega) fun k h1 h2 => h k (by omega) h2) (msz_sz q) _ ?_
    have := h (p.length - q.length - j) (by omega) (by omega)
    unfold dexact at this
    rw [show p.length - q.length - (p.length - q.length - j) = j by omega] at this
    exact this
end Go.Sky
namespace Go.Sky
theorem eqW_pair {x y : Bool × ByteArray} (h : eqW x.1 x.2 y.1 y.2 = true) : x = y := by
  obtain ⟨h1, h2⟩ := eqW_iff.1 h
  exact Prod.ext h1 h2
theorem eqW_refl (a : Bool) (s : ByteArray) : eqW a s a s = true := eqW_iff.2 ⟨rfl, rfl⟩
end Go.Sky
namespace Go.Sky
theorem acc2_next (p q : List Int) (i j : Nat) : acc2 p q i (j + 1) (i + j) = acc2 p q i j (i + j) + cf p i * cf q j := by
  unfold acc2
  rw [if_pos (by omega), if_neg (by omega), Int.add_zero, show i + j - i = j by omega]
theorem pmul_nil {p q : List Int} (h : p.length = 0 ∨ q.length = 0) : pmul p q = [] := by
  unfold pmul
  refine (tzl_nil_iff _).2 fun i => ?_
  rw [cf_mk]
  split
  · rw [PS.mul_c]
    refine sumTo_z fun k _ => ?_
    rcases h with h | h
    · rw [ps_c, cf_ge (by omega), Int.zero_mul]
    · rw [ps_c, ps_c, cf_ge (p := q) (by omega), Int.mul_zero]
  · rfl
end Go.Sky
namespace Go.Sky
set_option linter.unusedVariables false
/-! the loops of Rest -/
def mul1 (R : List Int) (l : Int) (i : Nat) : List Int := mk R.length fun t => if t < i then cf R t * l else cf R t
def sub2 (q R : List Int) (l c : Int) (s i : Nat) : List Int := mk R.length fun t => cf R t * l - if s ≤ t ∧ t < s + i then c * cf q (t - s) else 0
theorem length_mul1 (R : List Int) (l : Int) (i : Nat) : (mul1 R l i).length = R.length := length_mk _ _
theorem length_sub2 (q R : List Int) (l c : Int) (s i : Nat) : (sub2 q R l c s i).length = R.length := length_mk _ _
theorem mul1_zero (R : List Int) (l : Int) : mul1 R l 0 = R := by
  unfold mul1
  refine Eq.trans (mk_congr fun i hi => ?_) (mk_self R)
  rw [if_neg (by omega)]
theorem mul1_get {R : List Int} {l : Int} {i : Nat} (h : i < R.length) : (mul1 R l i).getD i 0 = cf R i := by
  unfold mul1; rw [getD_mk h, if_neg (by omega)]
theorem mul1_set {R : List Int} {l : Int} {i : Nat} (h : i < R.length) : (mul1 R l i).set i (cf R i * l) = mul1 R l (i + 1) := by
  unfold mul1
  refine mk_set h (fun t ht hne => ?_) _ (by rw [if_pos (by omega)])
  by_cases h2 : t < i
  · rw [if_pos h2, if_pos (by omega)]
  · rw [if_neg h2, if_neg (by omega)]
theorem sub2_zero (q R : List Int) (l c : Int) (s : Nat) : mul1 R l R.length = sub2 q R l c s 0 := by
  unfold mul1 sub2
  exact mk_congr fun i hi => by rw [if_pos hi, if_neg (by omega), Int.sub_zero]
theorem sub2_get {q R : List Int} {l c : Int} {s i : Nat} (h : s + i < R.length) : (sub2 q R l c s i).getD (s + i) 0 = cf R (s + i) * l := by
  unfold sub2; rw [getD_mk h, if_neg (by omega), Int.sub_zero]
theorem sub2_set {q R : List Int} {l c : Int} {s i : Nat} (h : s + i < R.length) : (sub2 q R l c s i).set (s + i) (cf R (s + i) * l - c * cf q i) = sub2 q R l c s (i + 1) := by
  unfold sub2
  refine mk_set h (fun t ht hne => ?_) _ (by rw [if_pos (by omega), show s + i - s = i by omega])
  by_cases h2 : s ≤ t ∧ t < s + i
  · rw [if_pos h2, if_pos (by omega)]
  · rw [if_neg h2, if_neg (by omega)]
theorem rest_b {p q : List Int} {j : Nat} (hF : msz p + (p.length - q.length + 1) * (msz q + 1) ≤ 65536) (hj : j < p.length - q.length + 1) :
    (∀ t, bl (cf (rsteps p q j) t).natAbs ≤ 65536) ∧ (∀ t i, bl (cf (rsteps p q j) t * cf q i).natAbs ≤ 65536) ∧ (∀ t i t2 i2, bl (cf (rsteps p q j) t * cf q i - cf (rsteps p q j) t2 * cf q i2).natAbs ≤ 65536) := by
  have h1 := sz_rsteps p q j
  have h2 : j * (msz q + 1) + (msz q + 1) ≤ (p.length - q.length + 1) * (msz q + 1) := by rw [← Nat.succ_mul]; exact Nat.mul_le_mul_right _ (by omega)
  refine ⟨fun t => by have := h1 t; omega, fun t i => ?_, fun t i t2 i2 => ?_⟩
  · have := h1 t; have := msz_sz q i; have := bl_imul (cf (rsteps p q j) t) (cf q i); omega
  · have := bl_step (h1 t) (msz_sz q i) (h1 t2) (msz_sz q i2); omega
theorem sz_prest {p q : List Int} (hF : msz p + (p.length - q.length + 1) * (msz q + 1) ≤ 65536) : Sz 65536 (rsteps p q (p.length - q.length + 1)) := (sz_rsteps p q _).mono hF
theorem derr_ok {p q : List Int} (h : derr p q = 0) : q.length ≠ 0 ∧ (q.length ≤ p.length → msz p + (p.length - q.length + 1) * (msz q + 1) ≤ 65536) := by
  unfold derr at h
  split at h
  · omega
  · refine ⟨‹_›, fun hle => ?_⟩
    rw [if_neg (by omega)] at h
    split at h
    · omega
    · omega
theorem dlow_eq {p q : List Int} (h : q.length ≠ 0) : dlow p q = decide (p.length < q.length) := by
  unfold dlow
  have h2 : q ≠ [] := fun e => h (by rw [e]; rfl)
  simp [h2]
/-! the loop of Divide -/
def dsub (q R : List Int) (c : Int) (k i : Nat) : List Int := mk R.length fun t => cf R t - if k ≤ t ∧ t < k + i then c * cf q (t - k) else 0
theorem length_dsub (q R : List Int) (c : Int) (k i : Nat) : (dsub q R c k i).length = R.length := length_mk _ _
theorem dsub_zero (q R : List Int) (c : Int) (k : Nat) : R = dsub q R c k 0 := by
  unfold dsub
  refine Eq.trans (mk_self R).symm (mk_congr fun i hi => ?_)
  rw [if_neg (by omega), Int.sub_zero]
theorem dsub_get {q R : List Int} {c : Int} {k i : Nat} (h : k + i < R.length) : (dsub q R c k i).getD (k + i) 0 = cf R (k + i) := by
  unfold dsub; rw [getD_mk h, if_neg (by omega), Int.sub_zero]
theorem dsub_set {q R : List Int} {c : Int} {k i : Nat} (h : k + i < R.length) : (dsub q R c k i).set (k + i) (cf R (k + i) - c * cf q i) = dsub q R c k (i + 1) := by
  unfold dsub
  refine mk_set h (fun t ht hne => ?_) _ (by rw [if_pos (by omega), show k + i - k = i by omega])
  by_cases h2 : k ≤ t ∧ t < k + i
  · rw [if_pos h2, if_pos (by omega)]
  · rw [if_neg h2, if_neg (by omega)]
/-- the quotient's coefficients from k on -/
def dout (p q : List Int) (j : Nat) : List Int := mk (p.length - q.length + 1) fun t => if p.length - q.length < t + j then dcoef p q t else 0
theorem length_dout (p q : List Int) (j : Nat) : (dout p q j).length = p.length - q.length + 1 := length_mk _ _
theorem dout_zero (p q : List Int) : List.replicate (p.length - q.length + 1) 0 = dout p q 0 := by
  rw [rep_mk]; unfold dout
  exact mk_congr fun i hi => by rw [if_neg (by omega)]
theorem dout_set {p q : List Int} {j : Nat} (hj : j < p.length - q.length + 1) : (dout p q j).set (p.length - q.length - j) (dq q (dsteps p q j) (p.length - q.length - j)) = dout p q (j + 1) := by
  unfold dout
  refine mk_set (by omega) (fun t ht hne => ?_) _ ?_
  · by_cases h2 : p.length - q.length < t + j
    · rw [if_pos h2, if_pos (by omega)]
    · rw [if_neg h2, if_neg (by omega)]
  · rw [if_pos (by omega)]; unfold dcoef; rw [show p.length - q.length - (p.length - q.length - j) = j by omega]
theorem dout_all (p q : List Int) : tzl (dout p q (p.length - q.length + 1)) = pquo p q := by
  unfold dout pquo
  congr 1
  exact mk_congr fun i hi => by rw [if_pos (by omega)]
def pdv (p q : List Int) : Prop := p = [] ∨ (q.length ≤ p.length ∧ (∀ k, k ≤ p.length - q.length → dexact p q k) ∧ tzl (dsteps p q (p.length - q.length + 1)) = [])
instance (p q : List Int) (k : Nat) : Decidable (dexact p q k) := by unfold dexact; infer_instance
instance (p q : List Int) : Decidable (pdv p q) := by unfold pdv; infer_instance
theorem div_b {p q : List Int} {j : Nat} (hF : msz p + (p.length - q.length + 1) * (msz q + 1) ≤ 65536) (hj : j < p.length - q.length + 1) (hx : ∀ k, p.length - q.length < k + j → k ≤ p.length - q.length → dexact p q k) :
    (∀ t, bl (cf (dsteps p q j) t).natAbs ≤ 65536) ∧ (dexact p q (p.length - q.length - j) → bl (dq q (dsteps p q j) (p.length - q.length - j)).natAbs ≤ 65536 ∧ (∀ i, bl (dq q (dsteps p q j) (p.length - q.length - j) * cf q i).natAbs ≤ 65536) ∧
      ∀ t i, bl (cf (dsteps p q j) t - dq q (dsteps p q j) (p.length - q.length - j) * cf q i).natAbs ≤ 65536) := by
  have h1 := sz_dsteps p q j (by omega) hx
  have h2 : j * (msz q + 1) + (msz q + 1) ≤ (p.length - q.length + 1) * (msz q + 1) := by rw [← Nat.succ_mul]; exact Nat.mul_le_mul_right _ (by omega)
  refine ⟨fun t => by have := h1 t; omega, fun he => ?_⟩
  unfold dexact at he
  rw [show p.length - q.length - (p.length - q.length - j) = j by omega] at he
  have h3 : bl (dq q (dsteps p q j) (p.length - q.length - j)).natAbs ≤ msz p + j * (msz q + 1) := ediv_bl_le (Int.dvd_of_emod_eq_zero he) (h1 _)
  have h4 : ∀ i, bl (dq q (dsteps p q j) (p.length - q.length - j) * cf q i).natAbs ≤ msz p + j * (msz q + 1) + msz q := fun i => by
    have := bl_imul (dq q (dsteps p q j) (p.length - q.length - j)) (cf q i); have := msz_sz q i; omega
  refine ⟨by omega, fun i => by have := h4 i; omega, fun t i => ?_⟩
  have := bl_isub (cf (dsteps p q j) t) (dq q (dsteps p q j) (p.length - q.length - j) * cf q i)
  have := h4 i
  have := h1 t
  omega
theorem sz_pquo {p q : List Int} (hF : msz p + (p.length - q.length + 1) * (msz q + 1) ≤ 65536) (hx : ∀ k, k ≤ p.length - q.length → dexact p q k) (j : Nat) : Sz 65536 (dout p q j) := by
  unfold dout
  refine mk_sz fun t ht => ?_
  split
  · have h1 := (div_b hF (j := p.length - q.length - t) (by omega) (fun k _ hk => hx k hk)).2
    rw [show p.length - q.length - (p.length - q.length - t) = t by omega] at h1
    exact (h1 (hx t (by omega))).1
  · simp [bl_zero]
theorem sz_dlast {p q : List Int} (hF : msz p + (p.length - q.length + 1) * (msz q + 1) ≤ 65536) (hx : ∀ k, k ≤ p.length - q.length → dexact p q k) : Sz 65536 (dsteps p q (p.length - q.length + 1)) :=
  (sz_dsteps p q _ (Nat.le_refl _) fun k _ hk => hx k hk).mono hF
/-! composition -/
def chor (p : List Int) (a b d : Int) : Nat → List Int
  | 0 => [cf p (p.length - 1)]
  | j + 1 => mk ((chor p a b d j).length + 1) fun t => cf (chor p a b d j) t * a + (if t = 0 then cf p (p.length - 2 - j) * d ^ (j + 1) else cf (chor p a b d j) (t - 1) * b)
theorem chor_zero (p : List Int) (a b d : Int) : chor p a b d 0 = [cf p (p.length - 1)] := rfl
theorem length_chor (p : List Int) (a b d : Int) : ∀ j, (chor p a b d j).length = j + 1
  | 0 => rfl
  | j + 1 => by unfold chor; rw [length_mk, length_chor p a b d j]
def pcompo (p : List Int) (a b d : Int) : List Int := if p.length = 0 then [] else tzl (chor p a b d (p.length - 1))
def cpfull (p : List Int) (a b d : Int) : Prop := p ≠ [] ∧ 65536 < msz p + (p.length - 1) * (msz [a, b, d] + 1) + 8
instance (p : List Int) (a b d : Int) : Decidable (cpfull p a b d) := by unfold cpfull; infer_instance
end Go.Sky
namespace Go.Sky
def pquoz (p q : List Int) : List Int := if p = [] then [] else pquo p q
theorem pquoz_eq {p q : List Int} (h : p ≠ []) : pquoz p q = pquo p q := if_neg h
theorem dexact_j {p q : List Int} {j : Nat} (hj : j ≤ p.length - q.length) : dexact p q (p.length - q.length - j) ↔ cf (dsteps p q j) (p.length - q.length - j + q.length - 1) % cf q (q.length - 1) = 0 := by
  unfold dexact; rw [show p.length - q.length - (p.length - q.length - j) = j by omega]
theorem clip_mod {x y : Int} (hy : y ≠ 0) (hb : bl y.natAbs ≤ 65536) : clip (x % y) = x % y := clip_ok (Nat.le_trans (bl_imod x y hy) hb)
/-! the loop of Compose -/
def cnx (c : List Int) (a b : Int) (i : Nat) : List Int := mk (c.length + 1) fun t => if t < i then cf c t * a + (if t = 0 then 0 else cf c (t - 1) * b) else if t = i ∧ 0 < i then cf c (t - 1) * b else 0
theorem length_cnx (c : List Int) (a b : Int) (i : Nat) : (cnx c a b i).length = c.length + 1 := length_mk _ _
theorem cnx_zero (c : List Int) (a b : Int) : List.replicate (c.length + 1) 0 = cnx c a b 0 := by
  rw [rep_mk]; unfold cnx
  exact mk_congr fun i hi => by rw [if_neg (by omega), if_neg (by omega)]
theorem cnx_get {c : List Int} {a b : Int} {i : Nat} (h : i < c.length) : (cnx c a b i).getD i 0 = if i = 0 then 0 else cf c (i - 1) * b := by
  unfold cnx
  rw [getD_mk (by omega), if_neg (by omega)]
  by_cases h0 : i = 0
  · rw [if_neg (by omega), if_pos h0]
  · rw [if_pos (by omega), if_neg h0]
theorem cnx_set {c : List Int} {a b : Int} {i : Nat} (h : i < c.length) : ((cnx c a b i).set i ((cnx c a b i).getD i 0 + cf c i * a)).set (i + 1) (cf c i * b) = cnx c a b (i + 1) := list_ext (by simp [length_cnx]) fun t ht => by
  rw [List.length_set, List.length_set, length_cnx] at ht
  rw [cf_set _ _ _ _ (by rw [List.length_set, length_cnx]; omega), cf_set _ _ _ _ (by rw [length_cnx]; omega), cnx_get h]
  unfold cnx
  rw [cf_mk, cf_mk, if_pos ht, if_pos ht]
  by_cases h1 : t = i + 1
  · subst h1; rw [if_pos rfl, if_neg (by omega), if_pos (by omega), show i + 1 - 1 = i by omega]
  · rw [if_neg h1]
    by_cases h2 : t = i
    · subst h2
      rw [if_pos rfl, if_pos (Nat.lt_succ_self t)]
      split <;> omega
    · rw [if_neg h2]
      by_cases h3 : t < i
      · simp [h3, show t < i + 1 by omega]
      · simp [h3, h2, h1, show ¬ t < i + 1 by omega]
theorem cnx_get0 {c : List Int} {a b : Int} (h : 0 < c.length) : (cnx c a b c.length).getD 0 0 = cf c 0 * a := by
  unfold cnx
  rw [getD_mk (by omega), if_pos h, if_pos rfl, Int.add_zero]
theorem cnx_fin {c : List Int} {a b w : Int} (h : 0 < c.length) : (cnx c a b c.length).set 0 ((cnx c a b c.length).getD 0 0 + w) = mk (c.length + 1) fun t => cf c t * a + (if t = 0 then w else cf c (t - 1) * b) := list_ext (by simp [length_cnx, length_mk]) fun t ht => by
  rw [List.length_set, length_cnx] at ht
  rw [cf_set _ _ _ _ (by rw [length_cnx]; omega), cnx_get0 h, cf_mk, if_pos ht]
  unfold cnx
  rw [cf_mk, if_pos ht]
  by_cases h1 : t = 0
  · rw [if_pos h1, if_pos h1, h1]
  · rw [if_neg h1, if_neg h1, if_neg h1]
    by_cases h2 : t < c.length
    · rw [if_pos h2]
    · rw [if_neg h2, if_pos (show t = c.length ∧ 0 < c.length by omega), cf_ge (i := t) (by omega)]; omega
theorem sz_chor {p : List Int} {x y z : Int} {A m : Nat} (hp : Sz A p) (hx : bl x.natAbs ≤ m) (hy : bl y.natAbs ≤ m) (hz : bl z.natAbs ≤ m) : ∀ j, Sz (A + j * (m + 1)) (chor p x y z j)
  | 0 => Sz.of_mem fun w hw => by
    have hw : w ∈ [cf p (p.length - 1)] := hw
    rw [List.mem_singleton.1 hw]; have := hp (p.length - 1); omega
  | j + 1 => by
    have ih := sz_chor hp hx hy hz j
    unfold chor
    refine mk_sz fun t ht => ?_
    have h1 := bl_imul (cf (chor p x y z j) t) x
    have h2 := ih t
    have e : (j + 1) * (m + 1) = j * (m + 1) + m + 1 := by rw [Nat.succ_mul]; omega
    split
    · have h3 := bl_term (i := 0) (j := j + 1) (hp (p.length - 2 - j)) hx hz
      rw [Int.pow_zero, Int.one_mul] at h3
      have h4 : (0 + (j + 1)) * m ≤ j * (m + 1) + m := by rw [Nat.zero_add, Nat.succ_mul]; have : j * m ≤ j * (m + 1) := Nat.mul_le_mul_left _ (by omega); omega
      have h5 := bl_iadd (cf (chor p x y z j) t * x) (cf p (p.length - 2 - j) * z ^ (j + 1))
      omega
    · have h3 := bl_imul (cf (chor p x y z j) (t - 1)) y
      have h4 := ih (t - 1)
      have h5 := bl_iadd (cf (chor p x y z j) t * x) (cf (chor p x y z j) (t - 1) * y)
      omega
section
variable {p : List Int} {x y z : Int} (hF : msz p + (p.length - 1) * (msz [x, y, z] + 1) + 8 ≤ 65536) {j : Nat} (hj : j < p.length - 1)
include hF hj
theorem cp_all : bl (z ^ j).natAbs ≤ 65536 ∧ bl (z ^ (j + 1)).natAbs ≤ 65536 ∧ (∀ t, bl (cf (chor p x y z j) t).natAbs ≤ 65536) ∧ (∀ t, bl (cf (chor p x y z j) t * x).natAbs ≤ 65536) ∧ (∀ t, bl (cf (chor p x y z j) t * y).natAbs ≤ 65536) ∧
    (∀ t, bl ((if t = 0 then 0 else cf (chor p x y z j) (t - 1) * y)).natAbs ≤ 65536) ∧ (∀ t, bl ((if t = 0 then 0 else cf (chor p x y z j) (t - 1) * y) + cf (chor p x y z j) t * x).natAbs ≤ 65536) ∧
    bl (cf p (p.length - 2 - j) * z ^ (j + 1)).natAbs ≤ 65536 ∧ bl (cf (chor p x y z j) 0 * x + cf p (p.length - 2 - j) * z ^ (j + 1)).natAbs ≤ 65536 := by
  have hx : bl x.natAbs ≤ msz [x, y, z] := by simp only [msz]; omega
  have hy : bl y.natAbs ≤ msz [x, y, z] := by simp only [msz]; omega
  have hz : bl z.natAbs ≤ msz [x, y, z] := by simp only [msz]; omega
  have hc := sz_chor (msz_sz p) hx hy hz j
  generalize msz [x, y, z] = m at *
  have e : j * (m + 1) + (m + 1) ≤ (p.length - 1) * (m + 1) := by rw [← Nat.succ_mul]; exact Nat.mul_le_mul_right _ (by omega)
  have hjm : j * m ≤ j * (m + 1) := Nat.mul_le_mul_left _ (by omega)
  have h3 := bl_term (i := 0) (j := j + 1) (msz_sz p (p.length - 2 - j)) hx hz
  rw [Int.pow_zero, Int.one_mul, Nat.zero_add, Nat.succ_mul] at h3
  have hz1 := bl_ipow z hz (j + 1) (by omega)
  rw [Nat.succ_mul] at hz1
  have hp0 : bl (z ^ j).natAbs ≤ 65536 := by
    rcases Nat.eq_zero_or_pos j with h | h
    · rw [h, Int.pow_zero]; decide
    · have := bl_ipow z hz j h; omega
  have g1 : ∀ t, bl (cf (chor p x y z j) t * x).natAbs ≤ msz p + j * (m + 1) + m := fun t => by have := bl_imul (cf (chor p x y z j) t) x; have := hc t; omega
  have g2 : ∀ t, bl (cf (chor p x y z j) t * y).natAbs ≤ msz p + j * (m + 1) + m := fun t => by have := bl_imul (cf (chor p x y z j) t) y; have := hc t; omega
  have g3 : ∀ t, bl ((if t = 0 then 0 else cf (chor p x y z j) (t - 1) * y)).natAbs ≤ msz p + j * (m + 1) + m := fun t => by
    split
    · simp [bl_zero]
    · exact g2 _
  refine ⟨hp0, by omega, fun t => by have := hc t; omega, fun t => by have := g1 t; omega, fun t => by have := g2 t; omega, fun t => by have := g3 t; omega, fun t => ?_, by omega, ?_⟩
  · have := bl_iadd (if t = 0 then 0 else cf (chor p x y z j) (t - 1) * y) (cf (chor p x y z j) t * x)
    have := g1 t; have := g3 t; omega
  · have := bl_iadd (cf (chor p x y z j) 0 * x) (cf p (p.length - 2 - j) * z ^ (j + 1))
    have := g1 0; omega
end
theorem cp_last {p : List Int} {x y z : Int} (hF : msz p + (p.length - 1) * (msz [x, y, z] + 1) + 8 ≤ 65536) : Sz 65536 (chor p x y z (p.length - 1)) := by
  have hx : bl x.natAbs ≤ msz [x, y, z] := by simp only [msz]; omega
  have hy : bl y.natAbs ≤ msz [x, y, z] := by simp only [msz]; omega
  have hz : bl z.natAbs ≤ msz [x, y, z] := by simp only [msz]; omega
  exact (sz_chor (msz_sz p) hx hy hz _).mono (by omega)
/-! the greatest common divisor -/
theorem length_prest_le (p q : List Int) : (prest p q).length ≤ p.length := by
  unfold prest
  split
  · exact Nat.le_refl _
  · have := tzl_le (rsteps p q (p.length - q.length + 1)); rw [length_rsteps] at this; exact this
theorem vp_prest {p q : List Int} (hp : Vp p) (hd : derr p q = 0) : Vp (prest p q) := by
  have hl := length_prest_le p q
  refine ⟨?_, ?_, by have := hp.len; omega⟩
  · unfold prest
    split
    · exact hp.sz
    · exact (sz_prest ((derr_ok hd).2 (by omega))).tzl
  · unfold prest
    split
    · exact hp.tr
    · exact tr_tzl _
def gfull (p q : List Int) : Prop := p.length ≠ 0 ∧ q.length ≠ 0 ∧ 65536 < (max p.length q.length + 2) * (max p.length q.length + 2) * (max (msz p) (msz q) + 8)
instance (p q : List Int) : Decidable (gfull p q) := by unfold gfull; infer_instance
def gA (p q : List Int) : List Int := if p.length < q.length then pprim q else pprim p
def gB (p q : List Int) : List Int := if p.length < q.length then pprim p else pprim q
def eok : Nat → List Int → List Int → Prop
  | 0, _, b => b = []
  | f + 1, a, b => b = [] ∨ (derr a b = 0 ∧ eok f b (pprim (prest a b)))
def eu : Nat → List Int → List Int → List Int
  | 0, a, _ => a
  | f + 1, a, b => if b = [] then a else eu f b (pprim (prest a b))
theorem eok_step {f : Nat} {a b : List Int} (h : eok f a b) (hb : b ≠ []) : ∃ g, f = g + 1 ∧ derr a b = 0 ∧ eok g b (pprim (prest a b)) ∧ eu f a b = eu g b (pprim (prest a b)) := by
  cases f with
  | zero => exact absurd h hb
  | succ g =>
    rcases h with h | h
    · exact absurd h hb
    · exact ⟨g, rfl, h.1, h.2, by show (if b = [] then a else _) = _; rw [if_neg hb]⟩
theorem eu_nil (f : Nat) (a : List Int) : eu f a [] = a := by cases f <;> rfl
def gnorm (g : List Int) : List Int := if g.length ≠ 0 ∧ cf g (g.length - 1) < 0 then pscale g (-1) else g
def pgcd (f : Nat) (p q : List Int) : List Int := gnorm (eu f (gA p q) (gB p q))
theorem vp_gA {p q : List Int} (hp : Vp p) (hq : Vp q) : Vp (gA p q) := by unfold gA; split <;> exact vp_pprim (by assumption)
theorem vp_gB {p q : List Int} (hp : Vp p) (hq : Vp q) : Vp (gB p q) := by unfold gB; split <;> exact vp_pprim (by assumption)
theorem bl_negm {p : List Int} (h : Sz 65536 p) (i : Nat) : bl (cf p i * -1).natAbs ≤ 65536 := by
  rw [Int.mul_neg, Int.mul_one, Int.natAbs_neg]; exact h i
theorem sign_neg_iff (z : Int) : z.sign < 0 ↔ z < 0 := by
  rcases Int.lt_trichotomy z 0 with h | h | h
  · rw [Int.sign_eq_neg_one_of_neg h]; omega
  · subst h; simp
  · rw [Int.sign_eq_one_of_pos h]; omega
end Go.Sky
namespace Go.Sky
theorem sz_ints {l : List Int} (h : ∀ x ∈ l, inI x) : Sz 65536 l := Sz.of_mem fun x hx => by
  obtain ⟨h1, h2⟩ := h x hx
  have : bl x.natAbs ≤ 64 := (bl_le 64 _).2 (by omega)
  omega
end Go.Sky

