/- the law: part 14
   Proved without conditions of its own: each theorem bears its own. -/
import Derived.Test.YtcegclhbeflgbaaGreatSn12
import Derived.Test.YtcegclhbeflgbaaGreatSn02
import Derived.Test.YtcegclhbeflgbaaGreatSn01
import Derived.Test.YtcegclhbeflgbaaGreatSn03
set_option linter.all false
open Go.Proofs
namespace Go.Sky
abbrev RZ := (Bool × ByteArray) × (Bool × ByteArray)
abbrev Q0 : RZ := ((false, ⟨#[]⟩), (false, ⟨#[]⟩))
def qOK (z : RZ) : Bool := okR z.1.1 z.1.2 z.2.1 z.2.2
noncomputable def qx (z : RZ) : Int := if h : okR z.1.1 z.1.2 z.2.1 z.2.2 = true then (okR_ex h).choose else 0
noncomputable def qy (z : RZ) : Int := if h : okR z.1.1 z.1.2 z.2.1 z.2.2 = true then (okR_ex h).choose_spec.choose else 0
theorem q_ok {z : RZ} (h : qOK z = true) : bl (qx z).natAbs ≤ 65536 ∧ bl (qy z).natAbs ≤ 65536 ∧ 0 < qy z ∧ z = ((decide (qx z < 0), bstr (qx z).natAbs), (decide (qy z < 0), bstr (qy z).natAbs)) := by
  have h' : okR z.1.1 z.1.2 z.2.1 z.2.2 = true := h
  unfold qx qy
  rw [dif_pos h', dif_pos h']
  obtain ⟨h1, h2, h3, e1, e2, e3, e4⟩ := (okR_ex h').choose_spec.choose_spec
  exact ⟨h1, h2, h3, Prod.ext (Prod.ext e1 e2) (Prod.ext e3 e4)⟩
theorem okR_w {b c : Bool} {s t : ByteArray} (h : okR b s c t = true) : okW b s = true ∧ okW c t = true := by
  unfold okR at h; simp only [Bool.and_eq_true] at h; exact ⟨h.1.1, h.1.2⟩
theorem okP_no {r : RWL} {z1 z2 : RZ} (h : (okP r && qOK z1 && qOK z2) = false) (h1 : qOK ([z1, z2].getD 0 Q0) = true) (h2 : qOK ([z1, z2].getD 1 Q0) = true) : okP r = false := by
  have h1 : qOK z1 = true := h1
  have h2 : qOK z2 = true := h2
  rw [h1, h2, Bool.and_true, Bool.and_true] at h; exact h
noncomputable def firstR (r : RWL) (z1 z2 : RZ) : Int := if (okP r && qOK z1 && qOK z2) = true then firstE r (qx z1) (qy z1) (qx z2) (qy z2) else 2
noncomputable def cN (r : RWL) (z1 z2 : RZ) : Int := if firstR r z1 z2 = 0 then cnt 12 (dec r) (qx z1) (qy z1) - cnt 12 (dec r) (qx z2) (qy z2) else 0
noncomputable def tN (r : RWL) : Int := if firstE r 0 1 0 1 = 0 then sleft 12 (dec r) - sright 12 (dec r) else 0
theorem tN_ok {r : RWL} (h : firstE r 0 1 0 1 = 0) : tN r = sleft 12 (dec r) - sright 12 (dec r) := if_pos h
theorem tN_no {r : RWL} (h : firstE r 0 1 0 1 ≠ 0) : tN r = 0 := if_neg h
theorem cN_no {r : RWL} {z1 z2 : RZ} (h : firstR r z1 z2 ≠ 0) : cN r z1 z2 = 0 := if_neg h
theorem firstE_iff (r : RWL) (x y x2 y2 : Int) : firstE r x y x2 y2 = 0 ↔ okP r = true ∧ r.length ≠ 0 ∧ ¬ 0 < x * y2 - x2 * y := by
  unfold firstE
  by_cases h : okP r = true
  · rw [if_pos h]
    by_cases h2 : r.length = 0 ∨ 0 < x * y2 - x2 * y
    · rw [if_pos h2]
      constructor
      · intro h9; exact absurd h9 (by decide)
      · intro ⟨_, a, b⟩; rcases h2 with h2 | h2
        · exact absurd h2 a
        · exact absurd h2 b
    · rw [if_neg h2]
      exact ⟨fun _ => ⟨h, fun a => h2 (.inl a), fun a => h2 (.inr a)⟩, fun _ => rfl⟩
  · rw [if_neg h]
    exact ⟨fun h9 => absurd h9 (by decide), fun h9 => absurd h9.1 h⟩
theorem firstR_ne {r : RWL} {z1 z2 : RZ} (h : firstE r 0 1 0 1 ≠ 0) : firstR r z1 z2 ≠ 0 := by
  unfold firstR
  split
  · intro h9
    obtain ⟨a, b, _⟩ := (firstE_iff _ _ _ _ _).1 h9
    exact h ((firstE_iff _ _ _ _ _).2 ⟨a, b, by decide⟩)
  · decide
def endR (z : RZ) : Bool := decide (z.1.2.size ≤ 8) && decide (z.2.2.size ≤ 8)
theorem wide_len_raw (b : Bool) (s : ByteArray) (h : okW b s = true) : Cal Tryz.prog 99 #[.agg #[.bool b, .string s]] [] false (G := Nat) (fun r => r ≤ 65536) (fun r => .int .i64 (r : Int)) (fun _ => []) := by
  obtain ⟨x, hx, rfl, rfl⟩ := okW_ex h
  exact fun w hp => (wide_len x hx w hp).mono fun e w' ⟨_, he, _, hb, hi⟩ => ⟨bl x.natAbs, he, hx, hb, hi⟩
theorem law_first_any (v : Value) (r : RWL) (x y x2 y2 : Int) (hx : bl x.natAbs ≤ 65536) (hy : bl y.natAbs ≤ 65536) (hx2 : bl x2.natAbs ≤ 65536) (hy2 : bl y2.natAbs ≤ 65536) (hp : 0 < y) (hp2 : 0 < y2) : Cal Tryz.prog 21 #[v, .agg #[.bool (decide (x < 0)), .string (bstr x.natAbs), .bool (decide (y < 0)), .string (bstr y.natAbs)], .agg #[.bool (decide (x2 < 0)), .string (bstr x2.natAbs), .bool (decide (y2 < 0)), .string (bstr y2.natAbs)]] [slp 2 encW v r] false (G := Unit) (fun _ => True) (fun _ => .int .i64 (firstE r x y x2 y2)) (fun _ => []) := by
  cases hb : okP r with
  | false => exact law_first_bad v r x y x2 y2 hx hy hx2 hy2 hp hp2 hb
  | true =>
    by_cases h0 : r.length = 0
    · exact law_first_nil v r x y x2 y2 hx hy hx2 hy2 hp hp2 hb h0
    · exact law_first v r x y x2 y2 hx hy hx2 hy2 hp hp2 hb h0
theorem notf {b : Bool} (h : (!b) = false) : b = true := by cases b <;> simp_all
theorem endR_1 {z : RZ} (h : ¬ ((z.1.2.size : Int) ≤ 8)) : endR z = false := by unfold endR; rw [decide_eq_false (by omega), Bool.false_and]
theorem endR_2 {z : RZ} (h : (z.1.2.size : Int) ≤ 8) : endR z = decide ((z.2.2.size : Int) ≤ 8) := by unfold endR; rw [decide_eq_true (by omega), Bool.true_and]; exact decide_eq_decide.2 (by omega)
end Go.Sky
namespace Go.Sky
open Go.Proofs
set_option maxRecDepth 20000
set_option maxHeartbeats 4000000
set_option linter.unusedVariables false
set_option linter.unusedSimpArgs false
theorem st_check2_bad (v : Value) (r : List (Bool × ByteArray)) (u : Value) (z1 z2 : (Bool × ByteArray) × (Bool × ByteArray)) (hbad : (okP r && qOK z1 && qOK z2) = false) : Cal Tryz.prog 51 #[v, u] [slp 2 encW v r, slp 4 encQ u [z1, z2]] false (G := Unit) (fun _ => True) (fun _ => .int .i64 2) (fun _ => []) := by
 refine cal_in Tryz.func51 J Tryz.ntmps51 J ⟨J, J, trivial⟩ ?_
 intro w0 sc hw hsc
 simp only [enumEnv, enumPre]
 have hll : ([z1, z2] : List ((Bool × ByteArray) × (Bool × ByteArray))).length = 2 := rfl
 refine e_imp (s_nil 999 2 28 wv) <|e_imp (s_pub 999 J J pV) <|e_seq <|e_reg <|as_ J J <|l_nil <|x_then <|e_seq <|e_reg <|mv J J <|tt (t_call (n := 2) (st_fits_any _ _) J J J ⟨J, trivial⟩ cF14 (pre_same 1 J J J pre_nil) J hw) J fun _ _ => dt (d_notb J J) J <|as_ J J <|l_nil <|x_then <|e_seq <|e_seq <|e_reg <|mv J J <|dt (d_len J J (i := 2) J rd_slp uT87) J <|mv J J <|l_nil <|x_then <|e_block <|e_lp [(0, _), (1, _), (13, _), (14, _)] [(0, _), (1, _), (2, _), (999, _)] (fun (q : Nat × Bool) => [(15, .int .i64 (q.1 : Int)), (5, .bool q.2)]) (fun (q : Nat × Bool) => []) (fun (q : Nat × Bool) => (q.1 ≤ 2) ∧ (∀ k, k < q.1 → qOK ([z1, z2].getD k Q0) = true)) (fun (q : Nat × Bool) => 2 - q.1) (0, _) ⟨by first | omega | (dsimp only <;> omega), fun k hk => absurd hk (Nat.not_lt_zero k)⟩ ⟨J, J, J, J, J, J, trivial⟩ ⟨J, J, J, J, trivial⟩ ?_
 rintro ⟨i, fl⟩ ⟨hi, hk⟩
 dsimp only at hi hk
 simp only [List.cons_append, List.nil_append]
 refine e_seq <|e_reg <|dt (d_lss J J J) J <|l_nil <|x_then <|e_seq <|e_cond J (fun h30 => ?_) (fun h30 => ?_)
 ·refine e_skip <|x_then <|e_seq <|e_block <|e_seq <|e_reg <|dt (d_ixa (ii := 2) J J J J rd_slp uT87 zT49 J (by first | omega | (simp only [List.length_set]; omega))) J <|dt (d_lde (ii := 2) ((false, ⟨#[]⟩), (false, ⟨#[]⟩)) J J J rd_slp pR (by first | omega | (simp only [List.length_set]; omega))) J <|tt (t_alloc (i := 3) J J J Tryz.zeroValue49 J J hw) J fun bx _ => tt (t_stw (i := 3) J J J J J (by decide) J zT49 J J ⟨(one_rfl J), (one_rfl J), (one_rfl J), (one_rfl J), trivial⟩ J hw trivial) J fun _ _ => l_nil <|x_then <|e_seq <|e_seq <|e_reg <|dt (d_lb4 (i := 3) J J J iA49 zT49 J J J J) J <|tt (t_call (n := 3) (wide_validratio _ _ _ _) J J J ⟨J, trivial⟩ cF98 pre_nil J hw) J fun _ _ => dt (d_notb J J) J <|l_nil <|x_then <|e_condb J (fun h31 => ?_) (fun h31 => ?_)
  ·exact e_seq <|e_reg <|as_ J J <|l_nil <|x_then <|e_ret <|x_ret <|x_br <|x_ret <|x_ret <|x_br <|x_ret <|x_end (.inl J) hsc () _ (fun a w hs => res1 hs Tryz.results51 J) J trivial J give_nil
  ·refine e_skip <|x_then ?_
   have hq := notf h31
   refine e_reg <|mv J J <|mv J J <|l_splitb (d := 23) J (fun s34 => ?_) (fun s34 => ?_)
   ·exact gsk J J J J J <|gsk J J J J J <|gsk J J J J J <|gsk J J J J J <|dt (d_pickt J J J) J <|mv J J <|gsk J J J J J <|gsk J J J J J <|gsk J J J J J <|gsk J J J J J <|dt (d_pickt J J J) J <|as_ J J <|l_nil <|x_bn <|x_then <|e_reg <|dt (d_add J J J ⟨by omega, by omega⟩) J <|mv J J <|l_nil <|x_rnd (i + 1, _) ⟨by first | omega | (dsimp only <;> omega), fun k hk2 => by rcases Nat.lt_succ_iff_lt_or_eq.1 hk2 with h9 | h9; exact hk k h9; subst h9; exact hq⟩ (by first | omega | (dsimp only <;> omega)) ⟨J, J, J, J, J, J, trivial⟩ ⟨J, J, J, J, trivial⟩
   ·refine gdt (d_fa J J uT49 J zT28 J J) J J J J <|gdt (d_lb2 (i := 3) J J J iA28 zT28 J J) J J J J <|gtt (t_call (n := 3) (wide_len_raw _ _ (okR_w hq).1) J J J ⟨J, trivial⟩ cF99 pre_nil J hw) J J J J fun ln hln => gdt (d_gtr J J J) J J J J <|dt (d_pickf J J J) J <|mv J J <|l_split (d := 29) J (fun s34_2 => ?_) (fun s34_2 => ?_)
    ·exact gsk J J J J J <|gsk J J J J J <|gsk J J J J J <|gsk J J J J J <|dt (d_pickt J J J) J <|as_ J J <|l_nil <|x_bn <|x_then <|e_reg <|dt (d_add J J J ⟨by omega, by omega⟩) J <|mv J J <|l_nil <|x_rnd (i + 1, _) ⟨by first | omega | (dsimp only <;> omega), fun k hk2 => by rcases Nat.lt_succ_iff_lt_or_eq.1 hk2 with h9 | h9; exact hk k h9; subst h9; exact hq⟩ (by first | omega | (dsimp only <;> omega)) ⟨J, J, J, J, J, J, trivial⟩ ⟨J, J, J, J, trivial⟩
    ·exact gdt (d_fa J J uT49 J zT28 J J) J J J J <|gdt (d_lb2 (i := 3) J J J iA28 zT28 J J) J J J J <|gtt (t_call (n := 3) (wide_len_raw _ _ (okR_w hq).2) J J J ⟨J, trivial⟩ cF99 pre_nil J hw) J J J J fun ln_2 hln_2 => gdt (d_gtr J J J) J J J J <|dt (d_pickf J J J) J <|as_ J J <|l_nil <|x_bn <|x_then <|e_reg <|dt (d_add J J J ⟨by omega, by omega⟩) J <|mv J J <|l_nil <|x_rnd (i + 1, _) ⟨by first | omega | (dsimp only <;> omega), fun k hk2 => by rcases Nat.lt_succ_iff_lt_or_eq.1 hk2 with h9 | h9; exact hk k h9; subst h9; exact hq⟩ (by first | omega | (dsimp only <;> omega)) ⟨J, J, J, J, J, J, trivial⟩ ⟨J, J, J, J, trivial⟩
 ·refine e_exit <|x_exit <|x_exit <|x_be <|x_then <|e_seq <|e_seq ?_
  obtain rfl : i = 2 := by omega
  have hno : okP r = false := okP_no hbad (hk 0 (by omega)) (hk 1 (by omega))
  exact e_reg <|mv J J <|tt (t_call (n := 3) (poly_valid _ _) J J J ⟨J, trivial⟩ cF56 (pre_same 1 J J J pre_nil) J hw) J fun _ _ => dt (det_is (r' := .bool true) (d_notb J J) (congrArg Value.bool (by rw [hno]; rfl))) J <|l_nil <|x_then <|e_condt J <|e_seq <|e_reg <|as_ J J <|l_nil <|x_then <|e_ret <|x_ret <|x_end (.inl J) hsc () _ (fun a w hs => res1 hs Tryz.results51 J) J trivial J give_nil
theorem st_count_bad (v : Value) (r : List (Bool × ByteArray)) (z1 z2 : (Bool × ByteArray) × (Bool × ByteArray)) (hbad : (okP r && qOK z1 && qOK z2) = false) : Cal Tryz.prog 28 #[v, .agg #[.bool z1.1.1, .string z1.1.2, .bool z1.2.1, .string z1.2.2], .agg #[.bool z2.1.1, .string z2.1.2, .bool z2.2.1, .string z2.2.2]] [slp 2 encW v r] false (G := Unit) (fun _ => True) (fun _ => .tuple #[.int .i64 0, .int .i64 2]) (fun _ => []) := by
 refine cal_in Tryz.func28 J Tryz.ntmps28 J ⟨J, trivial⟩ ?_
 intro w0 sc hw hsc
 simp only [enumEnv, enumPre]
 exact e_imp (s_nil 999 2 28 wv) <|e_imp (s_pub 999 J J pV) <|e_seq <|e_reg <|tt (t_box (i := 2) J J J J J J hw) J fun bx _ => tt (t_box (i := 3) J J J J J J hw) J fun bx_2 _ => as_ J J <|as_ J J <|l_nil <|x_then <|e_seq <|e_seq <|e_reg <|mv J J <|dt (d_lb4 (i := 2) J J J iA49 zT49 J J J J) J <|dt (d_lb4 (i := 3) J J J iA49 zT49 J J J J) J <|tt (t_bsg (i := 4) (ivs := [(0, _), (1, _)]) (enc := encQ) [z1, z2] J J J ⟨J, J, J, J, trivial⟩ uT87 Tryz.ti49 J J J (fill24 _ _ _ _ _ _ _ _ _ _ _ _) J J pR.cells J J hw) J fun v _ => tt (t_call (n := 4) (st_check2_bad _ _ _ z1 z2 hbad) J J J ⟨J, J, trivial⟩ cF51 (pre_same 1 J J J (pre_lend 4 J J pR pre_nil)) J hw) J fun _ _ => as_ J J <|l_nil <|x_then <|e_seq <|e_reg <|mv J J <|dt (det_is (r' := .bool true) (d_neq J J J) (congrArg Value.bool (by decide))) J <|l_nil <|x_then <|e_condt J <|e_seq <|e_reg <|mv J J <|as_ J J <|as_ J J <|l_nil <|x_then <|e_ret <|x_ret <|x_end (.inl J) hsc () _ (fun a w hs => res2 hs Tryz.results28 J J) J trivial J give_nil
theorem law_end (z : (Bool × ByteArray) × (Bool × ByteArray)) : Cal Tryz.prog 27 #[.agg #[.bool z.1.1, .string z.1.2, .bool z.2.1, .string z.2.2]] [] false (G := Unit) (fun _ => True) (fun _ => .bool (endR z)) (fun _ => []) := by
 refine cal_in Tryz.func27 J Tryz.ntmps27 J trivial ?_
 intro w0 sc hw hsc
 simp only [enumEnv, enumPre]
 refine e_seq <|e_reg <|tt (t_box (i := 1) J J J J J J hw) J fun b _ => as_ J J <|l_nil <|x_then <|e_seq <|e_reg <|dt (d_fa J J uT49 J zT28 J J) J <|dt (d_fa J J uT28 J zT9 J J) J <|dt (d_lb (i := 1) J J J iA9 J) J <|dt (d_lens J J uT9) J <|dt (d_leq J J J) J <|mv J J <|l_split (d := 8) J (fun s78 => ?_) (fun s78 => ?_)
 ·exact gdt (d_fa J J uT49 J zT28 J J) J J J J <|gdt (d_fa J J uT28 J zT9 J J) J J J J <|gdt (d_lb (i := 1) J J J iA9 J) J J J J <|gdt (d_lens J J uT9) J J J J <|gdt (d_leq J J J) J J J J <|dt (d_pickt J J J) J <|as_ J J <|l_nil <|x_then <|e_ret <|x_end (.inl J) hsc () _ (fun a w hs => res1 hs Tryz.results27 J) (by first | rw [endR_1 (by assumption)] | rw [endR_2 (by assumption)]) trivial J give_nil
 ·exact gsk J J J J J <|gsk J J J J J <|gsk J J J J J <|gsk J J J J J <|gsk J J J J J <|dt (d_pickf J J J) J <|as_ J J <|l_nil <|x_then <|e_ret <|x_end (.inl J) hsc () _ (fun a w hs => res1 hs Tryz.results27 J) (by first | rw [endR_1 (by assumption)] | rw [endR_2 (by assumption)]) trivial J give_nil
theorem law_first_r1 (v : Value) (r : List (Bool × ByteArray)) (z1 z2 : (Bool × ByteArray) × (Bool × ByteArray)) (hb : okP r = false) : Cal Tryz.prog 21 #[v, .agg #[.bool z1.1.1, .string z1.1.2, .bool z1.2.1, .string z1.2.2], .agg #[.bool z2.1.1, .string z2.1.2, .bool z2.2.1, .string z2.2.2]] [slp 2 encW v r] false (G := Unit) (fun _ => True) (fun _ => .int .i64 2) (fun _ => []) := by
 refine cal_in Tryz.func21 J Tryz.ntmps21 J ⟨J, trivial⟩ ?_
 intro w0 sc hw hsc
 simp only [enumEnv, enumPre]
 exact e_seq <|e_reg <|tt (t_box (i := 2) J J J J J J hw) J fun b _ => tt (t_box (i := 3) J J J J J J hw) J fun b_2 _ => as_ J J <|l_nil <|x_then <|e_seq <|e_seq <|e_reg <|mv J J <|tt (t_call (n := 3) (rp_valid _ _) J J J ⟨J, trivial⟩ cF13 (pre_same 1 J J J pre_nil) J hw) J fun _ _ => dt (det_is (r' := .bool true) (d_notb J J) (congrArg Value.bool (by rw [hb]; rfl))) J <|mv J J <|gsk J J J J J <|gsk J J J J J <|gsk J J J J J <|dt (d_pickt J J J) J <|mv J J <|gsk J J J J J <|gsk J J J J J <|gsk J J J J J <|dt (d_pickt J J J) J <|l_nil <|x_then <|e_condt J <|e_seq <|e_reg <|as_ J J <|l_nil <|x_then <|e_ret <|x_ret <|x_end (.inl J) hsc () _ (fun a w hs => res1 hs Tryz.results21 J) J trivial J give_nil
theorem law_first_r2 (v : Value) (r : List (Bool × ByteArray)) (z1 z2 : (Bool × ByteArray) × (Bool × ByteArray)) (hok : okP r = true) (hq : okR z1.1.1 z1.1.2 z1.2.1 z1.2.2 = false) : Cal Tryz.prog 21 #[v, .agg #[.bool z1.1.1, .string z1.1.2, .bool z1.2.1, .string z1.2.2], .agg #[.bool z2.1.1, .string z2.1.2, .bool z2.2.1, .string z2.2.2]] [slp 2 encW v r] false (G := Unit) (fun _ => True) (fun _ => .int .i64 2) (fun _ => []) := by
 refine cal_in Tryz.func21 J Tryz.ntmps21 J ⟨J, trivial⟩ ?_
 intro w0 sc hw hsc
 simp only [enumEnv, enumPre]
 exact e_seq <|e_reg <|tt (t_box (i := 2) J J J J J J hw) J fun b _ => tt (t_box (i := 3) J J J J J J hw) J fun b_2 _ => as_ J J <|l_nil <|x_then <|e_seq <|e_seq <|e_reg <|mv J J <|tt (t_call (n := 3) (rp_valid _ _) J J J ⟨J, trivial⟩ cF13 (pre_same 1 J J J pre_nil) J hw) J fun _ _ => dt (det_is (r' := .bool false) (d_notb J J) (congrArg Value.bool (by rw [hok]; rfl))) J <|mv J J <|gdt (d_lb4 (i := 2) J J J iA49 zT49 J J J J) J J J J <|gtt (t_call (n := 3) (r_validratio _ _ _ _) J J J ⟨J, trivial⟩ cF45 pre_nil J hw) J J J J fun _ _ => gdt (det_is (r' := .bool true) (d_notb J J) (congrArg Value.bool (by rw [hq]; rfl))) J J J J <|dt (d_pickf J J J) J <|mv J J <|gsk J J J J J <|gsk J J J J J <|gsk J J J J J <|dt (d_pickt J J J) J <|l_nil <|x_then <|e_condt J <|e_seq <|e_reg <|as_ J J <|l_nil <|x_then <|e_ret <|x_ret <|x_end (.inl J) hsc () _ (fun a w hs => res1 hs Tryz.results21 J) J trivial J give_nil
theorem law_first_r3 (v : Value) (r : List (Bool × ByteArray)) (z1 z2 : (Bool × ByteArray) × (Bool × ByteArray)) (hok : okP r = true) (hq : okR z1.1.1 z1.1.2 z1.2.1 z1.2.2 = true) (hq2 : okR z2.1.1 z2.1.2 z2.2.1 z2.2.2 = false) : Cal Tryz.prog 21 #[v, .agg #[.bool z1.1.1, .string z1.1.2, .bool z1.2.1, .string z1.2.2], .agg #[.bool z2.1.1, .string z2.1.2, .bool z2.2.1, .string z2.2.2]] [slp 2 encW v r] false (G := Unit) (fun _ => True) (fun _ => .int .i64 2) (fun _ => []) := by
 refine cal_in Tryz.func21 J Tryz.ntmps21 J ⟨J, trivial⟩ ?_
 intro w0 sc hw hsc
 simp only [enumEnv, enumPre]
 exact e_seq <|e_reg <|tt (t_box (i := 2) J J J J J J hw) J fun b _ => tt (t_box (i := 3) J J J J J J hw) J fun b_2 _ => as_ J J <|l_nil <|x_then <|e_seq <|e_seq <|e_reg <|mv J J <|tt (t_call (n := 3) (rp_valid _ _) J J J ⟨J, trivial⟩ cF13 (pre_same 1 J J J pre_nil) J hw) J fun _ _ => dt (det_is (r' := .bool false) (d_notb J J) (congrArg Value.bool (by rw [hok]; rfl))) J <|mv J J <|gdt (d_lb4 (i := 2) J J J iA49 zT49 J J J J) J J J J <|gtt (t_call (n := 3) (r_validratio _ _ _ _) J J J ⟨J, trivial⟩ cF45 pre_nil J hw) J J J J fun _ _ => gdt (det_is (r' := .bool false) (d_notb J J) (congrArg Value.bool (by rw [hq]; rfl))) J J J J <|dt (d_pickf J J J) J <|mv J J <|gdt (d_lb4 (i := 3) J J J iA49 zT49 J J J J) J J J J <|gtt (t_call (n := 3) (r_validratio _ _ _ _) J J J ⟨J, trivial⟩ cF45 pre_nil J hw) J J J J fun _ _ => gdt (det_is (r' := .bool true) (d_notb J J) (congrArg Value.bool (by rw [hq2]; rfl))) J J J J <|dt (d_pickf J J J) J <|l_nil <|x_then <|e_condt J <|e_seq <|e_reg <|as_ J J <|l_nil <|x_then <|e_ret <|x_ret <|x_end (.inl J) hsc () _ (fun a w hs => res1 hs Tryz.results21 J) J trivial J give_nil
end Go.Sky
open Go.Proofs
namespace Go.Sky
theorem small_ef {x y : Int} (hx : bl x.natAbs ≤ 64) (hy : bl y.natAbs ≤ 64) : ef (x, y) = false := by
  unfold ef; rw [decide_eq_false (by dsimp only; omega), decide_eq_false (by dsimp only; omega)]; rfl
theorem endR_b {x y : Int} (h : endR ((decide (x < 0), bstr x.natAbs), (decide (y < 0), bstr y.natAbs)) = true) : bl x.natAbs ≤ 64 ∧ bl y.natAbs ≤ 64 := by
  unfold endR at h
  rw [Bool.and_eq_true, decide_eq_true_iff, decide_eq_true_iff] at h
  exact ⟨bl_pow256 (n := x.natAbs) 8 h.1, bl_pow256 (n := y.natAbs) 8 h.2⟩
theorem chk2_small {r : RWL} (hs : smallR r = true) (hok : okP r = true) {x y x2 y2 : Int} (h1 : bl x.natAbs ≤ 64) (h2 : bl y.natAbs ≤ 64) (h3 : bl x2.natAbs ≤ 64) (h4 : bl y2.natAbs ≤ 64) : chk2r (dec r) x y x2 y2 = firstE r x y x2 y2 := by
  obtain ⟨hs48, hl8, hle⟩ := small_dec hs hok
  unfold chk2r firstE
  rw [if_pos hok, hle]
  by_cases h0 : r.length = 0
  · rw [if_pos h0, if_pos (.inl h0)]
  · rw [if_neg h0]
    by_cases h9 : 0 < x * y2 - x2 * y
    · rw [if_pos h9, if_pos (.inr h9)]
    · rw [if_neg h9, if_pos ⟨small_chk hs48 hl8, small_ef h1 h2, small_ef h3 h4⟩, if_neg (fun h => h.elim h0 h9)]
theorem firstR_wv {r : RWL} (hok : okP r = true) {z1 z2 : RZ} (h1 : qOK z1 = true) (h2 : qOK z2 = true) : firstR r z1 z2 = firstE r (qx z1) (qy z1) (qx z2) (qy z2) := by
  unfold firstR; rw [if_pos (by rw [hok, h1, h2]; rfl)]
theorem st_count_raw (v : Value) (r : RWL) (z1 z2 : RZ) (hs : smallR r = true) (he1 : endR z1 = true) (he2 : endR z2 = true) : Cal Tryz.prog 28 #[v, .agg #[.bool z1.1.1, .string z1.1.2, .bool z1.2.1, .string z1.2.2], .agg #[.bool z2.1.1, .string z2.1.2, .bool z2.2.1, .string z2.2.2]] [slp 2 encW v r] false (G := Unit) (fun _ => True) (fun _ => .tuple #[.int .i64 (cN r z1 z2), .int .i64 (firstR r z1 z2)]) (fun _ => []) := by
  cases hb : (okP r && qOK z1 && qOK z2) with
  | false =>
    have e : firstR r z1 z2 = 2 := by unfold firstR; rw [if_neg (by rw [hb]; decide)]
    rw [cN_no (by rw [e]; decide), e]
    exact st_count_bad v r z1 z2 hb
  | true =>
    simp only [Bool.and_eq_true] at hb
    obtain ⟨⟨hok, hq1⟩, hq2⟩ := hb
    have e := firstR_wv hok hq1 hq2
    unfold cN
    obtain ⟨a1, a2, a3, a4⟩ := q_ok hq1
    obtain ⟨b1, b2, b3, b4⟩ := q_ok hq2
    rw [e]
    generalize qx z1 = x at *
    generalize qy z1 = y at *
    generalize qx z2 = x2 at *
    generalize qy z2 = y2 at *
    subst a4
    subst b4
    obtain ⟨c1, c2⟩ := endR_b he1
    obtain ⟨c3, c4⟩ := endR_b he2
    have hck := chk2_small hs hok c1 c2 c3 c4
    obtain ⟨hv, -⟩ := dec_ok hok
    obtain ⟨hs48, hl8, hle⟩ := small_dec hs hok
    rw [← hck]
    by_cases h0 : chk2r (dec r) x y x2 y2 = 0
    · obtain ⟨hne, -⟩ := chk2_fits h0
      obtain ⟨hC, -, -⟩ := ch8 hv.tr hne hs48 hl8
      rw [if_pos h0, h0]
      exact Cal.imp (st_count v (dec r) hv x y x2 y2 a1 a2 b1 b2 a3 b3 12 (by decide) hC h0 (chn_ev hv.tr hne hs48 hl8 c1 c2) (chn_ev hv.tr hne hs48 hl8 c3 c4)) (slp_dec hok v) (fun _ h => h)
    · rw [if_neg h0]
      exact Cal.imp (st_count_err v (dec r) hv x y x2 y2 a1 a2 b1 b2 a3 b3 h0) (slp_dec hok v) (fun _ h => h)
theorem st_total_any (v : Value) (r : RWL) (hs : smallR r = true) : Cal Tryz.prog 29 #[v] [slp 2 encW v r] false (G := Unit) (fun _ => True) (fun _ => .tuple #[.int .i64 (tN r), .int .i64 (firstE r 0 1 0 1)]) (fun _ => []) := by
  cases hok : okP r with
  | false =>
    have e : firstE r 0 1 0 1 = 2 := firstE_2 _ _ _ _ hok
    rw [tN_no (by rw [e]; decide), e]
    exact st_total_bad v r hok
  | true =>
    obtain ⟨hv, -⟩ := dec_ok hok
    obtain ⟨hs48, hl8, hle⟩ := small_dec hs hok
    have hck : chk0 (dec r) = firstE r 0 1 0 1 := by
      unfold chk0 firstE
      rw [if_pos hok, hle]
      by_cases h0 : r.length = 0
      · rw [if_pos h0, if_pos (.inl h0)]
      · rw [if_neg h0, if_pos (small_chk hs48 hl8), if_neg (fun h => h.elim h0 (by decide))]
    by_cases h0 : chk0 (dec r) = 0
    · obtain ⟨hne, -⟩ := chk0_fits h0
      obtain ⟨hC, -, -⟩ := ch8 hv.tr hne hs48 hl8
      have hl9 := (sqf_fac hv.tr hne hC.1.2.2.1).2.2.1
      rw [tN_ok (by rw [← hck]; exact h0), ← hck, h0]
      exact Cal.imp (st_total v (dec r) hv 12 (by decide) h0 hl9 hC) (slp_dec hok v) (fun _ h => h)
    · rw [tN_no (by rw [← hck]; exact h0), ← hck]
      exact Cal.imp (st_total_err v (dec r) hv h0) (slp_dec hok v) (fun _ h => h)
theorem law_first_raw (v : Value) (r : RWL) (z1 z2 : RZ) : Cal Tryz.prog 21 #[v, .agg #[.bool z1.1.1, .string z1.1.2, .bool z1.2.1, .string z1.2.2], .agg #[.bool z2.1.1, .string z2.1.2, .bool z2.2.1, .string z2.2.2]] [slp 2 encW v r] false (G := Unit) (fun _ => True) (fun _ => .int .i64 (firstR r z1 z2)) (fun _ => []) := by
  cases hb : (okP r && qOK z1 && qOK z2) with
  | false =>
    have e : firstR r z1 z2 = 2 := by unfold firstR; rw [if_neg (by rw [hb]; decide)]
    rw [e]
    cases hok : okP r with
    | false => exact law_first_r1 v r z1 z2 hok
    | true =>
      rw [hok, Bool.true_and] at hb
      cases hq1 : qOK z1 with
      | false => exact law_first_r2 v r z1 z2 hok hq1
      | true =>
        rw [hq1, Bool.true_and] at hb
        exact law_first_r3 v r z1 z2 hok hq1 hb
  | true =>
    simp only [Bool.and_eq_true] at hb
    obtain ⟨⟨hok, hq1⟩, hq2⟩ := hb
    rw [firstR_wv hok hq1 hq2]
    obtain ⟨a1, a2, a3, a4⟩ := q_ok hq1
    obtain ⟨b1, b2, b3, b4⟩ := q_ok hq2
    generalize qx z1 = x at *
    generalize qy z1 = y at *
    generalize qx z2 = x2 at *
    generalize qy z2 = y2 at *
    subst a4
    subst b4
    exact law_first_any v r x y x2 y2 a1 a2 b1 b2 a3 b3
end Go.Sky
namespace Go.Sky
open Go.Proofs
set_option maxRecDepth 20000
set_option maxHeartbeats 4000000
set_option linter.unusedVariables false
set_option linter.unusedSimpArgs false
set_option maxHeartbeats 4000000 in
theorem law_counts_no (v : Value) (r : List (Bool × ByteArray)) (z1 z2 : (Bool × ByteArray) × (Bool × ByteArray)) (hn : (smallR r && endR z1 && endR z2) = false) : Cal Tryz.prog 5 #[v, .agg #[.bool z1.1.1, .string z1.1.2, .bool z1.2.1, .string z1.2.2], .agg #[.bool z2.1.1, .string z2.1.2, .bool z2.2.1, .string z2.2.2]] [slp 2 encW v r] false (G := Unit) (fun _ => True) (fun _ => .bool true) (fun _ => []) := by
 refine cal_in Tryz.func5 J Tryz.ntmps5 J ⟨J, trivial⟩ ?_
 intro w0 sc hw hsc
 simp only [enumEnv, enumPre]
 refine e_imp (s_nil 999 2 28 wv) <|e_imp (s_pub 999 J J pV) <|e_seq <|e_reg <|tt (t_box (i := 2) J J J J J J hw) J fun bx _ => tt (t_box (i := 3) J J J J J J hw) J fun bx_2 _ => as_ J J <|l_nil <|x_then <|e_seq <|e_seq <|e_reg <|mv J J <|tt (t_call (n := 3) (law_small _ _) J J J ⟨J, trivial⟩ cF10 (pre_same 1 J J J pre_nil) J hw) J fun _ _ => dt (d_notb J J) J <|mv J J <|l_splitb (d := 16) J (fun s144 => ?_) (fun s144 => ?_)
 ·exact gsk J J J J J <|gsk J J J J J <|gsk J J J J J <|dt (d_pickt J J J) J <|mv J J <|gsk J J J J J <|gsk J J J J J <|gsk J J J J J <|dt (d_pickt J J J) J <|l_nil <|x_then <|e_condt J <|e_seq <|e_reg <|tt (t_call (n := 3) (law_known) J J J trivial cF11 pre_nil J hw) J fun _ _ => as_ J J <|l_nil <|x_then <|e_ret <|x_ret <|x_end (.inl J) hsc () _ (fun a w hs => res1 hs Tryz.results5 J) J trivial J give_nil
 ·refine gdt (d_lb4 (i := 2) J J J iA49 zT49 J J J J) J J J J <|gtt (t_call (n := 3) (law_end _) J J J ⟨J, trivial⟩ cF27 pre_nil J hw) J J J J fun _ _ => gdt (d_notb J J) J J J J <|dt (d_pickf J J J) J <|mv J J <|l_splitb (d := 21) J (fun s144_2 => ?_) (fun s144_2 => ?_)
  ·exact gsk J J J J J <|gsk J J J J J <|gsk J J J J J <|dt (d_pickt J J J) J <|l_nil <|x_then <|e_condt J <|e_seq <|e_reg <|tt (t_call (n := 3) (law_known) J J J trivial cF11 pre_nil J hw) J fun _ _ => as_ J J <|l_nil <|x_then <|e_ret <|x_ret <|x_end (.inl J) hsc () _ (fun a w hs => res1 hs Tryz.results5 J) J trivial J give_nil
  ·refine gdt (d_lb4 (i := 3) J J J iA49 zT49 J J J J) J J J J <|gtt (t_call (n := 3) (law_end _) J J J ⟨J, trivial⟩ cF27 pre_nil J hw) J J J J fun _ _ => gdt (d_notb J J) J J J J <|dt (d_pickf J J J) J <|l_nil <|x_then <|e_condb J (fun h144 => ?_) (fun h144 => ?_)
   ·exact e_seq <|e_reg <|tt (t_call (n := 3) (law_known) J J J trivial cF11 pre_nil J hw) J fun _ _ => as_ J J <|l_nil <|x_then <|e_ret <|x_ret <|x_end (.inl J) hsc () _ (fun a w hs => res1 hs Tryz.results5 J) J trivial J give_nil
   ·exfalso; simp_all
set_option maxHeartbeats 4000000 in
theorem law_counts_err (v : Value) (r : List (Bool × ByteArray)) (z1 z2 : (Bool × ByteArray) × (Bool × ByteArray)) (hs : smallR r = true) (he1 : endR z1 = true) (he2 : endR z2 = true) (hf : firstE r 0 1 0 1 ≠ 0) : Cal Tryz.prog 5 #[v, .agg #[.bool z1.1.1, .string z1.1.2, .bool z1.2.1, .string z1.2.2], .agg #[.bool z2.1.1, .string z2.1.2, .bool z2.2.1, .string z2.2.2]] [slp 2 encW v r] false (G := Unit) (fun _ => True) (fun _ => .bool true) (fun _ => []) := by
 refine cal_in Tryz.func5 J Tryz.ntmps5 J ⟨J, trivial⟩ ?_
 intro w0 sc hw hsc
 simp only [enumEnv, enumPre]
 have hf2 : firstR r z1 z2 ≠ 0 := firstR_ne hf
 refine e_imp (s_nil 999 2 28 wv) <|e_imp (s_pub 999 J J pV) <|e_seq <|e_reg <|tt (t_box (i := 2) J J J J J J hw) J fun bx _ => tt (t_box (i := 3) J J J J J J hw) J fun bx_2 _ => as_ J J <|l_nil <|x_then <|e_seq <|e_seq <|e_reg <|mv J J <|tt (t_call (n := 3) (law_small _ _) J J J ⟨J, trivial⟩ cF10 (pre_same 1 J J J pre_nil) J hw) J fun _ _ => dt (det_is (r' := .bool false) (d_notb J J) (congrArg Value.bool (by rw [hs]; rfl))) J <|mv J J <|gdt (d_lb4 (i := 2) J J J iA49 zT49 J J J J) J J J J <|gtt (t_call (n := 3) (law_end _) J J J ⟨J, trivial⟩ cF27 pre_nil J hw) J J J J fun _ _ => gdt (det_is (r' := .bool false) (d_notb J J) (congrArg Value.bool (by rw [he1]; rfl))) J J J J <|dt (d_pickf J J J) J <|mv J J <|gdt (d_lb4 (i := 3) J J J iA49 zT49 J J J J) J J J J <|gtt (t_call (n := 3) (law_end _) J J J ⟨J, trivial⟩ cF27 pre_nil J hw) J J J J fun _ _ => gdt (det_is (r' := .bool false) (d_notb J J) (congrArg Value.bool (by rw [he2]; rfl))) J J J J <|dt (d_pickf J J J) J <|l_nil <|x_then <|e_condf J <|e_skip <|x_then <|e_seq <|e_reg <|mv J J <|dt (d_lb4 (i := 2) J J J iA49 zT49 J J J J) J <|dt (d_lb4 (i := 3) J J J iA49 zT49 J J J J) J <|tt (t_call (n := 3) (st_count_raw _ _ z1 z2 hs he1 he2) J J J ⟨J, J, J, trivial⟩ cF28 (pre_same 1 J J J pre_nil) J hw) J fun _ _ => mv J J <|dt (d_ex J J J) J <|dt (d_ex J J J) J <|as_ J J <|as_ J J <|l_nil <|x_then <|e_seq <|e_reg <|mv J J ?_
 refine tt (t_call (n := 3) (st_total_any _ _ hs) J J J ⟨J, trivial⟩ cF29 (pre_same 1 J J J pre_nil) J hw) J fun _ _ => mv J J <|dt (d_ex J J J) J <|dt (d_ex J J J) J <|as_ J J <|as_ J J <|l_nil <|x_then <|e_seq <|e_seq <|e_reg <|mv J J <|tt (t_call (n := 3) (law_q _ _ ⟨by decide, by decide⟩ ⟨by decide, by decide⟩) J J J ⟨J, J, trivial⟩ cF22 pre_nil J hw) J fun _ _ => tt (t_call (n := 3) (law_q _ _ ⟨by decide, by decide⟩ ⟨by decide, by decide⟩) J J J ⟨J, J, trivial⟩ cF22 pre_nil J hw) J fun _ _ => tt (t_call (n := 3) (law_first_any _ _ 0 1 0 1 (by decide) (by decide) (by decide) (by decide) (by decide) (by decide)) J J J ⟨J, J, J, trivial⟩ cF21 (pre_same 1 J J J pre_nil) J hw) J fun _ _ => as_ J J <|l_nil <|x_then <|e_seq <|e_reg <|mv J J <|dt (det_is (r' := .bool true) (d_neq J J J) (congrArg Value.bool (decide_eq_true hf))) J <|l_nil <|x_then <|e_condt J <|e_seq <|e_reg <|mv J J <|dt (det_is (r' := .bool false) (d_neq J J J) (congrArg Value.bool (decide_eq_false (fun h => h (tN_no hf))))) J <|mv J J <|gdt (d_mv J J) J J J J <|gdt (d_mv J J) J J J J <|gdt (det_is (r' := .bool false) (d_neq J J J) (congrArg Value.bool (by simp))) J J J J <|dt (d_pickf J J J) J <|l_nil <|x_then <|e_condf J <|e_skip <|x_then <|e_seq <|e_seq <|e_reg <|mv J J <|dt (d_lb4 (i := 2) J J J iA49 zT49 J J J J) J <|dt (d_lb4 (i := 3) J J J iA49 zT49 J J J J) J ?_
 exact tt (t_call (n := 3) (law_first_raw _ _ z1 z2) J J J ⟨J, J, J, trivial⟩ cF21 (pre_same 1 J J J pre_nil) J hw) J fun _ _ => as_ J J <|l_nil <|x_then <|e_seq <|e_reg <|mv J J <|dt (det_is (r' := .bool true) (d_neq J J J) (congrArg Value.bool (decide_eq_true hf2))) J <|l_nil <|x_then <|e_condt J <|e_seq <|e_reg <|mv J J <|dt (det_is (r' := .bool true) (d_eql J J J) (congrArg Value.bool (decide_eq_true (cN_no hf2)))) J <|mv J J <|gdt (d_mv J J) J J J J <|gdt (d_mv J J) J J J J <|gdt (det_is (r' := .bool true) (d_eql J J J) (congrArg Value.bool (by simp))) J J J J <|dt (d_pickt J J J) J <|mv J J <|gtt (t_call (n := 3) (law_known) J J J trivial cF11 pre_nil J hw) J J J J fun _ _ => dt (d_pickt J J J) J <|as_ J J <|l_nil <|x_then <|e_ret <|x_ret <|x_end (.inl J) hsc () _ (fun a w hs => res1 hs Tryz.results5 J) J trivial J give_nil
set_option maxHeartbeats 4000000 in
theorem law_counts_badq (v : Value) (r : List (Bool × ByteArray)) (z1 z2 : (Bool × ByteArray) × (Bool × ByteArray)) (hs : smallR r = true) (he1 : endR z1 = true) (he2 : endR z2 = true) (hok : okP r = true) (h0 : r.length ≠ 0) (hfz : firstE r 0 1 0 1 = 0) (hf2 : firstR r z1 z2 ≠ 0) : Cal Tryz.prog 5 #[v, .agg #[.bool z1.1.1, .string z1.1.2, .bool z1.2.1, .string z1.2.2], .agg #[.bool z2.1.1, .string z2.1.2, .bool z2.2.1, .string z2.2.2]] [slp 2 encW v r] false (G := Unit) (fun _ => True) (fun _ => .bool true) (fun _ => []) := by
 refine cal_in Tryz.func5 J Tryz.ntmps5 J ⟨J, trivial⟩ ?_
 intro w0 sc hw hsc
 simp only [enumEnv, enumPre]
 obtain ⟨hs48, hl8, hle⟩ := small_dec hs hok
 obtain ⟨hv, -⟩ := dec_ok hok
 have hne : dec r ≠ [] := fun e => h0 (by rw [← hle, e]; rfl)
 have hsf := small_chk hs48 hl8
 obtain ⟨hC, hq, hql⟩ := ch8 hv.tr hne hs48 hl8
 have htn : tN r = sleft 12 (dec r) - sright 12 (dec r) := tN_ok hfz
 have htt := total_eq hv hne hC
 refine e_imp (s_nil 999 2 28 wv) <|e_imp (s_pub 999 J J pV) <|e_seq <|e_reg <|tt (t_box (i := 2) J J J J J J hw) J fun bx _ => tt (t_box (i := 3) J J J J J J hw) J fun bx_2 _ => as_ J J <|l_nil <|x_then <|e_seq <|e_seq <|e_reg <|mv J J <|tt (t_call (n := 3) (law_small _ _) J J J ⟨J, trivial⟩ cF10 (pre_same 1 J J J pre_nil) J hw) J fun _ _ => dt (det_is (r' := .bool false) (d_notb J J) (congrArg Value.bool (by rw [hs]; rfl))) J <|mv J J <|gdt (d_lb4 (i := 2) J J J iA49 zT49 J J J J) J J J J <|gtt (t_call (n := 3) (law_end _) J J J ⟨J, trivial⟩ cF27 pre_nil J hw) J J J J fun _ _ => gdt (det_is (r' := .bool false) (d_notb J J) (congrArg Value.bool (by rw [he1]; rfl))) J J J J <|dt (d_pickf J J J) J <|mv J J <|gdt (d_lb4 (i := 3) J J J iA49 zT49 J J J J) J J J J <|gtt (t_call (n := 3) (law_end _) J J J ⟨J, trivial⟩ cF27 pre_nil J hw) J J J J fun _ _ => gdt (det_is (r' := .bool false) (d_notb J J) (congrArg Value.bool (by rw [he2]; rfl))) J J J J <|dt (d_pickf J J J) J <|l_nil <|x_then <|e_condf J <|e_skip <|x_then <|e_seq <|e_reg <|mv J J <|dt (d_lb4 (i := 2) J J J iA49 zT49 J J J J) J <|dt (d_lb4 (i := 3) J J J iA49 zT49 J J J J) J <|tt (t_call (n := 3) (st_count_raw _ _ z1 z2 hs he1 he2) J J J ⟨J, J, J, trivial⟩ cF28 (pre_same 1 J J J pre_nil) J hw) J fun _ _ => mv J J <|dt (d_ex J J J) J <|dt (d_ex J J J) J <|as_ J J <|as_ J J <|l_nil <|x_then <|e_seq <|e_reg <|mv J J ?_
 refine tt (t_call (n := 3) (st_total_any _ _ hs) J J J ⟨J, trivial⟩ cF29 (pre_same 1 J J J pre_nil) J hw) J fun _ _ => mv J J <|dt (d_ex J J J) J <|dt (d_ex J J J) J <|as_ J J <|as_ J J <|l_nil <|x_then <|e_seq <|e_seq <|e_reg <|mv J J <|tt (t_call (n := 3) (law_q _ _ ⟨by decide, by decide⟩ ⟨by decide, by decide⟩) J J J ⟨J, J, trivial⟩ cF22 pre_nil J hw) J fun _ _ => tt (t_call (n := 3) (law_q _ _ ⟨by decide, by decide⟩ ⟨by decide, by decide⟩) J J J ⟨J, J, trivial⟩ cF22 pre_nil J hw) J fun _ _ => tt (t_call (n := 3) (law_first_any _ _ 0 1 0 1 (by decide) (by decide) (by decide) (by decide) (by decide) (by decide)) J J J ⟨J, J, J, trivial⟩ cF21 (pre_same 1 J J J pre_nil) J hw) J fun _ _ => as_ J J <|l_nil <|x_then <|e_seq <|e_reg <|mv J J <|dt (det_is (r' := .bool false) (d_neq J J J) (congrArg Value.bool (decide_eq_false (fun h => h hfz)))) J <|l_nil <|x_then <|e_condf J <|e_seq <|e_imp (s_sub (q := slp 2 wv _ (dec r)) 1 88 J J J (slp_dec hok _) (fun _ h => h) J) <|e_reg <|mv J J <|mv J J <|tt (t_call (n := 4) (rp_from _ _ (hv.sz.mono (by omega)) (by omega)) J J J ⟨J, trivial⟩ cF15 (pre_same 88 J J J pre_nil) J hw) J (fun g hg => ?_)
 have hG : ints g.2 = dec r := hg
 refine tt (t_call (n := 4) (r3_total _ _ (by rw [hG]; exact hv) (by have h7 := congrArg List.length hG; rw [length_ints] at h7; omega) (by rw [hG]; exact hs48) (by have h7 := congrArg List.length hG; rw [length_ints] at h7; omega)) J J J ⟨J, trivial⟩ cF30 (pre_same 4 J J J pre_nil) J hw) J fun _ _ => dt (det_is (r' := .bool false) (d_neq J J J) (congrArg Value.bool (by rw [htn, ← htt, hG]; simp))) J <|mv J J <|gdt (d_mv J J) J J J J <|gdt (det_is (r' := .bool false) (d_neq J J J) (congrArg Value.bool (decide_eq_false (fun h => h hfz)))) J J J J <|dt (d_pickf J J J) J <|l_nil <|x_then <|e_condf J <|e_skip <|x_then <|e_seq <|e_seq <|e_reg <|mv J J <|dt (d_lb4 (i := 2) J J J iA49 zT49 J J J J) J <|dt (d_lb4 (i := 3) J J J iA49 zT49 J J J J) J <|tt (t_call (n := 4) (law_first_raw _ _ z1 z2) J J J ⟨J, J, J, trivial⟩ cF21 (pre_same 1 J J J pre_nil) J hw) J fun _ _ => as_ J J <|l_nil <|x_then <|e_seq <|e_reg <|mv J J <|dt (det_is (r' := .bool true) (d_neq J J J) (congrArg Value.bool (decide_eq_true hf2))) J <|l_nil <|x_then <|e_condt J <|e_seq <|e_reg <|mv J J <|dt (det_is (r' := .bool true) (d_eql J J J) (congrArg Value.bool (decide_eq_true (cN_no hf2)))) J <|mv J J <|gdt (d_mv J J) J J J J <|gdt (d_mv J J) J J J J <|gdt (det_is (r' := .bool true) (d_eql J J J) (congrArg Value.bool (by simp))) J J J J <|dt (d_pickt J J J) J <|mv J J ?_
 exact gtt (t_call (n := 4) (law_known) J J J trivial cF11 pre_nil J hw) J J J J fun _ _ => dt (d_pickt J J J) J <|as_ J J <|l_nil <|x_then <|e_ret <|x_ret <|x_end (.inl J) hsc () _ (fun a w hs => res1 hs Tryz.results5 J) J trivial J give_nil
end Go.Sky
namespace Go.Sky
open Go.Proofs
set_option maxRecDepth 20000
set_option maxHeartbeats 4000000
set_option linter.unusedVariables false
set_option linter.unusedSimpArgs false
set_option maxHeartbeats 4000000 in
theorem law_counts_ok (v : Value) (r : List (Bool × ByteArray)) (x y x2 y2 : Int) (hx : bl x.natAbs ≤ 64) (hy : bl y.natAbs ≤ 64) (hx2 : bl x2.natAbs ≤ 64) (hy2 : bl y2.natAbs ≤ 64) (hp : 0 < y) (hp2 : 0 < y2) (hs : smallR r = true) (he1 : endR ((decide (x < 0), bstr x.natAbs), (decide (y < 0), bstr y.natAbs)) = true) (he2 : endR ((decide (x2 < 0), bstr x2.natAbs), (decide (y2 < 0), bstr y2.natAbs)) = true) (hok : okP r = true) (h0 : r.length ≠ 0) (hfz : firstE r 0 1 0 1 = 0) (hfe : firstE r x y x2 y2 = 0) : Cal Tryz.prog 5 #[v, .agg #[.bool (decide (x < 0)), .string (bstr x.natAbs), .bool (decide (y < 0)), .string (bstr y.natAbs)], .agg #[.bool (decide (x2 < 0)), .string (bstr x2.natAbs), .bool (decide (y2 < 0)), .string (bstr y2.natAbs)]] [slp 2 encW v r] false (G := Unit) (fun _ => True) (fun _ => .bool true) (fun _ => []) := by
 refine cal_in Tryz.func5 J Tryz.ntmps5 J ⟨J, trivial⟩ ?_
 intro w0 sc hw hsc
 simp only [enumEnv, enumPre]
 obtain ⟨hs48, hl8, hle⟩ := small_dec hs hok
 obtain ⟨hv, -⟩ := dec_ok hok
 have hne : dec r ≠ [] := fun e => h0 (by rw [← hle, e]; rfl)
 have hsf := small_chk hs48 hl8
 obtain ⟨hC, hq, hql⟩ := ch8 hv.tr hne hs48 hl8
 have htn : tN r = sleft 12 (dec r) - sright 12 (dec r) := tN_ok hfz
 have htt := total_eq hv hne hC
 have hck := chk2_small hs hok hx hy hx2 hy2
 rw [hfe] at hck
 have hE1 := chn_ev hv.tr hne hs48 hl8 hx hy
 have hE2 := chn_ev hv.tr hne hs48 hl8 hx2 hy2
 refine e_imp (s_nil 999 2 28 wv) <|e_imp (s_pub 999 J J pV) <|e_seq <|e_reg <|tt (t_box (i := 2) J J J J J J hw) J fun bx _ => tt (t_box (i := 3) J J J J J J hw) J fun bx_2 _ => as_ J J <|l_nil <|x_then <|e_seq <|e_seq <|e_reg <|mv J J <|tt (t_call (n := 3) (law_small _ _) J J J ⟨J, trivial⟩ cF10 (pre_same 1 J J J pre_nil) J hw) J fun _ _ => dt (det_is (r' := .bool false) (d_notb J J) (congrArg Value.bool (by rw [hs]; rfl))) J <|mv J J <|gdt (d_lb4 (i := 2) J J J iA49 zT49 J J J J) J J J J <|gtt (t_call (n := 3) (law_end ((decide (x < 0), bstr x.natAbs), (decide (y < 0), bstr y.natAbs))) J J J ⟨J, trivial⟩ cF27 pre_nil J hw) J J J J fun _ _ => gdt (det_is (r' := .bool false) (d_notb J J) (congrArg Value.bool (by rw [he1]; rfl))) J J J J <|dt (d_pickf J J J) J <|mv J J <|gdt (d_lb4 (i := 3) J J J iA49 zT49 J J J J) J J J J <|gtt (t_call (n := 3) (law_end ((decide (x2 < 0), bstr x2.natAbs), (decide (y2 < 0), bstr y2.natAbs))) J J J ⟨J, trivial⟩ cF27 pre_nil J hw) J J J J fun _ _ => gdt (det_is (r' := .bool false) (d_notb J J) (congrArg Value.bool (by rw [he2]; rfl))) J J J J <|dt (d_pickf J J J) J <|l_nil <|x_then <|e_condf J <|e_skip <|x_then <|e_seq <|e_imp (s_sub (q := slp 2 wv _ (dec r)) 1 88 J J J (slp_dec hok _) (fun _ h => h) J) <|e_reg <|mv J J <|dt (d_lb4 (i := 2) J J J iA49 zT49 J J J J) J <|dt (d_lb4 (i := 3) J J J iA49 zT49 J J J J) J ?_
 refine tt (t_call (n := 3) (st_count _ _ hv x y x2 y2 (by omega) (by omega) (by omega) (by omega) hp hp2 12 (by decide) hC hck hE1 hE2) J J J ⟨J, J, J, trivial⟩ cF28 (pre_same 88 J J J pre_nil) J hw) J fun _ _ => mv J J <|dt (d_ex J J J) J <|dt (d_ex J J J) J <|as_ J J <|as_ J J <|l_nil <|x_then <|e_seq <|e_reg <|mv J J <|tt (t_call (n := 3) (st_total_any _ _ hs) J J J ⟨J, trivial⟩ cF29 (pre_same 1 J J J pre_nil) J hw) J fun _ _ => mv J J <|dt (d_ex J J J) J <|dt (d_ex J J J) J <|as_ J J <|as_ J J <|l_nil <|x_then <|e_seq <|e_seq <|e_reg <|mv J J <|tt (t_call (n := 3) (law_q _ _ ⟨by decide, by decide⟩ ⟨by decide, by decide⟩) J J J ⟨J, J, trivial⟩ cF22 pre_nil J hw) J fun _ _ => tt (t_call (n := 3) (law_q _ _ ⟨by decide, by decide⟩ ⟨by decide, by decide⟩) J J J ⟨J, J, trivial⟩ cF22 pre_nil J hw) J fun _ _ => tt (t_call (n := 3) (law_first_any _ _ 0 1 0 1 (by decide) (by decide) (by decide) (by decide) (by decide) (by decide)) J J J ⟨J, J, J, trivial⟩ cF21 (pre_same 1 J J J pre_nil) J hw) J fun _ _ => as_ J J <|l_nil <|x_then <|e_seq <|e_reg <|mv J J <|dt (det_is (r' := .bool false) (d_neq J J J) (congrArg Value.bool (decide_eq_false (fun h => h hfz)))) J <|l_nil <|x_then <|e_condf J <|e_seq <|e_reg <|mv J J <|mv J J <|tt (t_call (n := 4) (rp_from _ _ (hv.sz.mono (by omega)) (by omega)) J J J ⟨J, trivial⟩ cF15 (pre_same 88 J J J pre_nil) J hw) J (fun g hg => ?_)
 have hG : ints g.2 = dec r := hg
 refine tt (t_call (n := 4) (r3_total _ _ (by rw [hG]; exact hv) (by have h7 := congrArg List.length hG; rw [length_ints] at h7; omega) (by rw [hG]; exact hs48) (by have h7 := congrArg List.length hG; rw [length_ints] at h7; omega)) J J J ⟨J, trivial⟩ cF30 (pre_same 4 J J J pre_nil) J hw) J fun _ _ => dt (det_is (r' := .bool false) (d_neq J J J) (congrArg Value.bool (by rw [htn, ← htt, hG]; simp))) J <|mv J J <|gdt (d_mv J J) J J J J <|gdt (det_is (r' := .bool false) (d_neq J J J) (congrArg Value.bool (decide_eq_false (fun h => h hfz)))) J J J J <|dt (d_pickf J J J) J <|l_nil <|x_then <|e_condf J <|e_skip <|x_then <|e_seq <|e_seq <|e_reg <|mv J J <|dt (d_lb4 (i := 2) J J J iA49 zT49 J J J J) J <|dt (d_lb4 (i := 3) J J J iA49 zT49 J J J J) J <|tt (t_call (n := 4) (law_first_any _ _ x y x2 y2 (by omega) (by omega) (by omega) (by omega) hp hp2) J J J ⟨J, J, J, trivial⟩ cF21 (pre_same 1 J J J pre_nil) J hw) J fun _ _ => as_ J J <|l_nil <|x_then <|e_seq <|e_reg <|mv J J <|dt (det_is (r' := .bool false) (d_neq J J J) (congrArg Value.bool (decide_eq_false (fun h => h hfe)))) J <|l_nil <|x_then <|e_condf J <|e_skip <|x_then <|e_seq <|e_drega (fun _ => False) [16] (by kernel_rfl) <|a_lin' (n := 12) [(0, 0), (1, 0), (3, 0), (5, 0), (2, 1)] (by kernel_rfl) <|r0' J J J J (st0 (d_mv J J)) <|r0' J J J J (st0 (d_mv J J)) <|r0' J J J J (st0 (d_lb4 (i := 2) J J J iA49 zT49 J J J J)) ?_
 refine r0' J J J J (st0 (d_lb4 (i := 3) J J J iA49 zT49 J J J J)) <|r1' J J (t_call (n := 5) (rp_from _ _ (hv.sz.mono (by omega)) (by omega)) J J J ⟨J, trivial⟩ cF15 (pre_same 88 J J J pre_nil) J hw) fun g_2 hg_2 => r_fin ?_
 have hH : ints g_2.2 = dec r := hg_2
 refine a_lin' (n := 0) [(4, 1), (6, 1), (7, 1), (8, 0), (9, 0), (10, 0), (11, 0), (12, 0), (13, 0), (14, 1), (15, 0), (16, 3)] (by kernel_rfl) <|r1' J J (t_call (n := 6) (r_fromratio x y (by omega) (by omega)) J J J ⟨J, trivial⟩ cF32 pre_nil J hw) fun g_3 _ => r1' J J (t_call (n := 8) (r_fromratio x2 y2 (by omega) (by omega)) J J J ⟨J, trivial⟩ cF32 pre_nil J hw) fun g_4 _ => r1' J J (t_call (n := 9) (r3_count _ _ _ _ _ _ x y x2 y2 (by rw [hH]; exact hv) (by have h7 := congrArg List.length hH; rw [length_ints] at h7; omega) (by rw [hH]; exact hs48) (by have h7 := congrArg List.length hH; rw [length_ints] at h7; omega) (by omega) (by omega) (by omega) (by omega)) J J J ⟨J, J, J, trivial⟩ cF31 (pre_same 5 J J J (pre_same 6 J J J (pre_same 7 J J J (pre_same 8 J J J (pre_same 9 J J J pre_nil))))) J hw) fun _ _ => r0' J J J J (st0 (det_is (r' := .bool true) (d_eql J J J) (congrArg Value.bool (by rw [hH]; simp)))) <|r0' J J J J (st0 (d_mv J J)) <|r0g (st0 (d_mv J J)) J J J J J J J <|r0g (st0 (det_is (r' := .bool true) (d_eql J J J) (congrArg Value.bool (by decide)))) J J J J J J J <|r0' J J J J (st0 (d_pickt J J J)) <|r0' J J J J (st0 (d_mv J J)) <|r1g' J J J J J (t_call (n := 9) (law_known) J J J trivial cF11 pre_nil J hw) fun _ _ => r0' J J J J (st0 (d_pickt J J J)) <|r3' J J (t_det (d_as J J) J J) fun _ _ => r_fin <|a_done (by kernel_rfl) <|x_then <|e_ret ?_
 exact x_end (.inl J) hsc () _ (fun a w hs => res1 hs Tryz.results5 J) J trivial J give_nil
end Go.Sky
namespace Go.Sky
open Go.Proofs
theorem law_counts (v : Value) (r : List (Bool × ByteArray)) (b : Bool) (s : ByteArray) (c : Bool) (t : ByteArray) (b2 : Bool) (s2 : ByteArray) (c2 : Bool) (t2 : ByteArray) : Cal Tryz.prog 5 #[v, .agg #[.bool b, .string s, .bool c, .string t], .agg #[.bool b2, .string s2, .bool c2, .string t2]] [slp 2 encW v r] false (G := Unit) (fun _ => True) (fun _ => .bool true) (fun _ => []) := by
  cases hn : (smallR r && endR ((b, s), (c, t)) && endR ((b2, s2), (c2, t2))) with
  | false => exact law_counts_no v r ((b, s), (c, t)) ((b2, s2), (c2, t2)) hn
  | true =>
    simp only [Bool.and_eq_true] at hn
    obtain ⟨⟨hs, he1⟩, he2⟩ := hn
    by_cases hf : firstE r 0 1 0 1 = 0
    · obtain ⟨hok, h0, -⟩ := (firstE_iff _ _ _ _ _).1 hf
      by_cases hf2 : firstR r ((b, s), (c, t)) ((b2, s2), (c2, t2)) = 0
      · have hb : (okP r && qOK ((b, s), (c, t)) && qOK ((b2, s2), (c2, t2))) = true := by
          by_cases h : (okP r && qOK ((b, s), (c, t)) && qOK ((b2, s2), (c2, t2))) = true
          · exact h
          · unfold firstR at hf2; rw [if_neg h] at hf2; exact absurd hf2 (by decide)
        simp only [Bool.and_eq_true] at hb
        rw [firstR_wv hok hb.1.2 hb.2] at hf2
        obtain ⟨a1, a2, a3, a4⟩ := q_ok hb.1.2
        obtain ⟨b1, b2', b3, b4⟩ := q_ok hb.2
        generalize qx ((b, s), (c, t)) = x at *
        generalize qy ((b, s), (c, t)) = y at *
        generalize qx ((b2, s2), (c2, t2)) = x2 at *
        generalize qy ((b2, s2), (c2, t2)) = y2 at *
        simp only [Prod.mk.injEq] at a4 b4
        obtain ⟨⟨rfl, rfl⟩, rfl, rfl⟩ := a4
        obtain ⟨⟨rfl, rfl⟩, rfl, rfl⟩ := b4
        obtain ⟨d1, d2⟩ := endR_b he1
        obtain ⟨d3, d4⟩ := endR_b he2
        exact law_counts_ok v r x y x2 y2 d1 d2 d3 d4 a3 b3 hs he1 he2 hok h0 hf hf2
      · exact law_counts_badq v r ((b, s), (c, t)) ((b2, s2), (c2, t2)) hs he1 he2 hok h0 hf hf2
    · exact law_counts_err v r ((b, s), (c, t)) ((b2, s2), (c2, t2)) hs he1 he2 hf
end Go.Sky
namespace Go.Proofs.YtcegclhbeflgbaaGreat
open Go.ChangeShapes Go.WideShapes Go.ChangeAt Go.RowKit Go.Joins Go.Deep Go.Sky
set_option linter.unusedVariables false
theorem own : ownKnob Tryz.prog.godebug = none := by kernel_rfl
theorem laidOut : laidOutB Tryz.prog = true := by kernel_rfl
set_option maxRecDepth 100000 in
theorem lifted (os : Os) (started : os.Started) (H : Type) (enc : TypeId × Value → H) :
    ReturnsInHanded {} Tryz.checked os 5 .any (Rows.sturmCountsSpec.pre6 enc Tryz.prog Tryz.f5 Rows.sturmCountsRow.domain false) (Rows.sturmCountsSpec.post enc Tryz.prog Tryz.f5 false true false false) := by
  refine returnsInHanded_of_change (C := Tryz.checked) own started (by kernel_rfl) Tryz.func5
    (ChangeSpec.witness6 (enc := enc) (C := Tryz.checked) false ⟨#[], #[.slice none 0 0, .agg #[.bool false, .string ByteArray.empty, .bool false, .string ByteArray.empty], .agg #[.bool false, .string ByteArray.empty, .bool false, .string ByteArray.empty]], []⟩ 8 (by kernel_rfl) (by kernel_rfl) (by kernel_rfl) (by kernel_rfl)) ?_
  intro W base args ds gs before hval0 hW hcnd _
  have hval : ∀ (j : Nat) t v, Tryz.f5.params[j]? = some t → args[j]? = some v → Value.okWide Tryz.prog W .any base t v := hval0
  have hW' := hW
  obtain ⟨p, q, hA0, hV, rfl, hfz, hnd⟩ := hW
  have hA : DataW.TrodAll enc Tryz.prog W 0 (fun _ => true) true Tryz.f5.params.toList args.toList ds p := hA0
  rw [Tryz.params5] at hA hval
  obtain ⟨v0, vs0, d0, ds0, p0, q0, hargs, rfl, rfl, h0, r0⟩ := trodAll_cons hA
  obtain ⟨v1, vs1, d1, ds1, p1, q1, rfl, rfl, rfl, h1, r1⟩ := trodAll_cons r0
  obtain ⟨v2, vs2, d2, ds2, p2, q2, rfl, rfl, rfl, h2, r2⟩ := trodAll_cons r1
  obtain ⟨rfl, rfl, rfl⟩ := trodAll_nil r2
  obtain rfl : args = #[v0, v1, v2] := by cases args; simp_all
  obtain ⟨rfl, rfl⟩ := trodVars_none hV
  have lt0 : ∀ x ∈ p0, x.block < W.heap.size := by obtain ⟨m, hm⟩ := h0; exact DataW.trod_lt m _ _ _ hm
  obtain ⟨l0, hl0⟩ := open_wides Tryz.underlying23 Tryz.underlying28 (by kernel_rfl) rfl rfl (by kernel_rfl) (by kernel_rfl) (by kernel_rfl) (by kernel_rfl) (hval 0 23 v0 rfl rfl) h0 lt0
  have lt1 : ∀ x ∈ p1, x.block < W.heap.size := by obtain ⟨m, hm⟩ := h1; exact DataW.trod_lt m _ _ _ hm
  obtain ⟨b1, s1, c1, t1, rfl⟩ := open_ratio Tryz.underlying49 Tryz.underlying28 (by kernel_rfl) (by kernel_rfl) rfl rfl rfl rfl (by kernel_rfl) (by kernel_rfl) (by kernel_rfl) (by kernel_rfl) rfl rfl (hval 1 49 v1 rfl rfl) h1
  have lt2 : ∀ x ∈ p2, x.block < W.heap.size := by obtain ⟨m, hm⟩ := h2; exact DataW.trod_lt m _ _ _ hm
  obtain ⟨b2, s2, c2, t2, rfl⟩ := open_ratio Tryz.underlying49 Tryz.underlying28 (by kernel_rfl) (by kernel_rfl) rfl rfl rfl rfl (by kernel_rfl) (by kernel_rfl) (by kernel_rfl) (by kernel_rfl) rfl rfl (hval 2 49 v2 rfl rfl) h2
  clear hA0 hval0
  refine (law_counts v0 l0 b1 s1 c1 t1 b2 s2 c2 t2 W (fun p hp => by cases hp with | head => exact hl0 | tail _ hp => cases hp)).mono fun e W' ⟨_, he, _, bel, _⟩ => ?_
  subst he
  exact ⟨_, rfl, _, _, _, [], _, [], hW', trodAll_mk1 (shut_bool Tryz.underlying4 _), (trodAll_cons_mk (Below.trod laidOut (by kernel_rfl) (of_decide_eq_true (by kernel_rfl)) h0 bel lt0) (trodAll_cons_mk (Below.trod laidOut (by kernel_rfl) (of_decide_eq_true (by kernel_rfl)) h1 bel lt1) (trodAll_cons_mk (Below.trod laidOut (by kernel_rfl) (of_decide_eq_true (by kernel_rfl)) h2 bel lt2) trodAll_mk0))), rfl, bel.frame _, fun h => by cases h⟩
/-- the given statement -/
theorem x_holds : Rows.SturmCountsSaid :=
  OpenClaim.holds_of_wide 5 Tryz.f5 rfl rfl rfl rfl rfl rfl rfl ⟨rfl, rfl, rfl, rfl, rfl⟩ rfl rfl rfl rfl rfl (by kernel_rfl) Tryz.func5 (by kernel_rfl)
    (of_decide_eq_true (by kernel_rfl)) (by unfold Func.isWrapper; first | (rw [if_pos (by decide +kernel)]; kernel_rfl) | (rw [if_neg (by decide +kernel)]; exact ⟨rfl, rfl⟩))
    (fun os started H enc _ => lifted os started H enc)
#print axioms x_holds
end Go.Proofs.YtcegclhbeflgbaaGreat

