/- contracts of the helpers of the law
   Proved without conditions of its own: each theorem bears its own. -/
import Derived.Test.YtjkhdpcmkcjjcaaD
import Derived.Test.YtjkhdpcmkcjjcaaB
import Derived.Test.YtjkhdpcmkcjjcaaC
import Derived.Test.YtjkhdpcmkcjjcaaJ
set_option linter.all false
namespace Go.Sky
open Go.Proofs
set_option maxRecDepth 20000
set_option maxHeartbeats 4000000
set_option linter.unusedVariables false
set_option linter.unusedSimpArgs false
theorem law_w (x : Int) (hx : inI x) : Cal Try.prog 22 #[.int .i64 x] [] false (G := Unit) (fun _ => True) (fun _ => wv x) (fun _ => []) := by
 refine cal_in Try.func22 rfl Try.ntmps22 rfl trivial ?_
 intro w0 sc hw hsc
 simp only [enumEnv, enumPre]
 have hxa := hx.1
 have hxb := hx.2
 have hbx := inI_bl hx
 refine e_seq (e_reg (tt (t_alloc (i := 1) rfl rfl rfl Try.zeroValue26 rfl rfl hw) rfl (fun b _ => ?_)))
 refine l_nil (x_then (e_seq (e_reg (mv rfl rfl (tt (t_call (n := 2) (r_num _ hx) rfl rfl rfl ⟨rfl, trivial⟩ Try.call46 pre_nil rfl hw) rfl (fun v _ => ?_))))))
 refine tt (t_call (n := 2) (r_to _ _ (by omega)) rfl rfl rfl ⟨rfl, trivial⟩ Try.call45 (pre_same 2 rfl rfl rfl pre_nil) rfl hw) rfl (fun _ _ => ?_)
 refine tt (t_stw (i := 1) rfl rfl rfl rfl rfl (by decide) rfl Try.sizeOf26 rfl rfl ⟨(one_rfl rfl), (one_rfl rfl), trivial⟩ rfl hw trivial) rfl (fun _ _ => ?_)
 refine l_nil (x_then (e_ret ?_))
 exact x_end (.inl rfl) hsc () _ (fun a w hs => res1 hs Try.results22 (rv_cell (i := 1) rfl rfl Try.isAgg26 Try.sizeOf26 rfl)) rfl trivial rfl give_nil
theorem law_p (v : Value) (l : List Int) (hl : ∀ x ∈ l, inI x) (hlen : l.length ≤ 1000) : Cal Try.prog 16 #[v] [slp 1 encZ v l] true (G := Value) (fun r => True) (fun r => r) (fun r => [slp 2 wv r (tzl l)]) := by
 refine cal_in Try.func16 rfl Try.ntmps16 rfl ⟨rfl, trivial⟩ ?_
 intro w0 sc hw hsc
 simp only [enumEnv, enumPre]
 have hsz := sz_ints hl
 refine e_seq (e_reg (as_ rfl rfl (l_nil (x_then (e_seq (e_reg (mv rfl rfl (tt (t_call (n := 2) (rp_nums _ _ hl hlen) rfl rfl rfl ⟨rfl, trivial⟩ Try.call43 (pre_same 1 rfl rfl rfl pre_nil) rfl hw) rfl (fun g hg => ?_)))))))))
 refine tt (t_call (n := 3) (rp_to _ _ (by rw [hg]; exact (Sz.tzl hsz).mono (by omega)) (by have h7 := congrArg List.length hg; rw [length_ints] at h7; have h8 := tzl_le l; omega)) rfl rfl rfl ⟨rfl, trivial⟩ Try.call42 (pre_same 2 rfl rfl rfl pre_nil) rfl hw) rfl (fun v _ => ?_)
 refine as_ rfl rfl (l_nil (x_then (e_ret ?_)))
 exact x_end (.inl rfl) hsc _ _ (fun a w hs => res1 hs Try.results16 rfl) rfl trivial rfl (give_samee 3 rfl rfl rfl (congrArg (slp 2 wv _) hg) give_nil)
theorem law_q (x y : Int) (hx : inI x) (hy : inI y) : Cal Try.prog 19 #[.int .i64 x, .int .i64 y] [] false (G := Unit) (fun _ => True) (fun _ => .agg #[.bool (decide (x < 0)), .string (bstr x.natAbs), .bool (decide (y < 0)), .string (bstr y.natAbs)]) (fun _ => []) := by
 refine cal_in Try.func19 rfl Try.ntmps19 rfl trivial ?_
 intro w0 sc hw hsc
 simp only [enumEnv, enumPre]
 refine e_seq (e_reg (tt (t_alloc (i := 1) rfl rfl rfl Try.zeroValue32 rfl rfl hw) rfl (fun b _ => ?_)))
 refine l_nil (x_then (e_seq (e_reg (mv rfl rfl (tt (t_call (n := 1) (law_w _ hx) rfl rfl rfl ⟨rfl, trivial⟩ Try.call22 pre_nil rfl hw) rfl (fun _ _ => ?_))))))
 refine mv rfl rfl (tt (t_call (n := 1) (law_w _ hy) rfl rfl rfl ⟨rfl, trivial⟩ Try.call22 pre_nil rfl hw) rfl (fun _ _ => ?_))
 refine dt (d_bld (ivs := [(0, _), (1, _)]) rfl ⟨rfl, rfl, rfl, rfl, trivial⟩ (fun a w hs => b32_01)) rfl ?_
 refine tt (t_stw (i := 1) rfl rfl rfl rfl rfl (by decide) rfl Try.sizeOf32 rfl rfl ⟨(one_rfl rfl), (one_rfl rfl), (one_rfl rfl), (one_rfl rfl), trivial⟩ rfl hw trivial) rfl (fun _ _ => ?_)
 refine l_nil (x_then (e_ret ?_))
 exact x_end (.inl rfl) hsc () _ (fun a w hs => res1 hs Try.results19 (rv_cell (i := 1) rfl rfl Try.isAgg32 Try.sizeOf32 rfl)) rfl trivial rfl give_nil
theorem law_is (v u : Value) (xs l : List Int) (e : Int) (hl : ∀ x ∈ l, inI x) (hlen : l.length ≤ 1000) (he : e = 0) (hx : xs = tzl l) : Cal Try.prog 15 #[v, .int .i64 e, u] [slp 2 wv v xs, slp 1 encZ u l] false (G := Unit) (fun _ => True) (fun _ => .bool true) (fun _ => []) := by
 refine cal_in Try.func15 rfl Try.ntmps15 rfl ⟨rfl, rfl, trivial⟩ ?_
 intro w0 sc hw hsc
 simp only [enumEnv, enumPre]
 refine e_seq (e_reg (as_ rfl rfl (l_nil (x_then (e_seq (e_reg (mv rfl rfl (dt (d_eql rfl rfl rfl) rfl ?_))))))))
 refine mv rfl rfl (l_split (d := 9) rfl (fun s15 => ?_) (fun s15 => ?_))
 ·refine gdt (d_mv rfl rfl) rfl rfl rfl rfl ?_
  refine gdt (d_mv rfl rfl) rfl rfl rfl rfl ?_
  refine gtt (t_call (n := 3) (law_p _ _ hl hlen) rfl rfl rfl ⟨rfl, trivial⟩ Try.call16 (pre_same 2 rfl rfl rfl pre_nil) rfl hw) rfl rfl rfl rfl (fun v _ => ?_)
  refine gtt (t_call (n := 3) (r_same_ii _ _ _ _) rfl rfl rfl ⟨rfl, rfl, trivial⟩ Try.call41 (pre_same 1 rfl rfl rfl (pre_same 3 rfl rfl rfl pre_nil)) rfl hw) rfl rfl rfl rfl (fun _ _ => ?_)
  refine dt (d_pickt rfl rfl rfl) rfl ?_
  refine as_ rfl rfl (l_nil (x_then (e_ret ?_)))
  exact x_end (.inl rfl) hsc () _ (fun a w hs => res1 hs Try.results15 rfl) (by first | rfl | (rw [decide_eq_true hx])) trivial rfl give_nil
 ·exfalso; omega
end Go.Sky
namespace Go.Sky
open Go.Proofs
theorem det_is {P : Program} {N : Nat} {sc : Nat → Prop} {o : Oper} {env : Env} {H : Hp} {r r' : Value} (h : Det P N sc o env H r) (e : r = r') : Det P N sc o env H r' := e ▸ h
theorem vp_lit {l : List Int} (h1 : ∀ x ∈ l, inI x) (h2 : tzl l = l) (h3 : l.length ≤ 25) : Vp l := ⟨sz_ints h1, h2 ▸ tr_tzl l, h3⟩
theorem inI_all {l : List Int} (h : (l.all fun x => decide (-1000000 ≤ x) && decide (x ≤ 1000000)) = true) : ∀ x ∈ l, inI x := fun x hx => by
  have h1 := List.all_eq_true.1 h x hx
  simp only [Bool.and_eq_true, decide_eq_true_eq] at h1
  exact ⟨by omega, by omega⟩
def litb (l : List Int) : Bool := (l.all fun x => decide (-1000000 ≤ x) && decide (x ≤ 1000000)) && (decide (tzl l = l) && decide (l.length ≤ 25))
theorem vp_b {l : List Int} (h : litb l = true) : Vp l := by
  unfold litb at h
  rw [Bool.and_eq_true, Bool.and_eq_true] at h
  exact vp_lit (inI_all h.1) (of_decide_eq_true h.2.1) (of_decide_eq_true h.2.2)
instance eokDec : ∀ f a b, Decidable (eok f a b)
  | 0, _, b => inferInstanceAs (Decidable (b = []))
  | f + 1, a, b => @instDecidableOr _ _ _ (@instDecidableAnd _ _ _ (eokDec f b (pprim (prest a b))))
end Go.Sky
namespace Go.Sky
open Go.Proofs
set_option linter.unusedVariables false
theorem k_of1 (v : Value) : Cal Try.prog 12 #[v] [slp 1 encZ v [1, 0, -2, 0]] true (G := Value) (fun _ => True) (fun r => .tuple #[r, .int .i64 0]) (fun r => [slp 2 wv r [1, 0, -2]]) := by
 have h := poly_of v [1, 0, -2, 0] (inI_all (by decide +kernel)) (by decide)
 rw [show (if 25 < (tzl ([1, 0, -2, 0] : List Int)).length then (7 : Int) else 0) = 0 by decide +kernel] at h
 rw [show (if 25 < (tzl ([1, 0, -2, 0] : List Int)).length then [] else (tzl ([1, 0, -2, 0] : List Int))) = [1, 0, -2] by decide +kernel] at h
 exact h
theorem k_of2 (v : Value) : Cal Try.prog 12 #[v] [slp 1 encZ v [0, 0]] true (G := Value) (fun _ => True) (fun r => .tuple #[r, .int .i64 0]) (fun r => [slp 2 wv r []]) := by
 have h := poly_of v [0, 0] (inI_all (by decide +kernel)) (by decide)
 rw [show (if 25 < (tzl ([0, 0] : List Int)).length then (7 : Int) else 0) = 0 by decide +kernel] at h
 rw [show (if 25 < (tzl ([0, 0] : List Int)).length then [] else (tzl ([0, 0] : List Int))) = [] by decide +kernel] at h
 exact h
theorem k_deg1 (v : Value) : Cal Try.prog 13 #[v] [slp 2 wv v [1, 0, -2]] false (G := Unit) (fun _ => True) (fun r => .tuple #[.int .i64 (2), .int .i64 0]) (fun r => []) := by
 have h := poly_degree v [1, 0, -2] (vp_b (by decide +kernel))
 rw [show (([1, 0, -2] : List Int).length : Int) - 1 = 2 by decide +kernel] at h
 exact h
theorem k_deg2 (v : Value) : Cal Try.prog 13 #[v] [slp 2 wv v []] false (G := Unit) (fun _ => True) (fun r => .tuple #[.int .i64 (-1), .int .i64 0]) (fun r => []) := by
 have h := poly_degree v [] (vp_b (by decide +kernel))
 rw [show (([] : List Int).length : Int) - 1 = -1 by decide +kernel] at h
 exact h
theorem k_bits (v : Value) : Cal Try.prog 14 #[v] [slp 2 wv v [1, 0, -2]] false (G := Unit) (fun _ => True) (fun r => .tuple #[.int .i64 2, .int .i64 0]) (fun r => []) := by
 have h := poly_bits v [1, 0, -2] (vp_b (by decide +kernel))
 rw [show (msz [1, 0, -2] : Int) = 2 by decide +kernel] at h
 exact h
theorem k_mul (v u : Value) : Cal Try.prog 6 #[v, u] [slp 2 wv v [1, 1], slp 2 wv u [-1, 1]] true (G := Value) (fun _ => True) (fun r => .tuple #[r, .int .i64 0]) (fun r => [slp 2 wv r [-1, 0, 1]]) := by
 have h := poly_mul v u [1, 1] [-1, 1] (vp_b (by decide +kernel)) (vp_b (by decide +kernel)) (by decide +kernel)
 rw [show pmul [1, 1] [-1, 1] = [-1, 0, 1] by decide +kernel] at h
 exact h
theorem k_sub (v u : Value) : Cal Try.prog 17 #[v, u] [slp 2 wv v [1, 2], slp 2 wv u [3, 2]] true (G := Value) (fun _ => True) (fun r => .tuple #[r, .int .i64 0]) (fun r => [slp 2 wv r [-2]]) := by
 have h := poly_sub v u [1, 2] [3, 2] (vp_b (by decide +kernel)) (vp_b (by decide +kernel)) (fun i => by have h := (vp_b (l := psub [1, 2] [3, 2]) (by decide +kernel)).sz i; rw [cf_psub] at h; exact h)
 rw [show psub [1, 2] [3, 2] = [-2] by decide +kernel] at h
 exact h
theorem k_derive (v : Value) : Cal Try.prog 18 #[v] [slp 2 wv v [5, 4, 3]] true (G := Value) (fun _ => True) (fun r => .tuple #[r, .int .i64 0]) (fun r => [slp 2 wv r [4, 6]]) := by
 have h := poly_derive v [5, 4, 3] (vp_b (by decide +kernel)) (fun i => by have h := (vp_b (l := pder [5, 4, 3]) (by decide +kernel)).sz i; rw [cf_pder] at h; exact h)
 rw [show pder [5, 4, 3] = [4, 6] by decide +kernel] at h
 exact h
theorem k_eval (v : Value) : Cal Try.prog 8 #[v, .agg #[.bool (decide ((1 : Int) < 0)), .string (bstr (1 : Int).natAbs), .bool (decide ((3 : Int) < 0)), .string (bstr (3 : Int).natAbs)]] [slp 2 wv v [1, 0, 2]] false (G := Unit) (fun _ => True) (fun r => .tuple #[wv 11, .int .i64 0]) (fun r => []) := by
 have h := poly_eval v [1, 0, 2] 1 3 (vp_b (by decide +kernel)) (by decide +kernel) (by decide +kernel) (by decide)
 rw [show evv [1, 0, 2] 1 3 = 11 by decide +kernel] at h
 rw [show eve [1, 0, 2] 1 3 = 0 by decide +kernel] at h
 exact h
theorem k_value (v : Value) : Cal Try.prog 20 #[v, .agg #[.bool (decide ((1 : Int) < 0)), .string (bstr (1 : Int).natAbs), .bool (decide ((3 : Int) < 0)), .string (bstr (3 : Int).natAbs)]] [slp 2 wv v [1, 0, 2]] false (G := Unit) (fun _ => True) (fun r => .tuple #[.agg #[.bool (decide ((11 : Int) < 0)), .string (bstr (11 : Int).natAbs), .bool (decide ((9 : Int) < 0)), .string (bstr (9 : Int).natAbs)], .int .i64 0]) (fun r => []) := by
 have h := poly_value v [1, 0, 2] 1 3 (vp_b (by decide +kernel)) (by decide +kernel) (by decide +kernel) (by decide) (by decide +kernel)
 unfold ratioV at h
 rw [show rnum (pev [1, 0, 2] 1 3) ((3 : Int) ^ (([1, 0, 2] : List Int).length - 1)) = 11 by decide +kernel] at h
 rw [show rden (pev [1, 0, 2] 1 3) ((3 : Int) ^ (([1, 0, 2] : List Int).length - 1)) = 9 by decide +kernel] at h
 rw [show rerr (pev [1, 0, 2] 1 3) ((3 : Int) ^ (([1, 0, 2] : List Int).length - 1)) = 0 by decide +kernel] at h
 exact h
theorem k_sign (v : Value) : Cal Try.prog 21 #[v, .agg #[.bool (decide ((7 : Int) < 0)), .string (bstr (7 : Int).natAbs), .bool (decide ((5 : Int) < 0)), .string (bstr (5 : Int).natAbs)]] [slp 2 wv v [-2, 0, 1]] false (G := Unit) (fun _ => True) (fun r => .tuple #[.int .i64 (-1), .int .i64 0]) (fun r => []) := by
 have h := poly_signat v [-2, 0, 1] 7 5 (vp_b (by decide +kernel)) (by decide +kernel) (by decide +kernel) (by decide)
 rw [show (evv [-2, 0, 1] 7 5).sign = -1 by decide +kernel] at h
 rw [show eve [-2, 0, 1] 7 5 = 0 by decide +kernel] at h
 exact h
theorem k_compose (v : Value) : Cal Try.prog 9 #[v, wv 1, wv 1, wv 3] [slp 2 wv v [1, 0, 2]] true (G := Value) (fun _ => True) (fun r => .tuple #[r, .int .i64 0]) (fun r => [slp 2 wv r [11, 4, 2]]) := by
 have h := poly_compose v [1, 0, 2] 1 1 3 (vp_b (by decide +kernel)) (by decide +kernel) (by decide +kernel) (by decide +kernel) (by decide) (by decide +kernel)
 rw [show pcompo [1, 0, 2] 1 1 3 = [11, 4, 2] by decide +kernel] at h
 exact h
theorem k_content (v : Value) : Cal Try.prog 23 #[v] [slp 2 wv v [6, -4]] false (G := Unit) (fun _ => True) (fun r => .tuple #[wv 2, .int .i64 0]) (fun r => []) := by
 have h := poly_content v [6, -4] (vp_b (by decide +kernel))
 rw [show pcont [6, -4] = 2 by decide +kernel] at h
 exact h
theorem k_prim (v : Value) : Cal Try.prog 24 #[v] [slp 2 wv v [-6, -4]] true (G := Value) (fun _ => True) (fun r => .tuple #[r, .int .i64 0]) (fun r => [slp 2 wv r [-3, -2]]) := by
 have h := poly_primitive v [-6, -4] (vp_b (by decide +kernel))
 rw [show pprim [-6, -4] = [-3, -2] by decide +kernel] at h
 exact h
theorem k_rest (v u : Value) : Cal Try.prog 11 #[v, u] [slp 2 wv v [1, 0, 0, 1], slp 2 wv u [1, 2]] true (G := Value) (fun _ => True) (fun r => .tuple #[r, .int .i64 0]) (fun r => [slp 2 wv r [7]]) := by
 have h := poly_rest v u [1, 0, 0, 1] [1, 2] (vp_b (by decide +kernel)) (vp_b (by decide +kernel)) (by decide +kernel)
 rw [show prest [1, 0, 0, 1] [1, 2] = [7] by decide +kernel] at h
 exact h
theorem k_div1 (v u : Value) : Cal Try.prog 25 #[v, u] [slp 2 wv v [-1, 0, 1], slp 2 wv u [1, 1]] true (G := Value) (fun _ => True) (fun r => .tuple #[r, .int .i64 0]) (fun r => [slp 2 wv r [-1, 1]]) := by
 have h := poly_divide v u [-1, 0, 1] [1, 1] (vp_b (by decide +kernel)) (vp_b (by decide +kernel)) (by decide +kernel)
 rw [show (if pdv [-1, 0, 1] [1, 1] then (0 : Int) else 10) = 0 by decide +kernel] at h
 rw [show (if pdv [-1, 0, 1] [1, 1] then pquoz [-1, 0, 1] [1, 1] else []) = [-1, 1] by decide +kernel] at h
 exact h
theorem k_div2 (v u : Value) : Cal Try.prog 25 #[v, u] [slp 2 wv v [1, 0, 1], slp 2 wv u [1, 1]] true (G := Value) (fun _ => True) (fun r => .tuple #[r, .int .i64 10]) (fun r => [slp 2 wv r []]) := by
 have h := poly_divide v u [1, 0, 1] [1, 1] (vp_b (by decide +kernel)) (vp_b (by decide +kernel)) (by decide +kernel)
 rw [show (if pdv [1, 0, 1] [1, 1] then (0 : Int) else 10) = 10 by decide +kernel] at h
 rw [show (if pdv [1, 0, 1] [1, 1] then pquoz [1, 0, 1] [1, 1] else []) = [] by decide +kernel] at h
 exact h
theorem k_gcd1 (v u : Value) : Cal Try.prog 10 #[v, u] [slp 2 wv v [-1, 0, 1], slp 2 wv u [2, 4, 2]] true (G := Value) (fun _ => True) (fun r => .tuple #[r, .int .i64 0]) (fun r => [slp 2 wv r [1, 1]]) := by
 have h := poly_gcd v u [-1, 0, 1] [2, 4, 2] (vp_b (by decide +kernel)) (vp_b (by decide +kernel)) 4 (by decide +kernel) (by decide +kernel)
 rw [show pgcd 4 [-1, 0, 1] [2, 4, 2] = [1, 1] by decide +kernel] at h
 exact h
theorem k_gcd2 (v u : Value) : Cal Try.prog 10 #[v, u] [slp 2 wv v [1, 1], slp 2 wv u []] true (G := Value) (fun _ => True) (fun r => .tuple #[r, .int .i64 0]) (fun r => [slp 2 wv r [1, 1]]) := by
 have h := poly_gcd v u [1, 1] [] (vp_b (by decide +kernel)) (vp_b (by decide +kernel)) 4 (by decide +kernel) (by decide +kernel)
 rw [show pgcd 4 [1, 1] [] = [1, 1] by decide +kernel] at h
 exact h
theorem k_gcd3 (v u : Value) : Cal Try.prog 10 #[v, u] [slp 2 wv v [2], slp 2 wv u [4]] true (G := Value) (fun _ => True) (fun r => .tuple #[r, .int .i64 0]) (fun r => [slp 2 wv r [1]]) := by
 have h := poly_gcd v u [2] [4] (vp_b (by decide +kernel)) (vp_b (by decide +kernel)) 4 (by decide +kernel) (by decide +kernel)
 rw [show pgcd 4 [2] [4] = [1] by decide +kernel] at h
 exact h
theorem k_p (v : Value) (l xs : List Int) (h1 : (l.all fun x => decide (-1000000 ≤ x) && decide (x ≤ 1000000)) = true) (h2 : l.length ≤ 1000) (hx : tzl l = xs) : Cal Try.prog 16 #[v] [slp 1 encZ v l] true (G := Value) (fun _ => True) (fun r => r) (fun r => [slp 2 wv r xs]) := by
 subst hx; exact law_p v l (inI_all h1) h2
end Go.Sky
namespace Go.Sky
open Go.Proofs
set_option maxRecDepth 20000
set_option maxHeartbeats 4000000
set_option linter.unusedVariables false
set_option linter.unusedSimpArgs false
set_option maxHeartbeats 4000000 in
theorem law_known  : Cal Try.prog 4 #[] [] false (G := Unit) (fun _ => True) (fun _ => .bool true) (fun _ => []) := by
 refine cal_in Try.func4 rfl Try.ntmps4 rfl trivial ?_
 intro w0 sc hw hsc
 simp only [enumEnv, enumPre]
 refine e_imp (s_nil 999 2 26 wv) ?_
 refine e_imp (s_pub 999 rfl rfl pV) ?_
 refine e_seq (e_reg (as_ rfl rfl (l_nil (x_then (e_seq (e_reg (tt (t_bsg (i := 1) (ivs := [(0, _), (1, _), (2, _), (3, _)]) (enc := encZ) ([1, 0, -2, 0] : List Int) rfl rfl rfl ⟨rfl, rfl, rfl, rfl, rfl, rfl, rfl, rfl, trivial⟩ Try.underlying65 Try.ti3 rfl rfl rfl rfl rfl rfl pZ.cells rfl rfl hw) rfl (fun v _ => ?_))))))))
 refine l_imp (s_pub 1 rfl rfl pZ) ?_
 refine tt (t_call (n := 2) (k_of1 _) rfl rfl rfl ⟨rfl, trivial⟩ Try.call12 (pre_same 1 rfl rfl rfl pre_nil) rfl hw) rfl (fun _ _ => ?_)
 refine mv rfl rfl (dt (d_ex rfl rfl rfl) rfl ?_)
 refine dt (d_ex rfl rfl rfl) rfl ?_
 refine as_ rfl rfl (as_ rfl rfl (l_nil (x_then (e_seq (e_reg (mv rfl rfl (tt (t_call (n := 2) (k_deg1 _) rfl rfl rfl ⟨rfl, trivial⟩ Try.call13 (pre_same 2 rfl rfl rfl pre_nil) rfl hw) rfl (fun _ _ => ?_))))))))
 refine mv rfl rfl (dt (d_ex rfl rfl rfl) rfl ?_)
 refine dt (d_ex rfl rfl rfl) rfl ?_
 refine as_ rfl rfl (as_ rfl rfl (l_nil (x_then (e_seq (e_reg (mv rfl rfl (tt (t_call (n := 2) (k_bits _) rfl rfl rfl ⟨rfl, trivial⟩ Try.call14 (pre_same 2 rfl rfl rfl pre_nil) rfl hw) rfl (fun _ _ => ?_))))))))
 refine mv rfl rfl (dt (d_ex rfl rfl rfl) rfl ?_)
 refine dt (d_ex rfl rfl rfl) rfl ?_
 refine as_ rfl rfl (as_ rfl rfl (l_nil (x_then (e_seq (e_reg (tt (t_bsg (i := 3) (ivs := [(0, _), (1, _)]) (enc := encZ) ([0, 0] : List Int) rfl rfl rfl ⟨rfl, rfl, rfl, rfl, trivial⟩ Try.underlying65 Try.ti3 rfl rfl rfl rfl rfl rfl pZ.cells rfl rfl hw) rfl (fun v_2 _ => ?_)))))))
 refine l_imp (s_pub 3 rfl rfl pZ) ?_
 refine tt (t_call (n := 4) (k_of2 _) rfl rfl rfl ⟨rfl, trivial⟩ Try.call12 (pre_same 3 rfl rfl rfl pre_nil) rfl hw) rfl (fun _ _ => ?_)
 refine mv rfl rfl (dt (d_ex rfl rfl rfl) rfl ?_)
 refine dt (d_ex rfl rfl rfl) rfl ?_
 refine as_ rfl rfl (as_ rfl rfl (l_nil (x_then (e_seq (e_reg (mv rfl rfl (tt (t_call (n := 4) (k_deg2 _) rfl rfl rfl ⟨rfl, trivial⟩ Try.call13 (pre_same 4 rfl rfl rfl pre_nil) rfl hw) rfl (fun _ _ => ?_))))))))
 refine mv rfl rfl (dt (d_ex rfl rfl rfl) rfl ?_)
 refine dt (d_ex rfl rfl rfl) rfl ?_
 refine as_ rfl rfl (as_ rfl rfl (l_nil (x_then (e_seq (e_seq (e_reg (mv rfl rfl (mv rfl rfl (tt (t_bsg (i := 5) (ivs := [(0, _), (1, _), (2, _)]) (enc := encZ) ([1, 0, -2] : List Int) rfl rfl rfl ⟨rfl, rfl, rfl, rfl, rfl, rfl, trivial⟩ Try.underlying65 Try.ti3 rfl rfl rfl rfl rfl rfl pZ.cells rfl rfl hw) rfl (fun v_3 _ => ?_))))))))))
 refine tt (t_call (n := 5) (law_is _ _ _ _ _ (inI_all (by decide +kernel)) (by decide) (by decide +kernel) (by decide +kernel)) rfl rfl rfl ⟨rfl, rfl, rfl, trivial⟩ Try.call15 (pre_same 2 rfl rfl rfl (pre_lend 5 rfl rfl pZ pre_nil)) rfl hw) rfl (fun _ _ => ?_)
 refine dt (d_notb rfl rfl) rfl ?_
 refine mv rfl rfl (gdt (d_mv rfl rfl) rfl rfl rfl rfl ?_)
 refine gdt (det_is (r' := .bool false) (d_neq rfl rfl rfl) (congrArg Value.bool (by decide))) rfl rfl rfl rfl ?_
 refine dt (d_pickf rfl rfl rfl) rfl ?_
 refine mv rfl rfl (gdt (d_mv rfl rfl) rfl rfl rfl rfl ?_)
 refine gdt (det_is (r' := .bool false) (d_neq rfl rfl rfl) (congrArg Value.bool (by decide))) rfl rfl rfl rfl ?_
 refine dt (d_pickf rfl rfl rfl) rfl ?_
 refine mv rfl rfl (gdt (d_mv rfl rfl) rfl rfl rfl rfl ?_)
 refine gdt (det_is (r' := .bool false) (d_neq rfl rfl rfl) (congrArg Value.bool (by decide))) rfl rfl rfl rfl ?_
 refine dt (d_pickf rfl rfl rfl) rfl ?_
 refine mv rfl rfl (gdt (d_mv rfl rfl) rfl rfl rfl rfl ?_)
 refine gdt (det_is (r' := .bool false) (d_neq rfl rfl rfl) (congrArg Value.bool (by decide))) rfl rfl rfl rfl ?_
 refine dt (d_pickf rfl rfl rfl) rfl ?_
 refine mv rfl rfl (gdt (d_mv rfl rfl) rfl rfl rfl rfl ?_)
 refine gdt (d_len rfl rfl (i := 4) rfl rd_slp Try.underlying24) rfl rfl rfl rfl ?_
 refine gdt (det_is (r' := .bool false) (d_neq rfl rfl rfl) (congrArg Value.bool (by decide))) rfl rfl rfl rfl ?_
 refine dt (d_pickf rfl rfl rfl) rfl ?_
 refine mv rfl rfl (gdt (d_mv rfl rfl) rfl rfl rfl rfl ?_)
 refine gdt (det_is (r' := .bool false) (d_neq rfl rfl rfl) (congrArg Value.bool (by decide))) rfl rfl rfl rfl ?_
 refine dt (d_pickf rfl rfl rfl) rfl ?_
 refine mv rfl rfl (gdt (d_mv rfl rfl) rfl rfl rfl rfl ?_)
 refine gdt (det_is (r' := .bool false) (d_neq rfl rfl rfl) (congrArg Value.bool (by decide))) rfl rfl rfl rfl ?_
 refine dt (d_pickf rfl rfl rfl) rfl ?_
 refine mv rfl rfl (gdt (d_mv rfl rfl) rfl rfl rfl rfl ?_)
 refine gdt (det_is (r' := .bool false) (d_neq rfl rfl rfl) (congrArg Value.bool (by decide))) rfl rfl rfl rfl ?_
 refine dt (d_pickf rfl rfl rfl) rfl ?_
 refine l_nil (x_then (e_condf rfl ?_))
 refine e_skip ?_
 refine x_then (e_seq (e_reg (tt (t_bsg (i := 6) (ivs := [(0, _), (1, _)]) (enc := encZ) ([1, 1] : List Int) rfl rfl rfl ⟨rfl, rfl, rfl, rfl, trivial⟩ Try.underlying65 Try.ti3 rfl rfl rfl rfl rfl rfl pZ.cells rfl rfl hw) rfl (fun v_4 _ => ?_))))
 refine l_imp (s_pub 6 rfl rfl pZ) ?_
 refine tt (t_call (n := 7) (k_p _ [1, 1] [1, 1] (by decide +kernel) (by decide) (by decide +kernel)) rfl rfl rfl ⟨rfl, trivial⟩ Try.call16 (pre_same 6 rfl rfl rfl pre_nil) rfl hw) rfl (fun v_5 _ => ?_)
 refine tt (t_bsg (i := 8) (ivs := [(0, _), (1, _)]) (enc := encZ) ([-1, 1] : List Int) rfl rfl rfl ⟨rfl, rfl, rfl, rfl, trivial⟩ Try.underlying65 Try.ti3 rfl rfl rfl rfl rfl rfl pZ.cells rfl rfl hw) rfl (fun v_6 _ => ?_)
 refine l_imp (s_pub 8 rfl rfl pZ) ?_
 refine tt (t_call (n := 9) (k_p _ [-1, 1] [-1, 1] (by decide +kernel) (by decide) (by decide +kernel)) rfl rfl rfl ⟨rfl, trivial⟩ Try.call16 (pre_same 8 rfl rfl rfl pre_nil) rfl hw) rfl (fun v_7 _ => ?_)
 refine tt (t_call (n := 10) (k_mul _ _) rfl rfl rfl ⟨rfl, rfl, trivial⟩ Try.call6 (pre_same 7 rfl rfl rfl (pre_same 9 rfl rfl rfl pre_nil)) rfl hw) rfl (fun _ _ => ?_)
 refine mv rfl rfl (dt (d_ex rfl rfl rfl) rfl ?_)
 refine dt (d_ex rfl rfl rfl) rfl ?_
 refine as_ rfl rfl (as_ rfl rfl (l_nil (x_then (e_seq (e_reg (tt (t_bsg (i := 11) (ivs := [(0, _), (1, _)]) (enc := encZ) ([1, 2] : List Int) rfl rfl rfl ⟨rfl, rfl, rfl, rfl, trivial⟩ Try.underlying65 Try.ti3 rfl rfl rfl rfl rfl rfl pZ.cells rfl rfl hw) rfl (fun v_8 _ => ?_)))))))
 refine l_imp (s_pub 11 rfl rfl pZ) ?_
 refine tt (t_call (n := 12) (k_p _ [1, 2] [1, 2] (by decide +kernel) (by decide) (by decide +kernel)) rfl rfl rfl ⟨rfl, trivial⟩ Try.call16 (pre_same 11 rfl rfl rfl pre_nil) rfl hw) rfl (fun v_9 _ => ?_)
 refine tt (t_bsg (i := 13) (ivs := [(0, _), (1, _)]) (enc := encZ) ([3, 2] : List Int) rfl rfl rfl ⟨rfl, rfl, rfl, rfl, trivial⟩ Try.underlying65 Try.ti3 rfl rfl rfl rfl rfl rfl pZ.cells rfl rfl hw) rfl (fun v_10 _ => ?_)
 refine l_imp (s_pub 13 rfl rfl pZ) ?_
 refine tt (t_call (n := 14) (k_p _ [3, 2] [3, 2] (by decide +kernel) (by decide) (by decide +kernel)) rfl rfl rfl ⟨rfl, trivial⟩ Try.call16 (pre_same 13 rfl rfl rfl pre_nil) rfl hw) rfl (fun v_11 _ => ?_)
 refine tt (t_call (n := 15) (k_sub _ _) rfl rfl rfl ⟨rfl, rfl, trivial⟩ Try.call17 (pre_same 12 rfl rfl rfl (pre_same 14 rfl rfl rfl pre_nil)) rfl hw) rfl (fun _ _ => ?_)
 refine mv rfl rfl (dt (d_ex rfl rfl rfl) rfl ?_)
 refine dt (d_ex rfl rfl rfl) rfl ?_
 refine as_ rfl rfl (as_ rfl rfl (l_nil (x_then (e_seq (e_reg (tt (t_bsg (i := 16) (ivs := [(0, _), (1, _), (2, _)]) (enc := encZ) ([5, 4, 3] : List Int) rfl rfl rfl ⟨rfl, rfl, rfl, rfl, rfl, rfl, trivial⟩ Try.underlying65 Try.ti3 rfl rfl rfl rfl rfl rfl pZ.cells rfl rfl hw) rfl (fun v_12 _ => ?_)))))))
 refine l_imp (s_pub 16 rfl rfl pZ) ?_
 refine tt (t_call (n := 17) (k_p _ [5, 4, 3] [5, 4, 3] (by decide +kernel) (by decide) (by decide +kernel)) rfl rfl rfl ⟨rfl, trivial⟩ Try.call16 (pre_same 16 rfl rfl rfl pre_nil) rfl hw) rfl (fun v_13 _ => ?_)
 refine tt (t_call (n := 18) (k_derive _) rfl rfl rfl ⟨rfl, trivial⟩ Try.call18 (pre_same 17 rfl rfl rfl pre_nil) rfl hw) rfl (fun _ _ => ?_)
 refine mv rfl rfl (dt (d_ex rfl rfl rfl) rfl ?_)
 refine dt (d_ex rfl rfl rfl) rfl ?_
 refine as_ rfl rfl (as_ rfl rfl (l_nil (x_then (e_seq (e_seq (e_reg (mv rfl rfl (mv rfl rfl (tt (t_bsg (i := 19) (ivs := [(0, _), (1, _), (2, _)]) (enc := encZ) ([-1, 0, 1] : List Int) rfl rfl rfl ⟨rfl, rfl, rfl, rfl, rfl, rfl, trivial⟩ Try.underlying65 Try.ti3 rfl rfl rfl rfl rfl rfl pZ.cells rfl rfl hw) rfl (fun v_14 _ => ?_))))))))))
 refine tt (t_call (n := 19) (law_is _ _ _ _ _ (inI_all (by decide +kernel)) (by decide) (by decide +kernel) (by decide +kernel)) rfl rfl rfl ⟨rfl, rfl, rfl, trivial⟩ Try.call15 (pre_same 10 rfl rfl rfl (pre_lend 19 rfl rfl pZ pre_nil)) rfl hw) rfl (fun _ _ => ?_)
 refine dt (d_notb rfl rfl) rfl ?_
 refine mv rfl rfl (gdt (d_mv rfl rfl) rfl rfl rfl rfl ?_)
 refine gdt (d_mv rfl rfl) rfl rfl rfl rfl ?_
 refine gtt (t_bsg (i := 20) (ivs := [(0, _)]) (enc := encZ) ([-2] : List Int) rfl rfl rfl ⟨rfl, rfl, trivial⟩ Try.underlying65 Try.ti3 rfl rfl rfl rfl rfl rfl pZ.cells rfl rfl hw) rfl rfl rfl rfl (fun v_15 _ => ?_)
 refine gtt (t_call (n := 20) (law_is _ _ _ _ _ (inI_all (by decide +kernel)) (by decide) (by decide +kernel) (by decide +kernel)) rfl rfl rfl ⟨rfl, rfl, rfl, trivial⟩ Try.call15 (pre_same 15 rfl rfl rfl (pre_lend 20 rfl rfl pZ pre_nil)) rfl hw) rfl rfl rfl rfl (fun _ _ => ?_)
 refine gdt (d_notb rfl rfl) rfl rfl rfl rfl ?_
 refine dt (d_pickf rfl rfl rfl) rfl ?_
 refine mv rfl rfl (gdt (d_mv rfl rfl) rfl rfl rfl rfl ?_)
 refine gdt (d_mv rfl rfl) rfl rfl rfl rfl ?_
 refine gtt (t_bsg (i := 21) (ivs := [(0, _), (1, _)]) (enc := encZ) ([4, 6] : List Int) rfl rfl rfl ⟨rfl, rfl, rfl, rfl, trivial⟩ Try.underlying65 Try.ti3 rfl rfl rfl rfl rfl rfl pZ.cells rfl rfl hw) rfl rfl rfl rfl (fun v_16 _ => ?_)
 refine gtt (t_call (n := 21) (law_is _ _ _ _ _ (inI_all (by decide +kernel)) (by decide) (by decide +kernel) (by decide +kernel)) rfl rfl rfl ⟨rfl, rfl, rfl, trivial⟩ Try.call15 (pre_same 18 rfl rfl rfl (pre_lend 21 rfl rfl pZ pre_nil)) rfl hw) rfl rfl rfl rfl (fun _ _ => ?_)
 refine gdt (d_notb rfl rfl) rfl rfl rfl rfl ?_
 refine dt (d_pickf rfl rfl rfl) rfl ?_
 refine l_nil (x_then (e_condf rfl ?_))
 refine e_skip ?_
 refine x_then (e_seq (e_reg (tt (t_bsg (i := 22) (ivs := [(0, _), (1, _), (2, _)]) (enc := encZ) ([1, 0, 2] : List Int) rfl rfl rfl ⟨rfl, rfl, rfl, rfl, rfl, rfl, trivial⟩ Try.underlying65 Try.ti3 rfl rfl rfl rfl rfl rfl pZ.cells rfl rfl hw) rfl (fun v_17 _ => ?_))))
 refine l_imp (s_pub 22 rfl rfl pZ) ?_
 refine tt (t_call (n := 23) (k_p _ [1, 0, 2] [1, 0, 2] (by decide +kernel) (by decide) (by decide +kernel)) rfl rfl rfl ⟨rfl, trivial⟩ Try.call16 (pre_same 22 rfl rfl rfl pre_nil) rfl hw) rfl (fun v_18 _ => ?_)
 refine tt (t_call (n := 23) (law_q _ _ ⟨by decide, by decide⟩ ⟨by decide, by decide⟩) rfl rfl rfl ⟨rfl, rfl, trivial⟩ Try.call19 pre_nil rfl hw) rfl (fun _ _ => ?_)
 refine tt (t_call (n := 23) (k_eval _) rfl rfl rfl ⟨rfl, rfl, trivial⟩ Try.call8 (pre_same 23 rfl rfl rfl pre_nil) rfl hw) rfl (fun _ _ => ?_)
 refine mv rfl rfl (dt (d_ex rfl rfl rfl) rfl ?_)
 refine dt (d_ex rfl rfl rfl) rfl ?_
 refine tt (t_alloc (i := 24) rfl rfl rfl Try.zeroValue26 rfl rfl hw) rfl (fun b _ => ?_)
 refine tt (t_stw (i := 24) rfl rfl rfl rfl rfl (by decide) rfl Try.sizeOf26 rfl rfl ⟨(one_rfl rfl), (one_rfl rfl), trivial⟩ rfl hw trivial) rfl (fun _ _ => ?_)
 refine as_ rfl rfl (l_nil (x_then (e_seq (e_reg (tt (t_bsg (i := 25) (ivs := [(0, _), (1, _), (2, _)]) (enc := encZ) ([1, 0, 2] : List Int) rfl rfl rfl ⟨rfl, rfl, rfl, rfl, rfl, rfl, trivial⟩ Try.underlying65 Try.ti3 rfl rfl rfl rfl rfl rfl pZ.cells rfl rfl hw) rfl (fun v_19 _ => ?_))))))
 refine l_imp (s_pub 25 rfl rfl pZ) ?_
 refine tt (t_call (n := 26) (k_p _ [1, 0, 2] [1, 0, 2] (by decide +kernel) (by decide) (by decide +kernel)) rfl rfl rfl ⟨rfl, trivial⟩ Try.call16 (pre_same 25 rfl rfl rfl pre_nil) rfl hw) rfl (fun v_20 _ => ?_)
 refine tt (t_call (n := 26) (law_q _ _ ⟨by decide, by decide⟩ ⟨by decide, by decide⟩) rfl rfl rfl ⟨rfl, rfl, trivial⟩ Try.call19 pre_nil rfl hw) rfl (fun _ _ => ?_)
 refine tt (t_call (n := 26) (k_value _) rfl rfl rfl ⟨rfl, rfl, trivial⟩ Try.call20 (pre_same 26 rfl rfl rfl pre_nil) rfl hw) rfl (fun _ _ => ?_)
 refine mv rfl rfl (dt (d_ex rfl rfl rfl) rfl ?_)
 refine dt (d_ex rfl rfl rfl) rfl ?_
 refine tt (t_alloc (i := 27) rfl rfl rfl Try.zeroValue32 rfl rfl hw) rfl (fun b_2 _ => ?_)
 refine tt (t_stw (i := 27) rfl rfl rfl rfl rfl (by decide) rfl Try.sizeOf32 rfl rfl ⟨(one_rfl rfl), (one_rfl rfl), (one_rfl rfl), (one_rfl rfl), trivial⟩ rfl hw trivial) rfl (fun _ _ => ?_)
 refine as_ rfl rfl (l_nil (x_then (e_seq (e_reg (tt (t_bsg (i := 28) (ivs := [(0, _), (1, _), (2, _)]) (enc := encZ) ([-2, 0, 1] : List Int) rfl rfl rfl ⟨rfl, rfl, rfl, rfl, rfl, rfl, trivial⟩ Try.underlying65 Try.ti3 rfl rfl rfl rfl rfl rfl pZ.cells rfl rfl hw) rfl (fun v_21 _ => ?_))))))
 refine l_imp (s_pub 28 rfl rfl pZ) ?_
 refine tt (t_call (n := 29) (k_p _ [-2, 0, 1] [-2, 0, 1] (by decide +kernel) (by decide) (by decide +kernel)) rfl rfl rfl ⟨rfl, trivial⟩ Try.call16 (pre_same 28 rfl rfl rfl pre_nil) rfl hw) rfl (fun v_22 _ => ?_)
 refine tt (t_call (n := 29) (law_q _ _ ⟨by decide, by decide⟩ ⟨by decide, by decide⟩) rfl rfl rfl ⟨rfl, rfl, trivial⟩ Try.call19 pre_nil rfl hw) rfl (fun _ _ => ?_)
 refine tt (t_call (n := 29) (k_sign _) rfl rfl rfl ⟨rfl, rfl, trivial⟩ Try.call21 (pre_same 29 rfl rfl rfl pre_nil) rfl hw) rfl (fun _ _ => ?_)
 refine mv rfl rfl (dt (d_ex rfl rfl rfl) rfl ?_)
 refine dt (d_ex rfl rfl rfl) rfl ?_
 refine as_ rfl rfl (as_ rfl rfl (l_nil (x_then (e_seq (e_reg (tt (t_bsg (i := 30) (ivs := [(0, _), (1, _), (2, _)]) (enc := encZ) ([1, 0, 2] : List Int) rfl rfl rfl ⟨rfl, rfl, rfl, rfl, rfl, rfl, trivial⟩ Try.underlying65 Try.ti3 rfl rfl rfl rfl rfl rfl pZ.cells rfl rfl hw) rfl (fun v_23 _ => ?_)))))))
 refine l_imp (s_pub 30 rfl rfl pZ) ?_
 refine tt (t_call (n := 31) (k_p _ [1, 0, 2] [1, 0, 2] (by decide +kernel) (by decide) (by decide +kernel)) rfl rfl rfl ⟨rfl, trivial⟩ Try.call16 (pre_same 30 rfl rfl rfl pre_nil) rfl hw) rfl (fun v_24 _ => ?_)
 refine tt (t_call (n := 31) (law_w _ ⟨by decide, by decide⟩) rfl rfl rfl ⟨rfl, trivial⟩ Try.call22 pre_nil rfl hw) rfl (fun _ _ => ?_)
 refine tt (t_call (n := 31) (law_w _ ⟨by decide, by decide⟩) rfl rfl rfl ⟨rfl, trivial⟩ Try.call22 pre_nil rfl hw) rfl (fun _ _ => ?_)
 refine tt (t_call (n := 31) (law_w _ ⟨by decide, by decide⟩) rfl rfl rfl ⟨rfl, trivial⟩ Try.call22 pre_nil rfl hw) rfl (fun _ _ => ?_)
 refine tt (t_call (n := 32) (k_compose _) rfl rfl rfl ⟨rfl, rfl, rfl, rfl, trivial⟩ Try.call9 (pre_same 31 rfl rfl rfl pre_nil) rfl hw) rfl (fun _ _ => ?_)
 refine mv rfl rfl (dt (d_ex rfl rfl rfl) rfl ?_)
 refine dt (d_ex rfl rfl rfl) rfl ?_
 refine as_ rfl rfl (as_ rfl rfl (l_nil (x_then (e_seq (e_seq (e_dreg (fun _ => False) [(0, 0), (1, 1), (2, 0), (3, 0), (4, 0), (5, 0), (6, 0), (7, 0), (8, 0), (9, 1), (10, 0), (11, 0), (12, 0), (13, 0), (14, 0), (15, 0), (16, 0), (17, 0), (18, 0), (19, 0), (20, 0), (21, 0), (22, 0), (23, 0), (24, 0), (25, 0), (26, 0), (27, 1), (28, 1), (29, 0), (30, 0)] (by kernel_rfl) ?_ ?_))))))
 ·kernel_rfl
 refine r0' rfl rfl rfl rfl (st0 (d_lb2 (i := 24) rfl rfl rfl Try.isAgg26 Try.sizeOf26 rfl rfl)) ?_
 refine r1' rfl rfl (t_call (n := 32) (law_w _ ⟨by decide, by decide⟩) rfl rfl rfl ⟨rfl, trivial⟩ Try.call22 pre_nil rfl hw) (fun _ _ => ?_)
 refine r0' rfl rfl rfl rfl (st0 (det_is (r' := .bool false) (d_eqg rfl rfl rfl eg26 (fun w => neq26 w _ _ _ _)) (congrArg Value.bool (by simp [eqW_refl])))) ?_
 refine r0' rfl rfl rfl rfl (st0 (d_mv rfl rfl)) ?_
 refine r0g (st0 (d_mv rfl rfl)) rfl rfl rfl rfl rfl rfl rfl ?_
 refine r0g (st0 (det_is (r' := .bool false) (d_neq rfl rfl rfl) (congrArg Value.bool (by decide)))) rfl rfl rfl rfl rfl rfl rfl ?_
 refine r0' rfl rfl rfl rfl (st0 (d_pickf rfl rfl rfl)) ?_
 refine r0' rfl rfl rfl rfl (st0 (d_mv rfl rfl)) ?_
 refine r0g (st0 (d_lb4 (i := 27) rfl rfl rfl Try.isAgg32 Try.sizeOf32 rfl rfl rfl rfl)) rfl rfl rfl rfl rfl rfl rfl ?_
 refine r1g' rfl rfl rfl rfl rfl (t_call (n := 32) (law_q _ _ ⟨by decide, by decide⟩ ⟨by decide, by decide⟩) rfl rfl rfl ⟨rfl, rfl, trivial⟩ Try.call19 pre_nil rfl hw) (fun _ _ => ?_)
 refine r0g (st0 (det_is (r' := .bool false) (d_eqg rfl rfl rfl eg32 (fun w => neq32 w _ _ _ _ _ _ _ _)) (congrArg Value.bool (by simp [eqW_refl])))) rfl rfl rfl rfl rfl rfl rfl ?_
 refine r0' rfl rfl rfl rfl (st0 (d_pickf rfl rfl rfl)) ?_
 refine r0' rfl rfl rfl rfl (st0 (d_mv rfl rfl)) ?_
 refine r0g (st0 (d_mv rfl rfl)) rfl rfl rfl rfl rfl rfl rfl ?_
 refine r0g (st0 (det_is (r' := .bool false) (d_neq rfl rfl rfl) (congrArg Value.bool (by decide)))) rfl rfl rfl rfl rfl rfl rfl ?_
 refine r0' rfl rfl rfl rfl (st0 (d_pickf rfl rfl rfl)) ?_
 refine r0' rfl rfl rfl rfl (st0 (d_mv rfl rfl)) ?_
 refine r0g (st0 (d_mv rfl rfl)) rfl rfl rfl rfl rfl rfl rfl ?_
 refine r0g (st0 (det_is (r' := .bool false) (d_neq rfl rfl rfl) (congrArg Value.bool (by decide)))) rfl rfl rfl rfl rfl rfl rfl ?_
 refine r0' rfl rfl rfl rfl (st0 (d_pickf rfl rfl rfl)) ?_
 refine r0' rfl rfl rfl rfl (st0 (d_mv rfl rfl)) ?_
 refine r0g (st0 (d_mv rfl rfl)) rfl rfl rfl rfl rfl rfl rfl ?_
 refine r0g (st0 (det_is (r' := .bool false) (d_neq rfl rfl rfl) (congrArg Value.bool (by decide)))) rfl rfl rfl rfl rfl rfl rfl ?_
 refine r0' rfl rfl rfl rfl (st0 (d_pickf rfl rfl rfl)) ?_
 refine r0' rfl rfl rfl rfl (st0 (d_mv rfl rfl)) ?_
 refine r0g (st0 (d_mv rfl rfl)) rfl rfl rfl rfl rfl rfl rfl ?_
 refine r0g (st0 (d_mv rfl rfl)) rfl rfl rfl rfl rfl rfl rfl ?_
 refine r1g' rfl rfl rfl rfl rfl (t_bsg (i := 33) (ivs := [(0, _), (1, _), (2, _)]) (enc := encZ) ([11, 4, 2] : List Int) rfl rfl rfl ⟨rfl, rfl, rfl, rfl, rfl, rfl, trivial⟩ Try.underlying65 Try.ti3 rfl rfl rfl rfl rfl rfl pZ.cells rfl rfl hw) (fun v_25 _ => ?_)
 refine r1g' rfl rfl rfl rfl rfl (t_call (n := 33) (law_is _ _ _ _ _ (inI_all (by decide +kernel)) (by decide) (by decide +kernel) (by decide +kernel)) rfl rfl rfl ⟨rfl, rfl, rfl, trivial⟩ Try.call15 (pre_same 32 rfl rfl rfl (pre_lend 33 rfl rfl pZ pre_nil)) rfl hw) (fun _ _ => ?_)
 refine r0g (st0 (d_notb rfl rfl)) rfl rfl rfl rfl rfl rfl rfl ?_
 refine r0' rfl rfl rfl rfl (st0 (d_pickf rfl rfl rfl)) ?_
 refine r_end ?_
 refine x_then (e_condf rfl ?_)
 refine e_skip ?_
 refine x_then (e_seq (e_reg (tt (t_bsg (i := 34) (ivs := [(0, _), (1, _)]) (enc := encZ) ([6, -4] : List Int) rfl rfl rfl ⟨rfl, rfl, rfl, rfl, trivial⟩ Try.underlying65 Try.ti3 rfl rfl rfl rfl rfl rfl pZ.cells rfl rfl hw) rfl (fun v_26 _ => ?_))))
 refine l_imp (s_pub 34 rfl rfl pZ) ?_
 refine tt (t_call (n := 35) (k_p _ [6, -4] [6, -4] (by decide +kernel) (by decide) (by decide +kernel)) rfl rfl rfl ⟨rfl, trivial⟩ Try.call16 (pre_same 34 rfl rfl rfl pre_nil) rfl hw) rfl (fun v_27 _ => ?_)
 refine tt (t_call (n := 35) (k_content _) rfl rfl rfl ⟨rfl, trivial⟩ Try.call23 (pre_same 35 rfl rfl rfl pre_nil) rfl hw) rfl (fun _ _ => ?_)
 refine mv rfl rfl (dt (d_ex rfl rfl rfl) rfl ?_)
 refine dt (d_ex rfl rfl rfl) rfl ?_
 refine tt (t_alloc (i := 36) rfl rfl rfl Try.zeroValue26 rfl rfl hw) rfl (fun b_3 _ => ?_)
 refine tt (t_stw (i := 36) rfl rfl rfl rfl rfl (by decide) rfl Try.sizeOf26 rfl rfl ⟨(one_rfl rfl), (one_rfl rfl), trivial⟩ rfl hw trivial) rfl (fun _ _ => ?_)
 refine as_ rfl rfl (l_nil (x_then (e_seq (e_reg (tt (t_bsg (i := 37) (ivs := [(0, _), (1, _)]) (enc := encZ) ([-6, -4] : List Int) rfl rfl rfl ⟨rfl, rfl, rfl, rfl, trivial⟩ Try.underlying65 Try.ti3 rfl rfl rfl rfl rfl rfl pZ.cells rfl rfl hw) rfl (fun v_28 _ => ?_))))))
 refine l_imp (s_pub 37 rfl rfl pZ) ?_
 refine tt (t_call (n := 38) (k_p _ [-6, -4] [-6, -4] (by decide +kernel) (by decide) (by decide +kernel)) rfl rfl rfl ⟨rfl, trivial⟩ Try.call16 (pre_same 37 rfl rfl rfl pre_nil) rfl hw) rfl (fun v_29 _ => ?_)
 refine tt (t_call (n := 39) (k_prim _) rfl rfl rfl ⟨rfl, trivial⟩ Try.call24 (pre_same 38 rfl rfl rfl pre_nil) rfl hw) rfl (fun _ _ => ?_)
 refine mv rfl rfl (dt (d_ex rfl rfl rfl) rfl ?_)
 refine dt (d_ex rfl rfl rfl) rfl ?_
 refine as_ rfl rfl (as_ rfl rfl (l_nil (x_then (e_seq (e_reg (tt (t_bsg (i := 40) (ivs := [(0, _), (1, _), (2, _), (3, _)]) (enc := encZ) ([1, 0, 0, 1] : List Int) rfl rfl rfl ⟨rfl, rfl, rfl, rfl, rfl, rfl, rfl, rfl, trivial⟩ Try.underlying65 Try.ti3 rfl rfl rfl rfl rfl rfl pZ.cells rfl rfl hw) rfl (fun v_30 _ => ?_)))))))
 refine l_imp (s_pub 40 rfl rfl pZ) ?_
 refine tt (t_call (n := 41) (k_p _ [1, 0, 0, 1] [1, 0, 0, 1] (by decide +kernel) (by decide) (by decide +kernel)) rfl rfl rfl ⟨rfl, trivial⟩ Try.call16 (pre_same 40 rfl rfl rfl pre_nil) rfl hw) rfl (fun v_31 _ => ?_)
 refine tt (t_bsg (i := 42) (ivs := [(0, _), (1, _)]) (enc := encZ) ([1, 2] : List Int) rfl rfl rfl ⟨rfl, rfl, rfl, rfl, trivial⟩ Try.underlying65 Try.ti3 rfl rfl rfl rfl rfl rfl pZ.cells rfl rfl hw) rfl (fun v_32 _ => ?_)
 refine l_imp (s_pub 42 rfl rfl pZ) ?_
 refine tt (t_call (n := 43) (k_p _ [1, 2] [1, 2] (by decide +kernel) (by decide) (by decide +kernel)) rfl rfl rfl ⟨rfl, trivial⟩ Try.call16 (pre_same 42 rfl rfl rfl pre_nil) rfl hw) rfl (fun v_33 _ => ?_)
 refine tt (t_call (n := 44) (k_rest _ _) rfl rfl rfl ⟨rfl, rfl, trivial⟩ Try.call11 (pre_same 41 rfl rfl rfl (pre_same 43 rfl rfl rfl pre_nil)) rfl hw) rfl (fun _ _ => ?_)
 refine mv rfl rfl (dt (d_ex rfl rfl rfl) rfl ?_)
 refine dt (d_ex rfl rfl rfl) rfl ?_
 refine as_ rfl rfl (as_ rfl rfl (l_nil (x_then (e_seq (e_reg (tt (t_bsg (i := 45) (ivs := [(0, _), (1, _), (2, _)]) (enc := encZ) ([-1, 0, 1] : List Int) rfl rfl rfl ⟨rfl, rfl, rfl, rfl, rfl, rfl, trivial⟩ Try.underlying65 Try.ti3 rfl rfl rfl rfl rfl rfl pZ.cells rfl rfl hw) rfl (fun v_34 _ => ?_)))))))
 refine l_imp (s_pub 45 rfl rfl pZ) ?_
 refine tt (t_call (n := 46) (k_p _ [-1, 0, 1] [-1, 0, 1] (by decide +kernel) (by decide) (by decide +kernel)) rfl rfl rfl ⟨rfl, trivial⟩ Try.call16 (pre_same 45 rfl rfl rfl pre_nil) rfl hw) rfl (fun v_35 _ => ?_)
 refine tt (t_bsg (i := 47) (ivs := [(0, _), (1, _)]) (enc := encZ) ([1, 1] : List Int) rfl rfl rfl ⟨rfl, rfl, rfl, rfl, trivial⟩ Try.underlying65 Try.ti3 rfl rfl rfl rfl rfl rfl pZ.cells rfl rfl hw) rfl (fun v_36 _ => ?_)
 refine l_imp (s_pub 47 rfl rfl pZ) ?_
 refine tt (t_call (n := 48) (k_p _ [1, 1] [1, 1] (by decide +kernel) (by decide) (by decide +kernel)) rfl rfl rfl ⟨rfl, trivial⟩ Try.call16 (pre_same 47 rfl rfl rfl pre_nil) rfl hw) rfl (fun v_37 _ => ?_)
 refine tt (t_call (n := 49) (k_div1 _ _) rfl rfl rfl ⟨rfl, rfl, trivial⟩ Try.call25 (pre_same 46 rfl rfl rfl (pre_same 48 rfl rfl rfl pre_nil)) rfl hw) rfl (fun _ _ => ?_)
 refine mv rfl rfl (dt (d_ex rfl rfl rfl) rfl ?_)
 refine dt (d_ex rfl rfl rfl) rfl ?_
 refine as_ rfl rfl (as_ rfl rfl (l_nil (x_then (e_seq (e_reg (tt (t_bsg (i := 50) (ivs := [(0, _), (1, _), (2, _)]) (enc := encZ) ([1, 0, 1] : List Int) rfl rfl rfl ⟨rfl, rfl, rfl, rfl, rfl, rfl, trivial⟩ Try.underlying65 Try.ti3 rfl rfl rfl rfl rfl rfl pZ.cells rfl rfl hw) rfl (fun v_38 _ => ?_)))))))
 refine l_imp (s_pub 50 rfl rfl pZ) ?_
 refine tt (t_call (n := 51) (k_p _ [1, 0, 1] [1, 0, 1] (by decide +kernel) (by decide) (by decide +kernel)) rfl rfl rfl ⟨rfl, trivial⟩ Try.call16 (pre_same 50 rfl rfl rfl pre_nil) rfl hw) rfl (fun v_39 _ => ?_)
 refine tt (t_bsg (i := 52) (ivs := [(0, _), (1, _)]) (enc := encZ) ([1, 1] : List Int) rfl rfl rfl ⟨rfl, rfl, rfl, rfl, trivial⟩ Try.underlying65 Try.ti3 rfl rfl rfl rfl rfl rfl pZ.cells rfl rfl hw) rfl (fun v_40 _ => ?_)
 refine l_imp (s_pub 52 rfl rfl pZ) ?_
 refine tt (t_call (n := 53) (k_p _ [1, 1] [1, 1] (by decide +kernel) (by decide) (by decide +kernel)) rfl rfl rfl ⟨rfl, trivial⟩ Try.call16 (pre_same 52 rfl rfl rfl pre_nil) rfl hw) rfl (fun v_41 _ => ?_)
 refine tt (t_call (n := 54) (k_div2 _ _) rfl rfl rfl ⟨rfl, rfl, trivial⟩ Try.call25 (pre_same 51 rfl rfl rfl (pre_same 53 rfl rfl rfl pre_nil)) rfl hw) rfl (fun _ _ => ?_)
 refine mv rfl rfl (dt (d_ex rfl rfl rfl) rfl ?_)
 refine dt (d_ex rfl rfl rfl) rfl ?_
 refine as_ rfl rfl (l_nil (x_then (e_seq (e_seq (e_dreg (fun _ => False) [(0, 0), (1, 1), (2, 0), (3, 0), (4, 0), (5, 0), (6, 0), (7, 0), (8, 0), (9, 0), (10, 1), (11, 1), (12, 0), (13, 0), (14, 0), (15, 0), (16, 0), (17, 1), (18, 1), (19, 0), (20, 0), (21, 0), (22, 0), (23, 0), (24, 1), (25, 1), (26, 0), (27, 0), (28, 0), (29, 0), (30, 0), (31, 0)] (by kernel_rfl) ?_ ?_)))))
 ·kernel_rfl
 refine r0' rfl rfl rfl rfl (st0 (d_lb2 (i := 36) rfl rfl rfl Try.isAgg26 Try.sizeOf26 rfl rfl)) ?_
 refine r1' rfl rfl (t_call (n := 54) (law_w _ ⟨by decide, by decide⟩) rfl rfl rfl ⟨rfl, trivial⟩ Try.call22 pre_nil rfl hw) (fun _ _ => ?_)
 refine r0' rfl rfl rfl rfl (st0 (det_is (r' := .bool false) (d_eqg rfl rfl rfl eg26 (fun w => neq26 w _ _ _ _)) (congrArg Value.bool (by simp [eqW_refl])))) ?_
 refine r0' rfl rfl rfl rfl (st0 (d_mv rfl rfl)) ?_
 refine r0g (st0 (d_mv rfl rfl)) rfl rfl rfl rfl rfl rfl rfl ?_
 refine r0g (st0 (det_is (r' := .bool false) (d_neq rfl rfl rfl) (congrArg Value.bool (by decide)))) rfl rfl rfl rfl rfl rfl rfl ?_
 refine r0' rfl rfl rfl rfl (st0 (d_pickf rfl rfl rfl)) ?_
 refine r0' rfl rfl rfl rfl (st0 (d_mv rfl rfl)) ?_
 refine r0g (st0 (d_mv rfl rfl)) rfl rfl rfl rfl rfl rfl rfl ?_
 refine r0g (st0 (d_mv rfl rfl)) rfl rfl rfl rfl rfl rfl rfl ?_
 refine r1g' rfl rfl rfl rfl rfl (t_bsg (i := 55) (ivs := [(0, _), (1, _)]) (enc := encZ) ([-3, -2] : List Int) rfl rfl rfl ⟨rfl, rfl, rfl, rfl, trivial⟩ Try.underlying65 Try.ti3 rfl rfl rfl rfl rfl rfl pZ.cells rfl rfl hw) (fun v_42 _ => ?_)
 refine r1g' rfl rfl rfl rfl rfl (t_call (n := 55) (law_is _ _ _ _ _ (inI_all (by decide +kernel)) (by decide) (by decide +kernel) (by decide +kernel)) rfl rfl rfl ⟨rfl, rfl, rfl, trivial⟩ Try.call15 (pre_same 39 rfl rfl rfl (pre_lend 55 rfl rfl pZ pre_nil)) rfl hw) (fun _ _ => ?_)
 refine r0g (st0 (d_notb rfl rfl)) rfl rfl rfl rfl rfl rfl rfl ?_
 refine r0' rfl rfl rfl rfl (st0 (d_pickf rfl rfl rfl)) ?_
 refine r0' rfl rfl rfl rfl (st0 (d_mv rfl rfl)) ?_
 refine r0g (st0 (d_mv rfl rfl)) rfl rfl rfl rfl rfl rfl rfl ?_
 refine r0g (st0 (d_mv rfl rfl)) rfl rfl rfl rfl rfl rfl rfl ?_
 refine r1g' rfl rfl rfl rfl rfl (t_bsg (i := 56) (ivs := [(0, _)]) (enc := encZ) ([7] : List Int) rfl rfl rfl ⟨rfl, rfl, trivial⟩ Try.underlying65 Try.ti3 rfl rfl rfl rfl rfl rfl pZ.cells rfl rfl hw) (fun v_43 _ => ?_)
 refine r1g' rfl rfl rfl rfl rfl (t_call (n := 56) (law_is _ _ _ _ _ (inI_all (by decide +kernel)) (by decide) (by decide +kernel) (by decide +kernel)) rfl rfl rfl ⟨rfl, rfl, rfl, trivial⟩ Try.call15 (pre_same 44 rfl rfl rfl (pre_lend 56 rfl rfl pZ pre_nil)) rfl hw) (fun _ _ => ?_)
 refine r0g (st0 (d_notb rfl rfl)) rfl rfl rfl rfl rfl rfl rfl ?_
 refine r0' rfl rfl rfl rfl (st0 (d_pickf rfl rfl rfl)) ?_
 refine r0' rfl rfl rfl rfl (st0 (d_mv rfl rfl)) ?_
 refine r0g (st0 (d_mv rfl rfl)) rfl rfl rfl rfl rfl rfl rfl ?_
 refine r0g (st0 (d_mv rfl rfl)) rfl rfl rfl rfl rfl rfl rfl ?_
 refine r1g' rfl rfl rfl rfl rfl (t_bsg (i := 57) (ivs := [(0, _), (1, _)]) (enc := encZ) ([-1, 1] : List Int) rfl rfl rfl ⟨rfl, rfl, rfl, rfl, trivial⟩ Try.underlying65 Try.ti3 rfl rfl rfl rfl rfl rfl pZ.cells rfl rfl hw) (fun v_44 _ => ?_)
 refine r1g' rfl rfl rfl rfl rfl (t_call (n := 57) (law_is _ _ _ _ _ (inI_all (by decide +kernel)) (by decide) (by decide +kernel) (by decide +kernel)) rfl rfl rfl ⟨rfl, rfl, rfl, trivial⟩ Try.call15 (pre_same 49 rfl rfl rfl (pre_lend 57 rfl rfl pZ pre_nil)) rfl hw) (fun _ _ => ?_)
 refine r0g (st0 (d_notb rfl rfl)) rfl rfl rfl rfl rfl rfl rfl ?_
 refine r0' rfl rfl rfl rfl (st0 (d_pickf rfl rfl rfl)) ?_
 refine r0' rfl rfl rfl rfl (st0 (d_mv rfl rfl)) ?_
 refine r0g (st0 (d_mv rfl rfl)) rfl rfl rfl rfl rfl rfl rfl ?_
 refine r0g (st0 (det_is (r' := .bool false) (d_neq rfl rfl rfl) (congrArg Value.bool (by decide)))) rfl rfl rfl rfl rfl rfl rfl ?_
 refine r0' rfl rfl rfl rfl (st0 (d_pickf rfl rfl rfl)) ?_
 refine r_end ?_
 refine x_then (e_condf rfl ?_)
 refine e_skip ?_
 refine x_then (e_seq (e_reg (tt (t_bsg (i := 58) (ivs := [(0, _), (1, _), (2, _)]) (enc := encZ) ([-1, 0, 1] : List Int) rfl rfl rfl ⟨rfl, rfl, rfl, rfl, rfl, rfl, trivial⟩ Try.underlying65 Try.ti3 rfl rfl rfl rfl rfl rfl pZ.cells rfl rfl hw) rfl (fun v_45 _ => ?_))))
 refine l_imp (s_pub 58 rfl rfl pZ) ?_
 refine tt (t_call (n := 59) (k_p _ [-1, 0, 1] [-1, 0, 1] (by decide +kernel) (by decide) (by decide +kernel)) rfl rfl rfl ⟨rfl, trivial⟩ Try.call16 (pre_same 58 rfl rfl rfl pre_nil) rfl hw) rfl (fun v_46 _ => ?_)
 refine tt (t_bsg (i := 60) (ivs := [(0, _), (1, _), (2, _)]) (enc := encZ) ([2, 4, 2] : List Int) rfl rfl rfl ⟨rfl, rfl, rfl, rfl, rfl, rfl, trivial⟩ Try.underlying65 Try.ti3 rfl rfl rfl rfl rfl rfl pZ.cells rfl rfl hw) rfl (fun v_47 _ => ?_)
 refine l_imp (s_pub 60 rfl rfl pZ) ?_
 refine tt (t_call (n := 61) (k_p _ [2, 4, 2] [2, 4, 2] (by decide +kernel) (by decide) (by decide +kernel)) rfl rfl rfl ⟨rfl, trivial⟩ Try.call16 (pre_same 60 rfl rfl rfl pre_nil) rfl hw) rfl (fun v_48 _ => ?_)
 refine tt (t_call (n := 62) (k_gcd1 _ _) rfl rfl rfl ⟨rfl, rfl, trivial⟩ Try.call10 (pre_same 59 rfl rfl rfl (pre_same 61 rfl rfl rfl pre_nil)) rfl hw) rfl (fun _ _ => ?_)
 refine mv rfl rfl (dt (d_ex rfl rfl rfl) rfl ?_)
 refine dt (d_ex rfl rfl rfl) rfl ?_
 refine as_ rfl rfl (as_ rfl rfl (l_nil (x_then (e_seq (e_reg (tt (t_bsg (i := 63) (ivs := [(0, _), (1, _)]) (enc := encZ) ([1, 1] : List Int) rfl rfl rfl ⟨rfl, rfl, rfl, rfl, trivial⟩ Try.underlying65 Try.ti3 rfl rfl rfl rfl rfl rfl pZ.cells rfl rfl hw) rfl (fun v_49 _ => ?_)))))))
 refine l_imp (s_pub 63 rfl rfl pZ) ?_
 refine tt (t_call (n := 64) (k_p _ [1, 1] [1, 1] (by decide +kernel) (by decide) (by decide +kernel)) rfl rfl rfl ⟨rfl, trivial⟩ Try.call16 (pre_same 63 rfl rfl rfl pre_nil) rfl hw) rfl (fun v_50 _ => ?_)
 refine tt (t_call (n := 65) (k_gcd2 _ _) rfl rfl rfl ⟨rfl, rfl, trivial⟩ Try.call10 (pre_same 64 rfl rfl rfl (pre_same 999 rfl rfl rfl pre_nil)) rfl hw) rfl (fun _ _ => ?_)
 refine mv rfl rfl (dt (d_ex rfl rfl rfl) rfl ?_)
 refine dt (d_ex rfl rfl rfl) rfl ?_
 refine as_ rfl rfl (as_ rfl rfl (l_nil (x_then (e_seq (e_reg (tt (t_bsg (i := 66) (ivs := [(0, _)]) (enc := encZ) ([2] : List Int) rfl rfl rfl ⟨rfl, rfl, trivial⟩ Try.underlying65 Try.ti3 rfl rfl rfl rfl rfl rfl pZ.cells rfl rfl hw) rfl (fun v_51 _ => ?_)))))))
 refine l_imp (s_pub 66 rfl rfl pZ) ?_
 refine tt (t_call (n := 67) (k_p _ [2] [2] (by decide +kernel) (by decide) (by decide +kernel)) rfl rfl rfl ⟨rfl, trivial⟩ Try.call16 (pre_same 66 rfl rfl rfl pre_nil) rfl hw) rfl (fun v_52 _ => ?_)
 refine tt (t_bsg (i := 68) (ivs := [(0, _)]) (enc := encZ) ([4] : List Int) rfl rfl rfl ⟨rfl, rfl, trivial⟩ Try.underlying65 Try.ti3 rfl rfl rfl rfl rfl rfl pZ.cells rfl rfl hw) rfl (fun v_53 _ => ?_)
 refine l_imp (s_pub 68 rfl rfl pZ) ?_
 refine tt (t_call (n := 69) (k_p _ [4] [4] (by decide +kernel) (by decide) (by decide +kernel)) rfl rfl rfl ⟨rfl, trivial⟩ Try.call16 (pre_same 68 rfl rfl rfl pre_nil) rfl hw) rfl (fun v_54 _ => ?_)
 refine tt (t_call (n := 70) (k_gcd3 _ _) rfl rfl rfl ⟨rfl, rfl, trivial⟩ Try.call10 (pre_same 67 rfl rfl rfl (pre_same 69 rfl rfl rfl pre_nil)) rfl hw) rfl (fun _ _ => ?_)
 refine mv rfl rfl (dt (d_ex rfl rfl rfl) rfl ?_)
 refine dt (d_ex rfl rfl rfl) rfl ?_
 refine as_ rfl rfl (as_ rfl rfl (l_nil (x_then (e_seq (e_reg (mv rfl rfl (mv rfl rfl (tt (t_bsg (i := 71) (ivs := [(0, _), (1, _)]) (enc := encZ) ([1, 1] : List Int) rfl rfl rfl ⟨rfl, rfl, rfl, rfl, trivial⟩ Try.underlying65 Try.ti3 rfl rfl rfl rfl rfl rfl pZ.cells rfl rfl hw) rfl (fun v_55 _ => ?_)))))))))
 refine tt (t_call (n := 71) (law_is _ _ _ _ _ (inI_all (by decide +kernel)) (by decide) (by decide +kernel) (by decide +kernel)) rfl rfl rfl ⟨rfl, rfl, rfl, trivial⟩ Try.call15 (pre_same 62 rfl rfl rfl (pre_lend 71 rfl rfl pZ pre_nil)) rfl hw) rfl (fun _ _ => ?_)
 refine mv rfl rfl (gdt (d_mv rfl rfl) rfl rfl rfl rfl ?_)
 refine gdt (d_mv rfl rfl) rfl rfl rfl rfl ?_
 refine gtt (t_bsg (i := 72) (ivs := [(0, _), (1, _)]) (enc := encZ) ([1, 1] : List Int) rfl rfl rfl ⟨rfl, rfl, rfl, rfl, trivial⟩ Try.underlying65 Try.ti3 rfl rfl rfl rfl rfl rfl pZ.cells rfl rfl hw) rfl rfl rfl rfl (fun v_56 _ => ?_)
 refine gtt (t_call (n := 72) (law_is _ _ _ _ _ (inI_all (by decide +kernel)) (by decide) (by decide +kernel) (by decide +kernel)) rfl rfl rfl ⟨rfl, rfl, rfl, trivial⟩ Try.call15 (pre_same 65 rfl rfl rfl (pre_lend 72 rfl rfl pZ pre_nil)) rfl hw) rfl rfl rfl rfl (fun _ _ => ?_)
 refine dt (d_pickt rfl rfl rfl) rfl ?_
 refine mv rfl rfl (gdt (d_mv rfl rfl) rfl rfl rfl rfl ?_)
 refine gdt (d_mv rfl rfl) rfl rfl rfl rfl ?_
 refine gtt (t_bsg (i := 73) (ivs := [(0, _)]) (enc := encZ) ([1] : List Int) rfl rfl rfl ⟨rfl, rfl, trivial⟩ Try.underlying65 Try.ti3 rfl rfl rfl rfl rfl rfl pZ.cells rfl rfl hw) rfl rfl rfl rfl (fun v_57 _ => ?_)
 refine gtt (t_call (n := 73) (law_is _ _ _ _ _ (inI_all (by decide +kernel)) (by decide) (by decide +kernel) (by decide +kernel)) rfl rfl rfl ⟨rfl, rfl, rfl, trivial⟩ Try.call15 (pre_same 70 rfl rfl rfl (pre_lend 73 rfl rfl pZ pre_nil)) rfl hw) rfl rfl rfl rfl (fun _ _ => ?_)
 refine dt (d_pickt rfl rfl rfl) rfl ?_
 refine as_ rfl rfl (l_nil (x_then (e_ret ?_)))
 exact x_end (.inl rfl) hsc () _ (fun a w hs => res1 hs Try.results4 rfl) rfl trivial rfl give_nil
end Go.Sky

