/- the law
   Proved without conditions of its own: each theorem bears its own. -/
import Derived.Test.YtjkhdpcmkcjjcaaL1
import Derived.Test.YtjkhdpcmkcjjcaaK
import Derived.Test.YtjkhdpcmkcjjcaaD
import Derived.Test.YtjkhdpcmkcjjcaaB
import Derived.Test.YtjkhdpcmkcjjcaaC
set_option linter.all false
namespace Go.Sky
open Go.Proofs
set_option linter.unusedVariables false
section
variable (v u : Value) {d n e m : Nat} (hd : d ≤ 24) (hn : n ≤ 65535) (he : e ≤ 24) (hm : m ≤ 65535)
abbrev F1 (d n e m : Nat) : Prop := 24 < d + e ∨ 65536 < n + 1 + (m + 1) + 5
abbrev F4 (d n m : Nat) : Prop := 65536 < (n + 1) + d * (m + 1 + 1) + 8
abbrev F5 (d n e m : Nat) : Prop := 65536 < (max d e + 3) * (max d e + 3) * (max (n + 1) (m + 1) + 8)
abbrev F6 (d n e m : Nat) : Prop := e ≤ d ∧ 65536 < (n + 1) + (d - e + 1) * (m + 1 + 1)
include hd hn he hm
theorem l_mul : Cal Try.prog 6 #[v, u] [slp 2 wv v (mon d n), slp 2 wv u (mon e m)] true (G := Value) (fun r => True) (fun r => .tuple #[r, .int .i64 (if F1 d n e m then 7 else 0)]) (fun r => [slp 2 wv r (if F1 d n e m then [] else pmul (mon d n) (mon e m))]) :=
  Cal.either (fun h => poly_mul_full v u _ _ (vp_mon hd hn) (vp_mon he hm) ((mulfull_mon ..).2 h)) (fun h => poly_mul v u _ _ (vp_mon hd hn) (vp_mon he hm) fun h2 => h ((mulfull_mon ..).1 h2))
theorem l_gcd : Cal Try.prog 10 #[v, u] [slp 2 wv v (mon d n), slp 2 wv u (mon e m)] true (G := Value) (fun r => True) (fun r => .tuple #[r, .int .i64 (if F5 d n e m then 7 else 0)]) (fun r => [slp 2 wv r (if F5 d n e m then [] else pgcd 2 (mon d n) (mon e m))]) :=
  Cal.either (fun h => poly_gcd_full v u _ _ (vp_mon hd hn) (vp_mon he hm) ((gfull_mon ..).2 h)) (fun h => poly_gcd v u _ _ (vp_mon hd hn) (vp_mon he hm) 2 (fun h2 => h ((gfull_mon ..).1 h2)) (eok_limits hd he))
theorem l_rest : Cal Try.prog 11 #[v, u] [slp 2 wv v (mon d n), slp 2 wv u (mon e m)] true (G := Value) (fun r => True) (fun r => .tuple #[r, .int .i64 (if F6 d n e m then 7 else 0)]) (fun r => [slp 2 wv r (if F6 d n e m then [] else prest (mon d n) (mon e m))]) :=
  Cal.either (fun h => by
    have h1 : derr (mon d n) (mon e m) = 7 := by rw [derr_mon, if_pos h]
    have := poly_rest_err v u _ _ (vp_mon hd hn) (vp_mon he hm) (by rw [h1]; decide)
    rw [h1] at this; exact this) (fun h => poly_rest v u _ _ (vp_mon hd hn) (vp_mon he hm) (by rw [derr_mon, if_neg h]))
omit he hm in
theorem l_add : Cal Try.prog 7 #[v, v] [slp 2 wv v (mon d n), slp 2 wv v (mon d n)] true (G := Value) (fun r => True) (fun r => .tuple #[r, .int .i64 (if n = 65535 then 7 else 0)]) (fun r => [slp 2 wv r (if n = 65535 then [] else mon d (n + 1))]) :=
  Cal.either (fun h => poly_add_full v v _ _ (vp_mon hd hn) (vp_mon hd hn) (oe_full (i := d) (by rw [length_mon]; omega) (by
    show 65536 < bl (cf (mon d n) d + cf (mon d n) d).natAbs
    rw [add_mon, cf_mon, if_pos rfl, bl_pow2]; omega))) (fun h => by
    have := poly_add v v _ _ (vp_mon hd hn) (vp_mon hd hn) (fun i => by rw [add_mon, cf_mon]; split; (· rw [bl_pow2]; omega); (· exact Nat.zero_le _))
    rw [padd_mon] at this; exact this)
omit he in
theorem l_comp : Cal Try.prog 9 #[v, wv (2 ^ m), wv (2 ^ 0), wv (2 ^ 0)] [slp 2 wv v (mon d n)] true (G := Value) (fun r => True) (fun r => .tuple #[r, .int .i64 (if F4 d n m then 7 else 0)]) (fun r => [slp 2 wv r (if F4 d n m then [] else pcompo (mon d n) (2 ^ m) (2 ^ 0) (2 ^ 0))]) :=
  Cal.either (fun h => poly_compose_full v _ _ _ _ (vp_mon hd hn) (by rw [bl_pow2]; omega) (by rw [bl_pow2]; omega) (by rw [bl_pow2]; omega) (pow2_pos 0) ((cpfull_mon ..).2 h)) (fun h => poly_compose v _ _ _ _ (vp_mon hd hn) (by rw [bl_pow2]; omega) (by rw [bl_pow2]; omega) (by rw [bl_pow2]; omega) (pow2_pos 0) (fun h2 => h ((cpfull_mon ..).1 h2)))
end
theorem eve_mon (d n m : Nat) : eve (mon d n) (2 ^ m) 1 = if 65536 < (n + 1) + d * (m + 1) + 8 then 7 else 0 := by
  unfold eve
  by_cases h : 65536 < (n + 1) + d * (m + 1) + 8
  · rw [if_pos h, if_pos ((evfull_mon ..).2 h)]
  · rw [if_neg h, if_neg (fun h2 => h ((evfull_mon ..).1 h2))]
theorem bb_iff {p q : Prop} [Decidable p] [Decidable q] (h : p ↔ q) : ((decide p) != (decide q)) = false := by
  by_cases h1 : p
  · rw [decide_eq_true h1, decide_eq_true (h.1 h1)]; rfl
  · rw [decide_eq_false h1, decide_eq_false (fun h2 => h1 (h.2 h2))]; rfl
theorem bbe_iff {p q : Prop} [Decidable p] [Decidable q] (h : p ↔ q) : ((decide p) == (decide q)) = true := by
  by_cases h1 : p
  · rw [decide_eq_true h1, decide_eq_true (h.1 h1)]; rfl
  · rw [decide_eq_false h1, decide_eq_false (fun h2 => h1 (h.2 h2))]; rfl
theorem seven_iff (p : Prop) [Decidable p] : ((if p then (7 : Int) else 0) = 7) ↔ p := by split <;> simp [*]
end Go.Sky
namespace Go.Sky
open Go.Proofs
set_option maxRecDepth 20000
set_option maxHeartbeats 4000000
set_option linter.unusedVariables false
set_option linter.unusedSimpArgs false
set_option maxHeartbeats 4000000 in
theorem law_limits_ok (d b e c : Nat) (hd : d ≤ 24) (hb0 : 1 ≤ b) (hb : b ≤ 65536) (he : e ≤ 24) (hc0 : 1 ≤ c) (hc : c ≤ 65536) : Cal Try.prog 3 #[.int .i64 (d : Int), .int .i64 (b : Int), .int .i64 (e : Int), .int .i64 (c : Int)] [] false (G := Unit) (fun _ => True) (fun _ => .bool true) (fun _ => []) := by
 refine cal_in Try.func3 rfl Try.ntmps3 rfl trivial ?_
 intro w0 sc hw hsc
 simp only [enumEnv, enumPre]
 have hbb : b - 1 + 1 = b := by omega
 have hcc : c - 1 + 1 = c := by omega
 have hdc : d * (c - 1 + 1) = d * c := by rw [hcc]
 have hdc1 : d * (c - 1 + 1 + 1) = d * (c + 1) := by rw [hcc]
 have q0 : d * c ≤ 24 * 65536 := Nat.mul_le_mul hd hc
 have q1 : d * (c + 1) ≤ 24 * 65537 := Nat.mul_le_mul hd (by omega)
 have c0 : (d : Int) * (c : Int) = ((d * c : Nat) : Int) := by push_cast; rfl
 have c1 : (d : Int) * ((c : Int) + 1) = ((d * (c + 1) : Nat) : Int) := by push_cast; rfl
 have q2 : (max d e + 3) * (max d e + 3) ≤ 27 * 27 := Nat.mul_le_mul (by omega) (by omega)
 have q3 : (max d e + 3) * (max d e + 3) * (max b c + 8) ≤ 27 * 27 * 65544 := Nat.mul_le_mul q2 (by omega)
 have e1 : max (d : Int) (e : Int) = ((max d e : Nat) : Int) := by omega
 have e2 : max (b : Int) (c : Int) = ((max b c : Nat) : Int) := by omega
 have e3 : (max (d : Int) (e : Int) + 3) * (max (d : Int) (e : Int) + 3) = (((max d e + 3) * (max d e + 3) : Nat) : Int) := by rw [e1]; push_cast; rfl
 have e4 : (max (d : Int) (e : Int) + 3) * (max (d : Int) (e : Int) + 3) * (max (b : Int) (c : Int) + 8) = (((max d e + 3) * (max d e + 3) * (max b c + 8) : Nat) : Int) := by rw [e1, e2]; push_cast; rfl
 have q4 : (d - e + 1) * (c + 1) ≤ 25 * 65537 := Nat.mul_le_mul (by omega) (by omega)
 have e5 : e ≤ d → ((d : Int) - (e : Int) + 1) * ((c : Int) + 1) = (((d - e + 1) * (c + 1) : Nat) : Int) := fun h => by rw [show (d : Int) - (e : Int) + 1 = ((d - e + 1 : Nat) : Int) by omega]; push_cast; rfl
 refine e_imp (s_nil 999 2 26 wv) ?_
 refine e_imp (s_pub 999 rfl rfl pV) ?_
 refine e_seq (e_reg (as_ rfl rfl (l_nil (x_then (e_seq (e_seq (e_reg (mv rfl rfl (dt (det_is (r' := .bool false) (d_lss rfl rfl rfl) (congrArg Value.bool (decide_eq_false (by omega)))) rfl ?_)))))))))
 refine mv rfl rfl (gdt (d_mv rfl rfl) rfl rfl rfl rfl ?_)
 refine gdt (det_is (r' := .bool false) (d_gtr rfl rfl rfl) (congrArg Value.bool (decide_eq_false (by omega)))) rfl rfl rfl rfl ?_
 refine dt (d_pickf rfl rfl rfl) rfl ?_
 refine mv rfl rfl (gdt (d_mv rfl rfl) rfl rfl rfl rfl ?_)
 refine gdt (det_is (r' := .bool false) (d_lss rfl rfl rfl) (congrArg Value.bool (decide_eq_false (by omega)))) rfl rfl rfl rfl ?_
 refine dt (d_pickf rfl rfl rfl) rfl ?_
 refine mv rfl rfl (gdt (d_mv rfl rfl) rfl rfl rfl rfl ?_)
 refine gdt (det_is (r' := .bool false) (d_gtr rfl rfl rfl) (congrArg Value.bool (decide_eq_false (by omega)))) rfl rfl rfl rfl ?_
 refine dt (d_pickf rfl rfl rfl) rfl ?_
 refine mv rfl rfl (gdt (d_mv rfl rfl) rfl rfl rfl rfl ?_)
 refine gdt (det_is (r' := .bool false) (d_lss rfl rfl rfl) (congrArg Value.bool (decide_eq_false (by omega)))) rfl rfl rfl rfl ?_
 refine dt (d_pickf rfl rfl rfl) rfl ?_
 refine mv rfl rfl (gdt (d_mv rfl rfl) rfl rfl rfl rfl ?_)
 refine gdt (det_is (r' := .bool false) (d_gtr rfl rfl rfl) (congrArg Value.bool (decide_eq_false (by omega)))) rfl rfl rfl rfl ?_
 refine dt (d_pickf rfl rfl rfl) rfl ?_
 refine mv rfl rfl (gdt (d_mv rfl rfl) rfl rfl rfl rfl ?_)
 refine gdt (det_is (r' := .bool false) (d_lss rfl rfl rfl) (congrArg Value.bool (decide_eq_false (by omega)))) rfl rfl rfl rfl ?_
 refine dt (d_pickf rfl rfl rfl) rfl ?_
 refine mv rfl rfl (gdt (d_mv rfl rfl) rfl rfl rfl rfl ?_)
 refine gdt (det_is (r' := .bool false) (d_gtr rfl rfl rfl) (congrArg Value.bool (decide_eq_false (by omega)))) rfl rfl rfl rfl ?_
 refine dt (d_pickf rfl rfl rfl) rfl ?_
 refine l_nil (x_then (e_condf rfl ?_))
 refine e_skip ?_
 refine x_then (e_jn [(0, _), (1, _), (2, _), (3, _)] [(0, _), (999, _)] (fun (q : Value × Value) => [(9, q.1), (10, q.2)]) (fun (q : Value × Value) => [(80, osl 2 26 wv q.1 (List.replicate (d + 1) 0)), (81, osl 2 26 wv q.2 (List.replicate (e + 1) 0))]) (fun (q : Value × Value) => True) ⟨rfl, rfl, rfl, rfl, trivial⟩ ⟨rfl, rfl, trivial⟩ ?_ ?_)
 ·refine e_drega (fun _ => False) [7] (by kernel_rfl) ?_
  refine a_lin' (n := 4) [(0, 0), (1, 0), (3, 0), (4, 0)] (by kernel_rfl) ?_
  refine r0' rfl rfl rfl rfl (st0 (d_mv rfl rfl)) ?_
  refine r0' rfl rfl rfl rfl (st0 (d_add rfl rfl rfl ⟨by omega, by omega⟩)) ?_
  refine r0' rfl rfl rfl rfl (st0 (d_mv rfl rfl)) ?_
  refine r0' rfl rfl rfl rfl (st0 (d_add rfl rfl rfl ⟨by omega, by omega⟩)) ?_
  refine r_fin ?_
  refine a_br2 (n := 3) 2 5 (by kernel_rfl) ?_ ?_
  ·refine aact' rfl rfl (t_mkn (i := 80) (n := (d + 1)) (by_ := 24) (enc := wv) 0 rfl rfl rfl rfl rfl (by omega) Try.underlying24 Try.ti26 rfl pV.cells pV.pos rfl rfl (by omega) (by decide) rfl hw) (fun v _ => ?_)
   refine a_lin' (n := 0) [(6, 0), (5, 1), (7, 3)] (by kernel_rfl) ?_
   refine r0' rfl rfl rfl rfl (st0 (d_as rfl rfl)) ?_
   refine r1' rfl rfl (t_mkn (i := 81) (n := (e + 1)) (by_ := 24) (enc := wv) 0 rfl rfl rfl rfl rfl (by omega) Try.underlying24 Try.ti26 rfl pV.cells pV.pos rfl rfl (by omega) (by decide) rfl hw) (fun v_2 _ => ?_)
   refine r3' rfl rfl (t_det (d_as rfl rfl) rfl rfl) (fun _ _ => ?_)
   refine r_fin ?_
   refine a_done (by kernel_rfl) ?_
   exact x_jn (_, _) trivial ⟨rfl, rfl, rfl, rfl, rfl, rfl, trivial⟩ ⟨rfl, rfl, rfl, rfl, trivial⟩
  ·refine aact' rfl rfl (t_mkn (i := 81) (n := (e + 1)) (by_ := 24) (enc := wv) 0 rfl rfl rfl rfl rfl (by omega) Try.underlying24 Try.ti26 rfl pV.cells pV.pos rfl rfl (by omega) (by decide) rfl hw) (fun v_3 _ => ?_)
   refine a_lin' (n := 0) [(2, 1), (6, 0), (7, 3)] (by kernel_rfl) ?_
   refine r1' rfl rfl (t_mkn (i := 80) (n := (d + 1)) (by_ := 24) (enc := wv) 0 rfl rfl rfl rfl rfl (by omega) Try.underlying24 Try.ti26 rfl pV.cells pV.pos rfl rfl (by omega) (by decide) rfl hw) (fun v_4 _ => ?_)
   refine r0' rfl rfl rfl rfl (st0 (d_as rfl rfl)) ?_
   refine r3' rfl rfl (t_det (d_as rfl rfl) rfl rfl) (fun _ _ => ?_)
   refine r_fin ?_
   refine a_done (by kernel_rfl) ?_
   exact x_jn (_, _) trivial ⟨rfl, rfl, rfl, rfl, rfl, rfl, trivial⟩ ⟨rfl, rfl, rfl, rfl, trivial⟩
 ·rintro ⟨v1, v2⟩ -
  simp only [List.cons_append, List.nil_append]
  refine e_jn [(0, _), (1, _), (2, _), (3, _), (9, _), (10, _)] [(0, _), (999, _)] (fun (_j : Unit) => []) (fun (_j : Unit) => [(80, osl 2 26 wv v1 (mon d (b - 1))), (81, osl 2 26 wv v2 (mon e (c - 1)))]) (fun (_j : Unit) => True) ⟨rfl, rfl, rfl, rfl, rfl, rfl, trivial⟩ ⟨rfl, rfl, trivial⟩ ?_ ?_
  ·refine e_reg (mv rfl rfl (mv rfl rfl (mv rfl rfl (mv rfl rfl (mv rfl rfl (dt (det_is (r' := .int .i64 ((((b - 1) : Nat)) : Int)) (d_sub rfl rfl rfl ⟨by omega, by omega⟩) (congrArg (Value.int .i64) (by omega))) rfl ?_))))))
   refine tt (t_call (n := 0) (law_power _ (by omega)) rfl rfl rfl ⟨rfl, trivial⟩ Try.call5 pre_nil rfl hw) rfl (fun _ _ => ?_)
   refine mv rfl rfl (dt (det_is (r' := .int .i64 ((((c - 1) : Nat)) : Int)) (d_sub rfl rfl rfl ⟨by omega, by omega⟩) (congrArg (Value.int .i64) (by omega))) rfl ?_)
   refine tt (t_call (n := 0) (law_power _ (by omega)) rfl rfl rfl ⟨rfl, trivial⟩ Try.call5 pre_nil rfl hw) rfl (fun _ _ => ?_)
   refine dt (d_ixa (ii := 80) (i := d) rfl rfl rfl rfl (rd_osl pV) Try.underlying24 Try.sizeOf26 rfl (by simp)) rfl ?_
   refine tt (t_ste (i := 80) (enc := wv) ((2 : Int) ^ (b - 1)) rfl rfl rfl rfl rfl rfl (by decide) pV (by simp) rfl hw) rfl (fun _ _ => ?_)
   refine dt (d_ixa (ii := 81) (i := e) rfl rfl rfl rfl (rd_osl pV) Try.underlying24 Try.sizeOf26 rfl (by simp)) rfl ?_
   refine tt (t_ste (i := 81) (enc := wv) ((2 : Int) ^ (c - 1)) rfl rfl rfl rfl rfl rfl (by decide) pV (by simp) rfl hw) rfl (fun _ _ => ?_)
   refine l_nil ?_
   exact x_jn () trivial ⟨rfl, rfl, rfl, rfl, rfl, rfl, trivial⟩ ⟨by unfold mon; rw [← rep_set] <;> rfl, by unfold mon; rw [← rep_set] <;> rfl, rfl, rfl, trivial⟩
  ·rintro _j -
   simp only [List.cons_append, List.nil_append]
   refine e_seq (e_imp (s_pub 80 rfl rfl pV) ?_)
   refine e_imp (s_pub 81 rfl rfl pV) ?_
   refine e_reg (mv rfl rfl (mv rfl rfl (tt (t_call (n := 1) (l_mul _ _ hd (by omega) he (by omega)) rfl rfl rfl ⟨rfl, rfl, trivial⟩ Try.call6 (pre_same 80 rfl rfl rfl (pre_same 81 rfl rfl rfl pre_nil)) rfl hw) rfl (fun _ _ => ?_))))
   refine mv rfl rfl (dt (d_ex rfl rfl rfl) rfl ?_)
   refine dt (d_ex rfl rfl rfl) rfl ?_
   refine as_ rfl rfl (as_ rfl rfl (l_nil (x_then (e_seq (e_jn [(0, _), (1, _), (2, _), (3, _), (9, _), (10, _), (11, _), (12, _)] [(0, _), (80, _), (81, _), (999, _), (1, _)] (fun (_j : Unit) => [(13, .bool (decide (F1 d (b - 1) e (c - 1))))]) (fun (_j : Unit) => []) (fun (_j : Unit) => True) ⟨rfl, rfl, rfl, rfl, rfl, rfl, rfl, rfl, trivial⟩ ⟨rfl, rfl, rfl, rfl, rfl, trivial⟩ ?_ ?_)))))
   ·refine e_reg (mv rfl rfl (mv rfl rfl (dt (d_add rfl rfl rfl ⟨by omega, by omega⟩) rfl ?_)))
    refine dt (d_gtr rfl rfl rfl) rfl ?_
    refine mv rfl rfl (l_split (d := 86) rfl (fun s237 => ?_) (fun s237 => ?_))
    ·try have hF1 : ¬ F1 d (b - 1) e (c - 1) := by simpa using s237
     refine gsk rfl rfl rfl rfl rfl (gsk rfl rfl rfl rfl rfl (gsk rfl rfl rfl rfl rfl (gsk rfl rfl rfl rfl rfl (gsk rfl rfl rfl rfl rfl (dt (d_pickt rfl rfl rfl) rfl ?_)))))
     refine as_ rfl rfl (l_nil ?_)
     exact x_jn () trivial ⟨by first | rfl | exact congrArg (fun z => some (Value.bool z)) (decide_eq_true (by omega)).symm | exact congrArg (fun z => some (Value.bool z)) (decide_eq_decide.2 (by omega)), rfl, rfl, rfl, rfl, rfl, rfl, rfl, rfl, trivial⟩ ⟨rfl, rfl, rfl, rfl, rfl, trivial⟩
    ·refine gdt (d_mv rfl rfl) rfl rfl rfl rfl ?_
     refine gdt (d_mv rfl rfl) rfl rfl rfl rfl ?_
     refine gdt (d_add rfl rfl rfl ⟨by omega, by omega⟩) rfl rfl rfl rfl ?_
     refine gdt (d_add rfl rfl rfl ⟨by omega, by omega⟩) rfl rfl rfl rfl ?_
     refine gdt (d_gtr rfl rfl rfl) rfl rfl rfl rfl ?_
     refine dt (d_pickf rfl rfl rfl) rfl ?_
     refine as_ rfl rfl (l_nil ?_)
     exact x_jn () trivial ⟨by first | rfl | exact congrArg (fun z => some (Value.bool z)) (decide_eq_true (by omega)).symm | exact congrArg (fun z => some (Value.bool z)) (decide_eq_decide.2 (by omega)), rfl, rfl, rfl, rfl, rfl, rfl, rfl, rfl, trivial⟩ ⟨rfl, rfl, rfl, rfl, rfl, trivial⟩
   ·rintro _j -
    simp only [List.cons_append, List.nil_append]
    refine e_jn [(0, _), (1, _), (2, _), (3, _), (9, _), (10, _)] [(0, _), (80, _), (81, _), (999, _), (1, _)] (fun (_j : Unit) => [(113, .bool false)]) (fun (_j : Unit) => []) (fun (_j : Unit) => True) ⟨rfl, rfl, rfl, rfl, rfl, rfl, trivial⟩ ⟨rfl, rfl, rfl, rfl, rfl, trivial⟩ ?_ ?_
    ·refine e_reg (mv rfl rfl (mv rfl rfl (dt (d_eql rfl rfl rfl) rfl ?_)))
     refine dt (det_is (r' := .bool false) (d_neb rfl rfl rfl Try.underlying4) (congrArg Value.bool (bb_iff (seven_iff _).symm))) rfl ?_
     refine mv rfl rfl (gdt (d_mv rfl rfl) rfl rfl rfl rfl ?_)
     refine gdt (d_notb rfl rfl) rfl rfl rfl rfl ?_
     refine gdt (d_mv rfl rfl) rfl rfl rfl rfl ?_
     refine l_splitb (d := 100) rfl (fun s237_2 => ?_) (fun s237_2 => ?_)
     ·try have hF1 : ¬ F1 d (b - 1) e (c - 1) := by simpa using s237_2
      refine gdt (d_mv rfl rfl) rfl rfl rfl rfl ?_
      refine gdt (det_is (r' := .bool false) (d_neq rfl rfl rfl) (congrArg Value.bool (by rw [if_neg hF1]; rfl))) rfl rfl rfl rfl ?_
      refine gdt (d_mv rfl rfl) rfl rfl rfl rfl ?_
      refine gdt (d_mv rfl rfl) rfl rfl rfl rfl ?_
      refine gdt (d_len rfl rfl (i := 1) rfl rd_slp Try.underlying24) rfl rfl rfl rfl ?_
      refine gdt (d_mv rfl rfl) rfl rfl rfl rfl ?_
      refine gdt (d_mv rfl rfl) rfl rfl rfl rfl ?_
      refine gdt (d_add rfl rfl rfl ⟨by omega, by omega⟩) rfl rfl rfl rfl ?_
      refine gdt (d_add rfl rfl rfl ⟨by omega, by omega⟩) rfl rfl rfl rfl ?_
      refine gdt (det_is (r' := .bool false) (d_neq rfl rfl rfl) (congrArg Value.bool (by rw [if_neg hF1, len_mul_mon]; exact decide_eq_false (by omega)))) rfl rfl rfl rfl ?_
      refine gdt (d_pickf rfl rfl rfl) rfl rfl rfl rfl ?_
      refine gdt (d_pickt rfl rfl rfl) rfl rfl rfl rfl ?_
      refine dt (d_pickf rfl rfl rfl) rfl ?_
      refine l_nil ?_
      exact x_jn () trivial ⟨rfl, rfl, rfl, rfl, rfl, rfl, rfl, trivial⟩ ⟨rfl, rfl, rfl, rfl, rfl, trivial⟩
     ·refine gsk rfl rfl rfl rfl rfl (gsk rfl rfl rfl rfl rfl (gsk rfl rfl rfl rfl rfl (gsku rfl rfl rfl ?_)))
      refine gsku rfl rfl rfl ?_
      refine gsku rfl rfl rfl ?_
      refine gsku rfl rfl rfl ?_
      refine gsku rfl rfl rfl ?_
      refine gsku rfl rfl rfl ?_
      refine gsku rfl rfl rfl ?_
      refine gsk rfl rfl rfl rfl rfl (gdt (d_pickf rfl rfl rfl) rfl rfl rfl rfl ?_)
      refine dt (d_pickf rfl rfl rfl) rfl ?_
      refine l_nil ?_
      exact x_jn () trivial ⟨rfl, rfl, rfl, rfl, rfl, rfl, rfl, trivial⟩ ⟨rfl, rfl, rfl, rfl, rfl, trivial⟩
    ·rintro _j -
     simp only [List.cons_append, List.nil_append]
     refine e_condf rfl ?_
     refine e_skip ?_
     refine x_then (e_seq (e_reg (mv rfl rfl (mv rfl rfl (tt (t_call (n := 2) (l_add _ hd (by omega)) rfl rfl rfl ⟨rfl, rfl, trivial⟩ Try.call7 (pre_same 80 rfl rfl rfl (pre_same 80 rfl rfl rfl pre_nil)) rfl hw) rfl (fun _ _ => ?_))))))
     refine mv rfl rfl (dt (d_ex rfl rfl rfl) rfl ?_)
     refine dt (d_ex rfl rfl rfl) rfl ?_
     refine as_ rfl rfl (as_ rfl rfl (l_nil (x_then (e_seq (e_seq (e_reg (mv rfl rfl (dt (d_eql rfl rfl rfl) rfl ?_))))))))
     refine as_ rfl rfl (l_nil (x_then (e_jn [(0, _), (1, _), (2, _), (3, _), (9, _), (10, _)] [(0, _), (80, _), (81, _), (999, _), (1, _), (2, _)] (fun (_j : Unit) => [(140, .bool false)]) (fun (_j : Unit) => []) (fun (_j : Unit) => True) ⟨rfl, rfl, rfl, rfl, rfl, rfl, trivial⟩ ⟨rfl, rfl, rfl, rfl, rfl, rfl, trivial⟩ ?_ ?_)))
     ·refine e_reg (mv rfl rfl (mv rfl rfl (dt (d_eql rfl rfl rfl) rfl ?_)))
      refine dt (det_is (r' := .bool false) (d_neb rfl rfl rfl Try.underlying4) (congrArg Value.bool (bb_iff ((by omega : _ ↔ b - 1 = 65535).trans (seven_iff _).symm)))) rfl ?_
      refine mv rfl rfl (gdt (d_mv rfl rfl) rfl rfl rfl rfl ?_)
      refine gdt (d_not rfl rfl) rfl rfl rfl rfl ?_
      refine gdt (d_mv rfl rfl) rfl rfl rfl rfl ?_
      refine l_split (d := 129) rfl (fun s241 => ?_) (fun s241 => ?_)
      ·try have hF2 : ¬ (b - 1 = 65535) := by omega
       refine gdt (d_mv rfl rfl) rfl rfl rfl rfl ?_
       refine gdt (det_is (r' := .bool false) (d_neq rfl rfl rfl) (congrArg Value.bool (by rw [if_neg hF2]; rfl))) rfl rfl rfl rfl ?_
       refine gdt (d_mv rfl rfl) rfl rfl rfl rfl ?_
       refine gdt (d_mv rfl rfl) rfl rfl rfl rfl ?_
       refine gdt (d_len rfl rfl (i := 2) rfl rd_slp Try.underlying24) rfl rfl rfl rfl ?_
       refine gdt (d_mv rfl rfl) rfl rfl rfl rfl ?_
       refine gdt (d_add rfl rfl rfl ⟨by omega, by omega⟩) rfl rfl rfl rfl ?_
       refine gdt (det_is (r' := .bool false) (d_neq rfl rfl rfl) (congrArg Value.bool (by rw [if_neg hF2, length_mon]; exact decide_eq_false (by omega)))) rfl rfl rfl rfl ?_
       refine gdt (d_pickf rfl rfl rfl) rfl rfl rfl rfl ?_
       refine gdt (d_pickt rfl rfl rfl) rfl rfl rfl rfl ?_
       refine dt (d_pickf rfl rfl rfl) rfl ?_
       refine l_nil ?_
       exact x_jn () trivial ⟨rfl, rfl, rfl, rfl, rfl, rfl, rfl, trivial⟩ ⟨rfl, rfl, rfl, rfl, rfl, rfl, trivial⟩
      ·refine gsk rfl rfl rfl rfl rfl (gsk rfl rfl rfl rfl rfl (gsk rfl rfl rfl rfl rfl (gsku rfl rfl rfl ?_)))
       refine gsku rfl rfl rfl ?_
       refine gsku rfl rfl rfl ?_
       refine gsku rfl rfl rfl ?_
       refine gsku rfl rfl rfl ?_
       refine gsk rfl rfl rfl rfl rfl (gdt (d_pickf rfl rfl rfl) rfl rfl rfl rfl ?_)
       refine dt (d_pickf rfl rfl rfl) rfl ?_
       refine l_nil ?_
       exact x_jn () trivial ⟨rfl, rfl, rfl, rfl, rfl, rfl, rfl, trivial⟩ ⟨rfl, rfl, rfl, rfl, rfl, rfl, trivial⟩
     ·rintro _j -
      simp only [List.cons_append, List.nil_append]
      refine e_condf rfl ?_
      refine e_skip ?_
      refine x_then (e_seq (e_reg (mv rfl rfl (dt (det_is (r' := .int .i64 ((((c - 1) : Nat)) : Int)) (d_sub rfl rfl rfl ⟨by omega, by omega⟩) (congrArg (Value.int .i64) (by omega))) rfl ?_))))
      refine tt (t_call (n := 2) (law_power _ (by omega)) rfl rfl rfl ⟨rfl, trivial⟩ Try.call5 pre_nil rfl hw) rfl (fun _ _ => ?_)
      refine dt (d_bld (ivs := [(1, _)]) rfl ⟨rfl, rfl, trivial⟩ (fun a w hs => b26_1 ((one_rfl rfl) a w hs))) rfl ?_
      refine dt (d_bld (ivs := [(0, _), (1, _)]) rfl ⟨rfl, rfl, rfl, rfl, trivial⟩ (fun a w hs => b32_01)) rfl ?_
      refine tt (t_alloc (i := 3) rfl rfl rfl Try.zeroValue32 rfl rfl hw) rfl (fun bx _ => ?_)
      refine tt (t_stw (i := 3) rfl rfl rfl rfl rfl (by decide) rfl Try.sizeOf32 rfl rfl ⟨(one_rfl rfl), (one_rfl rfl), (one_rfl rfl), (one_rfl rfl), trivial⟩ rfl hw trivial) rfl (fun _ _ => ?_)
      refine l_nil (x_then (e_seq (e_reg (mv rfl rfl (dt (d_lb4 (i := 3) rfl rfl rfl Try.isAgg32 Try.sizeOf32 rfl rfl rfl rfl) rfl ?_)))))
      refine tt (t_call (n := 3) (poly_eval _ _ (2 ^ (c - 1)) 1 (vp_mon hd (by omega)) (by rw [bl_pow2]; omega) (by decide) (by decide)) rfl rfl rfl ⟨rfl, rfl, trivial⟩ Try.call8 (pre_same 80 rfl rfl rfl pre_nil) rfl hw) rfl (fun _ _ => ?_)
      refine mv rfl rfl (dt (d_ex rfl rfl rfl) rfl ?_)
      refine dt (d_ex rfl rfl rfl) rfl ?_
      refine tt (t_alloc (i := 4) rfl rfl rfl Try.zeroValue26 rfl rfl hw) rfl (fun bx_2 _ => ?_)
      refine tt (t_stw (i := 4) rfl rfl rfl rfl rfl (by decide) rfl Try.sizeOf26 rfl rfl ⟨(one_rfl rfl), (one_rfl rfl), trivial⟩ rfl hw trivial) rfl (fun _ _ => ?_)
      refine as_ rfl rfl (l_nil (x_then (e_seq (e_seq (e_reg (mv rfl rfl (mv rfl rfl (mv rfl rfl (dt (d_mul rfl rfl rfl (by rw [c0]; exact ⟨by omega, by omega⟩)) rfl ?_)))))))))
      refine dt (d_add rfl rfl rfl ⟨by omega, by omega⟩) rfl ?_
      refine dt (d_add rfl rfl rfl ⟨by omega, by omega⟩) rfl ?_
      refine dt (d_gtr rfl rfl rfl) rfl ?_
      refine mv rfl rfl (dt (d_eql rfl rfl rfl) rfl ?_)
      refine dt (det_is (r' := .bool false) (d_neb rfl rfl rfl Try.underlying4) (congrArg Value.bool (by rw [eve_mon]; exact bb_iff ((by rw [hdc]; omega : _ ↔ _).trans (seven_iff _).symm)))) rfl ?_
      refine l_nil (x_then (e_condf rfl ?_))
      refine e_skip ?_
      refine x_then (e_seq (e_reg (mv rfl rfl (mv rfl rfl (dt (det_is (r' := .int .i64 ((((c - 1) : Nat)) : Int)) (d_sub rfl rfl rfl ⟨by omega, by omega⟩) (congrArg (Value.int .i64) (by omega))) rfl ?_)))))
      refine tt (t_call (n := 4) (law_power _ (by omega)) rfl rfl rfl ⟨rfl, trivial⟩ Try.call5 pre_nil rfl hw) rfl (fun _ _ => ?_)
      refine tt (t_call (n := 4) (law_power 0 (by omega)) rfl rfl rfl ⟨rfl, trivial⟩ Try.call5 pre_nil rfl hw) rfl (fun _ _ => ?_)
      refine tt (t_call (n := 4) (law_power 0 (by omega)) rfl rfl rfl ⟨rfl, trivial⟩ Try.call5 pre_nil rfl hw) rfl (fun _ _ => ?_)
      refine tt (t_call (n := 5) (l_comp _ hd (by omega) (by omega)) rfl rfl rfl ⟨rfl, rfl, rfl, rfl, trivial⟩ Try.call9 (pre_same 80 rfl rfl rfl pre_nil) rfl hw) rfl (fun _ _ => ?_)
      refine mv rfl rfl (dt (d_ex rfl rfl rfl) rfl ?_)
      refine dt (d_ex rfl rfl rfl) rfl ?_
      refine as_ rfl rfl (as_ rfl rfl (l_nil (x_then (e_seq (e_seq (e_reg (mv rfl rfl (mv rfl rfl (mv rfl rfl (dt (d_add rfl rfl rfl ⟨by omega, by omega⟩) rfl ?_))))))))))
      refine dt (d_mul rfl rfl rfl (by rw [c1]; exact ⟨by omega, by omega⟩)) rfl ?_
      refine dt (d_add rfl rfl rfl ⟨by omega, by omega⟩) rfl ?_
      refine dt (d_add rfl rfl rfl ⟨by omega, by omega⟩) rfl ?_
      refine dt (d_gtr rfl rfl rfl) rfl ?_
      refine mv rfl rfl (dt (d_eql rfl rfl rfl) rfl ?_)
      refine dt (det_is (r' := .bool false) (d_neb rfl rfl rfl Try.underlying4) (congrArg Value.bool (bb_iff ((by show _ ↔ 65536 < b - 1 + 1 + d * (c - 1 + 1 + 1) + 8; rw [hdc1]; omega : _ ↔ F4 d (b - 1) (c - 1)).trans (seven_iff _).symm)))) rfl ?_
      refine l_nil (x_then (e_condf rfl ?_))
      refine e_skip ?_
      refine x_then (e_seq (e_reg (mv rfl rfl (mv rfl rfl (dt (d_max rfl rfl rfl) rfl ?_)))))
      refine dt (d_add rfl rfl rfl ⟨by omega, by omega⟩) rfl ?_
      refine as_ rfl rfl (l_nil (x_then (e_seq (e_reg (mv rfl rfl (mv rfl rfl (tt (t_call (n := 6) (l_gcd _ _ hd (by omega) he (by omega)) rfl rfl rfl ⟨rfl, rfl, trivial⟩ Try.call10 (pre_same 80 rfl rfl rfl (pre_same 81 rfl rfl rfl pre_nil)) rfl hw) rfl (fun _ _ => ?_))))))))
      refine mv rfl rfl (dt (d_ex rfl rfl rfl) rfl ?_)
      refine dt (d_ex rfl rfl rfl) rfl ?_
      refine as_ rfl rfl (as_ rfl rfl (l_nil (x_then (e_seq (e_seq (e_reg (mv rfl rfl (mv rfl rfl (dt (d_mul rfl rfl rfl (by rw [e3]; exact ⟨by omega, by omega⟩)) rfl ?_)))))))))
      refine mv rfl rfl (mv rfl rfl (dt (d_max rfl rfl rfl) rfl ?_))
      refine dt (d_add rfl rfl rfl ⟨by omega, by omega⟩) rfl ?_
      refine dt (d_mul rfl rfl rfl (by rw [e4]; exact ⟨by omega, by omega⟩)) rfl ?_
      refine dt (d_gtr rfl rfl rfl) rfl ?_
      refine mv rfl rfl (dt (d_eql rfl rfl rfl) rfl ?_)
      refine dt (det_is (r' := .bool false) (d_neb rfl rfl rfl Try.underlying4) (congrArg Value.bool (bb_iff ((by show _ ↔ 65536 < (max d e + 3) * (max d e + 3) * (max (b - 1 + 1) (c - 1 + 1) + 8); rw [hbb, hcc, e4]; omega : _ ↔ F5 d (b - 1) e (c - 1)).trans (seven_iff _).symm)))) rfl ?_
      refine l_nil (x_then (e_condf rfl ?_))
      refine e_skip ?_
      refine x_then (e_seq (e_reg (mv rfl rfl (mv rfl rfl (tt (t_call (n := 7) (l_rest _ _ hd (by omega) he (by omega)) rfl rfl rfl ⟨rfl, rfl, trivial⟩ Try.call11 (pre_same 80 rfl rfl rfl (pre_same 81 rfl rfl rfl pre_nil)) rfl hw) rfl (fun _ _ => ?_))))))
      refine mv rfl rfl (dt (d_ex rfl rfl rfl) rfl ?_)
      refine dt (d_ex rfl rfl rfl) rfl ?_
      refine as_ rfl rfl (as_ rfl rfl (l_nil (x_then (e_seq (e_reg (mv rfl rfl (mv rfl rfl (dt (d_geq rfl rfl rfl) rfl ?_))))))))
      refine mv rfl rfl (l_split (d := 214) rfl (fun s260 => ?_) (fun s260 => ?_))
      ·refine gdt (d_mv rfl rfl) rfl rfl rfl rfl ?_
       refine gdt (d_mv rfl rfl) rfl rfl rfl rfl ?_
       refine gdt (d_mv rfl rfl) rfl rfl rfl rfl ?_
       refine gdt (d_sub rfl rfl rfl ⟨by omega, by omega⟩) rfl rfl rfl rfl ?_
       refine gdt (d_add rfl rfl rfl ⟨by omega, by omega⟩) rfl rfl rfl rfl ?_
       refine gdt (d_mv rfl rfl) rfl rfl rfl rfl ?_
       refine gdt (d_add rfl rfl rfl ⟨by omega, by omega⟩) rfl rfl rfl rfl ?_
       refine gdt (d_mul rfl rfl rfl (by rw [e5 (by omega)]; exact ⟨by omega, by omega⟩)) rfl rfl rfl rfl ?_
       refine gdt (d_add rfl rfl rfl (by rw [e5 (by omega)]; exact ⟨by omega, by omega⟩)) rfl rfl rfl rfl ?_
       refine gdt (d_gtr rfl rfl rfl) rfl rfl rfl rfl ?_
       refine dt (d_pickt rfl rfl rfl) rfl ?_
       refine mv rfl rfl (dt (d_eql rfl rfl rfl) rfl ?_)
       refine dt (det_is (r' := .bool true) (d_eqb rfl rfl rfl Try.underlying4) (congrArg Value.bool (by first | exact bbe_iff ((by show _ ↔ (e ≤ d ∧ 65536 < b - 1 + 1 + (d - e + 1) * (c - 1 + 1 + 1)); rw [hcc, hbb, e5 (by omega)]; omega : _ ↔ F6 d (b - 1) e (c - 1)).trans (seven_iff _).symm) | (rw [if_neg (by omega)]; rfl)))) rfl ?_
       refine mv rfl rfl (gtt (t_call (n := 7) (law_known) rfl rfl rfl trivial Try.call4 pre_nil rfl hw) rfl rfl rfl rfl (fun _ _ => ?_))
       refine dt (d_pickt rfl rfl rfl) rfl ?_
       refine as_ rfl rfl (l_nil (x_then (e_ret ?_)))
       exact x_end (.inl rfl) hsc () _ (fun a w hs => res1 hs Try.results3 rfl) rfl trivial rfl give_nil
      ·refine gsk rfl rfl rfl rfl rfl (gsk rfl rfl rfl rfl rfl (gsk rfl rfl rfl rfl rfl (gsk rfl rfl rfl rfl rfl (gsk rfl rfl rfl rfl rfl (gsk rfl rfl rfl rfl rfl (gsk rfl rfl rfl rfl rfl (gsk rfl rfl rfl rfl rfl (gsk rfl rfl rfl rfl rfl (gsk rfl rfl rfl rfl rfl (dt (d_pickf rfl rfl rfl) rfl ?_))))))))))
       refine mv rfl rfl (dt (d_eql rfl rfl rfl) rfl ?_)
       refine dt (det_is (r' := .bool true) (d_eqb rfl rfl rfl Try.underlying4) (congrArg Value.bool (by first | exact bbe_iff ((by show _ ↔ (e ≤ d ∧ 65536 < b - 1 + 1 + (d - e + 1) * (c - 1 + 1 + 1)); rw [hcc, hbb, e5 (by omega)]; omega : _ ↔ F6 d (b - 1) e (c - 1)).trans (seven_iff _).symm) | (rw [if_neg (by omega)]; rfl)))) rfl ?_
       refine mv rfl rfl (gtt (t_call (n := 7) (law_known) rfl rfl rfl trivial Try.call4 pre_nil rfl hw) rfl rfl rfl rfl (fun _ _ => ?_))
       refine dt (d_pickt rfl rfl rfl) rfl ?_
       refine as_ rfl rfl (l_nil (x_then (e_ret ?_)))
       exact x_end (.inl rfl) hsc () _ (fun a w hs => res1 hs Try.results3 rfl) rfl trivial rfl give_nil
set_option maxHeartbeats 4000000 in
theorem law_limits_out (d b e c : Int) (h : d < 0 ∨ 24 < d ∨ b < 1 ∨ 65536 < b ∨ e < 0 ∨ 24 < e ∨ c < 1 ∨ 65536 < c) : Cal Try.prog 3 #[.int .i64 d, .int .i64 b, .int .i64 e, .int .i64 c] [] false (G := Unit) (fun _ => True) (fun _ => .bool true) (fun _ => []) := by
 refine cal_in Try.func3 rfl Try.ntmps3 rfl trivial ?_
 intro w0 sc hw hsc
 simp only [enumEnv, enumPre]
 refine e_imp (s_nil 999 2 26 wv) ?_
 refine e_imp (s_pub 999 rfl rfl pV) ?_
 refine e_seq (e_reg (as_ rfl rfl (l_nil (x_then (e_seq (e_seq (e_reg (mv rfl rfl (dt (d_lss rfl rfl rfl) rfl ?_)))))))))
 refine mv rfl rfl (l_split (d := 29) rfl (fun s231 => ?_) (fun s231 => ?_))
 ·refine gsk rfl rfl rfl rfl rfl (gsk rfl rfl rfl rfl rfl (dt (d_pickt rfl rfl rfl) rfl ?_))
  refine mv rfl rfl (gsk rfl rfl rfl rfl rfl (gsk rfl rfl rfl rfl rfl (dt (d_pickt rfl rfl rfl) rfl ?_)))
  refine mv rfl rfl (gsk rfl rfl rfl rfl rfl (gsk rfl rfl rfl rfl rfl (dt (d_pickt rfl rfl rfl) rfl ?_)))
  refine mv rfl rfl (gsk rfl rfl rfl rfl rfl (gsk rfl rfl rfl rfl rfl (dt (d_pickt rfl rfl rfl) rfl ?_)))
  refine mv rfl rfl (gsk rfl rfl rfl rfl rfl (gsk rfl rfl rfl rfl rfl (dt (d_pickt rfl rfl rfl) rfl ?_)))
  refine mv rfl rfl (gsk rfl rfl rfl rfl rfl (gsk rfl rfl rfl rfl rfl (dt (d_pickt rfl rfl rfl) rfl ?_)))
  refine mv rfl rfl (gsk rfl rfl rfl rfl rfl (gsk rfl rfl rfl rfl rfl (dt (d_pickt rfl rfl rfl) rfl ?_)))
  refine l_nil (x_then (e_condt rfl ?_))
  refine e_seq (e_reg (tt (t_call (n := 0) (law_known) rfl rfl rfl trivial Try.call4 pre_nil rfl hw) rfl (fun _ _ => ?_)))
  refine as_ rfl rfl (l_nil (x_then (e_ret (x_ret ?_))))
  exact x_end (.inl rfl) hsc () _ (fun a w hs => res1 hs Try.results3 rfl) rfl trivial rfl give_nil
 ·refine gdt (d_mv rfl rfl) rfl rfl rfl rfl ?_
  refine gdt (d_gtr rfl rfl rfl) rfl rfl rfl rfl ?_
  refine dt (d_pickf rfl rfl rfl) rfl ?_
  refine mv rfl rfl (l_split (d := 33) rfl (fun s231_2 => ?_) (fun s231_2 => ?_))
  ·refine gsk rfl rfl rfl rfl rfl (gsk rfl rfl rfl rfl rfl (dt (d_pickt rfl rfl rfl) rfl ?_))
   refine mv rfl rfl (gsk rfl rfl rfl rfl rfl (gsk rfl rfl rfl rfl rfl (dt (d_pickt rfl rfl rfl) rfl ?_)))
   refine mv rfl rfl (gsk rfl rfl rfl rfl rfl (gsk rfl rfl rfl rfl rfl (dt (d_pickt rfl rfl rfl) rfl ?_)))
   refine mv rfl rfl (gsk rfl rfl rfl rfl rfl (gsk rfl rfl rfl rfl rfl (dt (d_pickt rfl rfl rfl) rfl ?_)))
   refine mv rfl rfl (gsk rfl rfl rfl rfl rfl (gsk rfl rfl rfl rfl rfl (dt (d_pickt rfl rfl rfl) rfl ?_)))
   refine mv rfl rfl (gsk rfl rfl rfl rfl rfl (gsk rfl rfl rfl rfl rfl (dt (d_pickt rfl rfl rfl) rfl ?_)))
   refine l_nil (x_then (e_condt rfl ?_))
   refine e_seq (e_reg (tt (t_call (n := 0) (law_known) rfl rfl rfl trivial Try.call4 pre_nil rfl hw) rfl (fun _ _ => ?_)))
   refine as_ rfl rfl (l_nil (x_then (e_ret (x_ret ?_))))
   exact x_end (.inl rfl) hsc () _ (fun a w hs => res1 hs Try.results3 rfl) rfl trivial rfl give_nil
  ·refine gdt (d_mv rfl rfl) rfl rfl rfl rfl ?_
   refine gdt (d_lss rfl rfl rfl) rfl rfl rfl rfl ?_
   refine dt (d_pickf rfl rfl rfl) rfl ?_
   refine mv rfl rfl (l_split (d := 37) rfl (fun s231_3 => ?_) (fun s231_3 => ?_))
   ·refine gsk rfl rfl rfl rfl rfl (gsk rfl rfl rfl rfl rfl (dt (d_pickt rfl rfl rfl) rfl ?_))
    refine mv rfl rfl (gsk rfl rfl rfl rfl rfl (gsk rfl rfl rfl rfl rfl (dt (d_pickt rfl rfl rfl) rfl ?_)))
    refine mv rfl rfl (gsk rfl rfl rfl rfl rfl (gsk rfl rfl rfl rfl rfl (dt (d_pickt rfl rfl rfl) rfl ?_)))
    refine mv rfl rfl (gsk rfl rfl rfl rfl rfl (gsk rfl rfl rfl rfl rfl (dt (d_pickt rfl rfl rfl) rfl ?_)))
    refine mv rfl rfl (gsk rfl rfl rfl rfl rfl (gsk rfl rfl rfl rfl rfl (dt (d_pickt rfl rfl rfl) rfl ?_)))
    refine l_nil (x_then (e_condt rfl ?_))
    refine e_seq (e_reg (tt (t_call (n := 0) (law_known) rfl rfl rfl trivial Try.call4 pre_nil rfl hw) rfl (fun _ _ => ?_)))
    refine as_ rfl rfl (l_nil (x_then (e_ret (x_ret ?_))))
    exact x_end (.inl rfl) hsc () _ (fun a w hs => res1 hs Try.results3 rfl) rfl trivial rfl give_nil
   ·refine gdt (d_mv rfl rfl) rfl rfl rfl rfl ?_
    refine gdt (d_gtr rfl rfl rfl) rfl rfl rfl rfl ?_
    refine dt (d_pickf rfl rfl rfl) rfl ?_
    refine mv rfl rfl (l_split (d := 41) rfl (fun s231_4 => ?_) (fun s231_4 => ?_))
    ·refine gsk rfl rfl rfl rfl rfl (gsk rfl rfl rfl rfl rfl (dt (d_pickt rfl rfl rfl) rfl ?_))
     refine mv rfl rfl (gsk rfl rfl rfl rfl rfl (gsk rfl rfl rfl rfl rfl (dt (d_pickt rfl rfl rfl) rfl ?_)))
     refine mv rfl rfl (gsk rfl rfl rfl rfl rfl (gsk rfl rfl rfl rfl rfl (dt (d_pickt rfl rfl rfl) rfl ?_)))
     refine mv rfl rfl (gsk rfl rfl rfl rfl rfl (gsk rfl rfl rfl rfl rfl (dt (d_pickt rfl rfl rfl) rfl ?_)))
     refine l_nil (x_then (e_condt rfl ?_))
     refine e_seq (e_reg (tt (t_call (n := 0) (law_known) rfl rfl rfl trivial Try.call4 pre_nil rfl hw) rfl (fun _ _ => ?_)))
     refine as_ rfl rfl (l_nil (x_then (e_ret (x_ret ?_))))
     exact x_end (.inl rfl) hsc () _ (fun a w hs => res1 hs Try.results3 rfl) rfl trivial rfl give_nil
    ·refine gdt (d_mv rfl rfl) rfl rfl rfl rfl ?_
     refine gdt (d_lss rfl rfl rfl) rfl rfl rfl rfl ?_
     refine dt (d_pickf rfl rfl rfl) rfl ?_
     refine mv rfl rfl (l_split (d := 45) rfl (fun s231_5 => ?_) (fun s231_5 => ?_))
     ·refine gsk rfl rfl rfl rfl rfl (gsk rfl rfl rfl rfl rfl (dt (d_pickt rfl rfl rfl) rfl ?_))
      refine mv rfl rfl (gsk rfl rfl rfl rfl rfl (gsk rfl rfl rfl rfl rfl (dt (d_pickt rfl rfl rfl) rfl ?_)))
      refine mv rfl rfl (gsk rfl rfl rfl rfl rfl (gsk rfl rfl rfl rfl rfl (dt (d_pickt rfl rfl rfl) rfl ?_)))
      refine l_nil (x_then (e_condt rfl ?_))
      refine e_seq (e_reg (tt (t_call (n := 0) (law_known) rfl rfl rfl trivial Try.call4 pre_nil rfl hw) rfl (fun _ _ => ?_)))
      refine as_ rfl rfl (l_nil (x_then (e_ret (x_ret ?_))))
      exact x_end (.inl rfl) hsc () _ (fun a w hs => res1 hs Try.results3 rfl) rfl trivial rfl give_nil
     ·refine gdt (d_mv rfl rfl) rfl rfl rfl rfl ?_
      refine gdt (d_gtr rfl rfl rfl) rfl rfl rfl rfl ?_
      refine dt (d_pickf rfl rfl rfl) rfl ?_
      refine mv rfl rfl (l_split (d := 49) rfl (fun s231_6 => ?_) (fun s231_6 => ?_))
      ·refine gsk rfl rfl rfl rfl rfl (gsk rfl rfl rfl rfl rfl (dt (d_pickt rfl rfl rfl) rfl ?_))
       refine mv rfl rfl (gsk rfl rfl rfl rfl rfl (gsk rfl rfl rfl rfl rfl (dt (d_pickt rfl rfl rfl) rfl ?_)))
       refine l_nil (x_then (e_condt rfl ?_))
       refine e_seq (e_reg (tt (t_call (n := 0) (law_known) rfl rfl rfl trivial Try.call4 pre_nil rfl hw) rfl (fun _ _ => ?_)))
       refine as_ rfl rfl (l_nil (x_then (e_ret (x_ret ?_))))
       exact x_end (.inl rfl) hsc () _ (fun a w hs => res1 hs Try.results3 rfl) rfl trivial rfl give_nil
      ·refine gdt (d_mv rfl rfl) rfl rfl rfl rfl ?_
       refine gdt (d_lss rfl rfl rfl) rfl rfl rfl rfl ?_
       refine dt (d_pickf rfl rfl rfl) rfl ?_
       refine mv rfl rfl (l_split (d := 53) rfl (fun s231_7 => ?_) (fun s231_7 => ?_))
       ·refine gsk rfl rfl rfl rfl rfl (gsk rfl rfl rfl rfl rfl (dt (d_pickt rfl rfl rfl) rfl ?_))
        refine l_nil (x_then (e_condt rfl ?_))
        refine e_seq (e_reg (tt (t_call (n := 0) (law_known) rfl rfl rfl trivial Try.call4 pre_nil rfl hw) rfl (fun _ _ => ?_)))
        refine as_ rfl rfl (l_nil (x_then (e_ret (x_ret ?_))))
        exact x_end (.inl rfl) hsc () _ (fun a w hs => res1 hs Try.results3 rfl) rfl trivial rfl give_nil
       ·refine gdt (d_mv rfl rfl) rfl rfl rfl rfl ?_
        refine gdt (d_gtr rfl rfl rfl) rfl rfl rfl rfl ?_
        refine dt (d_pickf rfl rfl rfl) rfl ?_
        refine l_nil (x_then (e_cond rfl (fun h231 => ?_) (fun h231 => ?_)))
        ·refine e_seq (e_reg (tt (t_call (n := 0) (law_known) rfl rfl rfl trivial Try.call4 pre_nil rfl hw) rfl (fun _ _ => ?_)))
         refine as_ rfl rfl (l_nil (x_then (e_ret (x_ret ?_))))
         exact x_end (.inl rfl) hsc () _ (fun a w hs => res1 hs Try.results3 rfl) rfl trivial rfl give_nil
        ·exfalso; omega
end Go.Sky
namespace Go.Sky
open Go.Proofs
theorem law_limits (d b e c : Int) : Cal Try.prog 3 #[.int .i64 d, .int .i64 b, .int .i64 e, .int .i64 c] [] false (G := Unit) (fun _ => True) (fun _ => .bool true) (fun _ => []) := by
  by_cases h : d < 0 ∨ 24 < d ∨ b < 1 ∨ 65536 < b ∨ e < 0 ∨ 24 < e ∨ c < 1 ∨ 65536 < c
  · exact law_limits_out d b e c h
  · obtain ⟨d, rfl⟩ := Int.eq_ofNat_of_zero_le (a := d) (by omega)
    obtain ⟨b, rfl⟩ := Int.eq_ofNat_of_zero_le (a := b) (by omega)
    obtain ⟨e, rfl⟩ := Int.eq_ofNat_of_zero_le (a := e) (by omega)
    obtain ⟨c, rfl⟩ := Int.eq_ofNat_of_zero_le (a := c) (by omega)
    exact law_limits_ok d b e c (by omega) (by omega) (by omega) (by omega) (by omega) (by omega)
end Go.Sky

