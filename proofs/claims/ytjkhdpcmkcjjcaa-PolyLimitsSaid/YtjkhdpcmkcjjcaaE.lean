/- contracts of package wide
   Proved without conditions of its own: each theorem bears its own. -/
import Derived.Test.YtjkhdpcmkcjjcaaD
import Derived.Test.YtjkhdpcmkcjjcaaB
import Derived.Test.YtjkhdpcmkcjjcaaC
set_option linter.all false
namespace Go.Sky
open Go.Proofs
set_option maxRecDepth 20000
set_option maxHeartbeats 4000000
set_option linter.unusedVariables false
set_option linter.unusedSimpArgs false
theorem nat_trim (v : Value) (xs : List Nat) : Cal Try.prog 55 #[v] [slp 1 encU v xs] true (G := Unit) (fun _ => True) (fun _ => preV v (tz xs).length) (fun _ => [slp 1 encU (preV v (tz xs).length) (tz xs)]) := by
 refine cal_in Try.func55 rfl Try.ntmps55 rfl ⟨rfl, trivial⟩ ?_
 intro w0 sc hw hsc
 simp only [enumEnv, enumPre]
 refine e_fact (f_self (i := 1) rfl rd_slp) (fun hself => ?_)
 refine e_fact (f_len (i := 1) rfl rd_slp) (fun hlen => ?_)
 refine e_seq (e_reg (as_ rfl rfl (l_nil (x_then (e_seq (e_block (e_lp [] [(0, _)] (fun (k : Nat) => [(0, preV v k)]) (fun (k : Nat) => [(1, slp 1 encU (preV v k) (xs.take k))]) (fun (k : Nat) => (k ≤ xs.length) ∧ (tz (xs.take k) = tz xs)) (fun (k : Nat) => k) xs.length ⟨Nat.le_refl _, by rw [List.take_length]⟩ ⟨by rw [hself]; rfl, trivial⟩ ⟨by rw [hself, List.take_length]; rfl, rfl, trivial⟩ ?_)))))))
 rintro k ⟨hk, ht⟩
 simp only [List.cons_append, List.nil_append]
 have hl : (xs.take k).length = k := by rw [List.length_take]; omega
 refine e_seq (e_seq (e_reg (mv rfl rfl (dt (d_len rfl rfl (i := 1) rfl rd_slp Try.underlying83) rfl ?_))))
 refine dt (d_gtr rfl rfl rfl) rfl ?_
 refine mv rfl rfl (l_split (d := 6) rfl (fun s21 => ?_) (fun s21 => ?_))
 ·refine gdt (d_mv rfl rfl) rfl rfl rfl rfl ?_
  refine gdt (d_mv rfl rfl) rfl rfl rfl rfl ?_
  refine gdt (d_len rfl rfl (i := 1) rfl rd_slp Try.underlying83) rfl rfl rfl rfl ?_
  refine gdt (d_sub rfl rfl rfl ⟨by omega, by omega⟩) rfl rfl rfl rfl ?_
  refine gdt (d_ixa (ii := 1) (i := k - 1) rfl rfl rfl rfl rd_slp Try.underlying83 Try.sizeOf81 (by omega) (by omega)) rfl rfl rfl rfl ?_
  refine gdt (d_lde (ii := 1) 0 rfl rfl rfl rd_slp pU (by omega)) rfl rfl rfl rfl ?_
  refine gdt (d_eql rfl rfl rfl) rfl rfl rfl rfl ?_
  refine dt (d_pickt rfl rfl rfl) rfl ?_
  refine l_nil (x_then (e_cond rfl (fun h21 => ?_) (fun h21 => ?_)))
  ·have hstep := tz_step hk (by omega) (by omega : (xs.take k).getD (k - 1) 0 = 0)
   refine e_skip ?_
   refine x_then (e_block (e_reg (mv rfl rfl (mv rfl rfl (dt (d_len rfl rfl (i := 1) rfl rd_slp Try.underlying83) rfl ?_)))))
   refine dt (d_sub rfl rfl rfl ⟨by omega, by omega⟩) rfl ?_
   refine dt (d_pre (ii := 1) (i := k - 1) rfl rfl rfl rfl rd_slp Try.underlying83 Try.sizeOf81 (by omega) (by omega)) rfl ?_
   refine as_ rfl rfl (l_nil (x_bn ?_))
   refine x_imp (s_pre 1 1 (k - 1) rfl rfl (by omega)) ?_
   exact x_rnd (k - 1) ⟨by first | omega | (dsimp only <;> omega), by rw [← ht, ← hstep]⟩ (by first | omega | (dsimp only <;> omega)) ⟨by rw [← preV_preV v k (k - 1)]; rfl, trivial⟩ ⟨by rw [preV_preV, List.take_take, Nat.min_eq_left (by omega)]; rfl, rfl, trivial⟩
  ·refine e_exit ?_
   refine x_exit (x_exit (x_be ?_))
   refine x_then (e_seq (e_reg (mv rfl rfl (as_ rfl rfl (l_nil (x_then (e_ret ?_)))))))
   have hx : tz xs = xs.take k := by rw [← ht]; exact tz_stop hk (by omega)
   exact x_end (.inl rfl) hsc () _ (fun a w hs => res1 hs Try.results55 rfl) (by rw [hx, hl]) trivial rfl (give_samee 1 rfl rfl rfl (by rw [hx, hl]) give_nil)
 ·refine gsk rfl rfl rfl rfl rfl (gsk rfl rfl rfl rfl rfl (gsk rfl rfl rfl rfl rfl (gsk rfl rfl rfl rfl rfl (gsk rfl rfl rfl rfl rfl (gsk rfl rfl rfl rfl rfl (gsk rfl rfl rfl rfl rfl (dt (d_pickf rfl rfl rfl) rfl ?_)))))))
  refine l_nil (x_then (e_condf rfl ?_))
  refine e_exit ?_
  refine x_exit (x_exit (x_be ?_))
  refine x_then (e_seq (e_reg (mv rfl rfl (as_ rfl rfl (l_nil (x_then (e_ret ?_)))))))
  have hx : tz xs = xs.take k := by rw [← ht]; exact tz_stop hk (by omega)
  exact x_end (.inl rfl) hsc () _ (fun a w hs => res1 hs Try.results55 rfl) (by rw [hx, hl]) trivial rfl (give_samee 1 rfl rfl rfl (by rw [hx, hl]) give_nil)
theorem nat_trim_own (v : Value) (xs : List Nat) : Cal Try.prog 55 #[v] [slp 1 encU v xs] false (G := Unit) (fun _ => True) (fun _ => preV v (tz xs).length) (fun _ => []) := (nat_trim v xs).bare
theorem nat_add (v w : Value) (x y : Nat) (hx : bl x ≤ 4294967296) (hy : bl y ≤ 4294967296) : Cal Try.prog 77 #[v, w] [dgp v x, dgp w y] false (G := Value) (fun r => True) (fun r => r) (fun r => [dgp r (x + y)]) := by
 refine cal_in Try.func77 rfl Try.ntmps77 rfl ⟨rfl, rfl, trivial⟩ ?_
 intro w0 sc hw hsc
 simp only [enumEnv, enumPre]
 have hX := lenU_bl x
 have hY := lenU_bl y
 refine e_seq (e_reg (as_ rfl rfl (l_nil (x_then (e_jn [] [(0, _), (1, _), (2, _)] (fun (q : Value × Value × Nat × Nat) => [(0, q.1), (1, q.2.1)]) (fun (q : Value × Value × Nat × Nat) => [(91, dgp q.1 q.2.2.1), (92, dgp q.2.1 q.2.2.2)]) (fun (q : Value × Value × Nat × Nat) => (q.2.2.1 + q.2.2.2 = x + y) ∧ ((dg U q.2.2.2).length ≤ (dg U q.2.2.1).length) ∧ ((dg U q.2.2.1).length ≤ 1099511627776)) trivial ⟨rfl, rfl, rfl, trivial⟩ ?_ ?_)))))
 ·refine e_seq (e_reg (mv rfl rfl (dt (d_len rfl rfl (i := 1) rfl rd_slp Try.underlying83) rfl ?_)))
  refine mv rfl rfl (dt (d_len rfl rfl (i := 2) rfl rd_slp Try.underlying83) rfl ?_)
  refine dt (d_lss rfl rfl rfl) rfl ?_
  refine l_nil (x_then (e_cond rfl (fun h73 => ?_) (fun h73 => ?_)))
  ·refine e_reg (mv rfl rfl (mv rfl rfl (as_ rfl rfl (as_ rfl rfl (l_nil (x_imp (s_dup 2 91 rfl rfl rfl) ?_))))))
   refine x_imp (s_dup 1 92 rfl rfl rfl) ?_
   exact x_jn (w, v, y, x) ⟨by first | omega | (dsimp only <;> omega), by first | omega | (dsimp only <;> omega), by first | omega | (dsimp only <;> omega)⟩ ⟨rfl, rfl, trivial⟩ ⟨rfl, rfl, rfl, rfl, rfl, trivial⟩
  ·refine e_skip ?_
   refine x_imp (s_dup 1 91 rfl rfl rfl) ?_
   refine x_imp (s_dup 2 92 rfl rfl rfl) ?_
   exact x_jn (v, w, x, y) ⟨by first | omega | (dsimp only <;> omega), by first | omega | (dsimp only <;> omega), by first | omega | (dsimp only <;> omega)⟩ ⟨rfl, rfl, trivial⟩ ⟨rfl, rfl, rfl, rfl, rfl, trivial⟩
 ·rintro ⟨va, vb, a, b⟩ ⟨hs, hl, hla⟩
  dsimp only at hs hl hla
  simp only [List.cons_append, List.nil_append]
  refine e_seq (e_reg (mv rfl rfl (dt (d_len rfl rfl (i := 91) rfl rd_slp Try.underlying83) rfl ?_)))
  refine dt (d_add rfl rfl rfl ⟨by omega, by omega⟩) rfl ?_
  refine tt (t_mkn (i := 3) (n := (dg U a).length + 1) (by_ := 8) (enc := encU) 0 rfl rfl rfl rfl rfl (by omega) Try.underlying83 Try.ti81 rfl pU.cells pU.pos rfl rfl (by omega) (by decide) rfl hw) rfl (fun v _ => ?_)
  refine as_ rfl rfl (l_nil (x_then (e_seq (e_reg (as_ rfl rfl (l_nil (x_then (e_seq (e_seq (e_reg (mv rfl rfl (dt (d_len rfl rfl (i := 91) rfl rd_slp Try.underlying83) rfl ?_))))))))))))
  refine mv rfl rfl (l_nil (x_then (e_block (e_lp [(0, _), (1, _), (5, _), (21, _)] [(0, _), (91, _), (92, _), (1, _), (2, _)] (fun (q : Nat × List Nat × Nat) => [(22, .int .i64 (q.1 : Int)), (6, .int .u64 (q.2.2 : Int))]) (fun (q : Nat × List Nat × Nat) => [(3, osl 1 81 encU v q.2.1)]) (fun (q : Nat × List Nat × Nat) => (q.1 ≤ (dg U a).length) ∧ (q.2.1.length = (dg U a).length + 1) ∧ (∀ d ∈ q.2.1, d < U) ∧ (q.2.2 ≤ 1) ∧ (val U (q.2.1.take q.1) + q.2.2 * U ^ q.1 = val U ((dg U a).take q.1) + val U ((dg U b).take q.1))) (fun (q : Nat × List Nat × Nat) => (dg U a).length - q.1) (0, List.replicate ((dg U a).length + 1) 0, 0) ⟨by first | omega | (dsimp only <;> omega), by simp, all_replicate _ U_pos, by first | omega | (dsimp only <;> omega), by simp [val]⟩ ⟨rfl, rfl, rfl, rfl, rfl, rfl, trivial⟩ ⟨rfl, rfl, rfl, rfl, rfl, rfl, trivial⟩ ?_))))
  rintro ⟨k, o, c⟩ ⟨hk, hol, hoa, hc, hv⟩
  dsimp only at hk hol hoa hc hv
  simp only [List.cons_append, List.nil_append]
  refine e_seq (e_reg (dt (d_lss rfl rfl rfl) rfl ?_))
  refine l_nil (x_then (e_seq (e_cond rfl (fun h78 => ?_) (fun h78 => ?_))))
  ·refine e_skip ?_
   refine x_then (e_seq (e_block (e_seq (e_reg (mv rfl rfl (as_ rfl rfl (l_nil (x_then (e_seq (e_reg (as_ rfl rfl (l_nil (x_then (e_jn [(0, _), (1, _), (5, _), (6, _), (7, _), (21, _), (22, _)] [(0, _), (3, _), (91, _), (92, _), (1, _), (2, _)] (fun (_ : Unit) => [(8, .int .u64 ((dg U b).getD k 0 : Int))]) (fun (_ : Unit) => []) (fun (_ : Unit) => True) ⟨rfl, rfl, rfl, rfl, rfl, rfl, rfl, trivial⟩ ⟨rfl, rfl, rfl, rfl, rfl, rfl, trivial⟩ ?_ ?_))))))))))))))
   ·refine e_seq (e_reg (mv rfl rfl (mv rfl rfl (dt (d_len rfl rfl (i := 92) rfl rd_slp Try.underlying83) rfl ?_))))
    refine dt (d_lss rfl rfl rfl) rfl ?_
    refine l_nil (x_then (e_cond rfl (fun h80 => ?_) (fun h80 => ?_)))
    ·refine e_reg (mv rfl rfl (mv rfl rfl (dt (d_ixa (ii := 92) rfl rfl rfl rfl rd_slp Try.underlying83 Try.sizeOf81 rfl (by first | omega | (simp only [List.length_set]; omega))) rfl ?_)))
     refine dt (d_lde (ii := 92) 0 rfl rfl rfl rd_slp pU (by first | omega | (simp only [List.length_set]; omega))) rfl ?_
     refine as_ rfl rfl (l_nil ?_)
     try (have hz : (dg U b).getD k 0 = 0 := by simp [List.getD, List.getElem?_eq_none (by omega : (dg U b).length ≤ k)])
     exact x_jn () trivial ⟨by first | rfl | (rw [hz]; rfl), rfl, rfl, rfl, rfl, rfl, rfl, rfl, trivial⟩ ⟨rfl, rfl, rfl, rfl, rfl, rfl, trivial⟩
    ·refine e_skip ?_
     try (have hz : (dg U b).getD k 0 = 0 := by simp [List.getD, List.getElem?_eq_none (by omega : (dg U b).length ≤ k)])
     exact x_jn () trivial ⟨by first | rfl | (rw [hz]; rfl), rfl, rfl, rfl, rfl, rfl, rfl, rfl, trivial⟩ ⟨rfl, rfl, rfl, rfl, rfl, rfl, trivial⟩
   ·rintro _ -
    simp only [List.cons_append, List.nil_append]
    refine e_reg (mv rfl rfl (mv rfl rfl (mv rfl rfl (mv rfl rfl (dt (d_ixa (ii := 91) rfl rfl rfl rfl rd_slp Try.underlying83 Try.sizeOf81 rfl (by first | omega | (simp only [List.length_set]; omega))) rfl ?_)))))
    refine dt (d_lde (ii := 91) 0 rfl rfl rfl rd_slp pU (by first | omega | (simp only [List.length_set]; omega))) rfl ?_
    refine mv rfl rfl (mv rfl rfl (dt (d_add64 rfl rfl rfl rfl (by omega) add64_run) rfl ?_))
    refine mv rfl rfl (dt (d_ex rfl rfl rfl) rfl ?_)
    refine dt (d_ex rfl rfl rfl) rfl ?_
    refine dt (d_ixa (ii := 3) rfl rfl rfl rfl (rd_osl pU) Try.underlying83 Try.sizeOf81 rfl (by first | omega | (simp only [List.length_set]; omega))) rfl ?_
    refine tt (t_ste (i := 3) (enc := encU) _ rfl rfl rfl rfl rfl rfl (by decide) pU (by first | omega | (simp only [List.length_set]; omega)) rfl hw) rfl (fun _ _ => ?_)
    refine as_ rfl rfl (l_nil (x_bn ?_))
    refine x_then (e_reg (dt (d_add rfl rfl rfl ⟨by omega, by omega⟩) rfl ?_))
    refine mv rfl rfl (l_nil ?_)
    exact x_rnd (k + 1, _, _) ⟨by first | omega | (dsimp only <;> omega), by simp; omega, all_set hoa _ _ (Nat.mod_lt _ U_pos), by have h1 := getD_lt U_pos (dg_lt two_U a) k; have h2 := getD_lt U_pos (dg_lt two_U b) k; simp only [U] at *; omega, add_step hv (by omega)⟩ (by first | omega | (dsimp only <;> omega)) ⟨rfl, rfl, rfl, rfl, rfl, rfl, trivial⟩ ⟨rfl, rfl, rfl, rfl, rfl, rfl, trivial⟩
  ·refine e_exit ?_
   refine x_exit (x_exit (x_be ?_))
   refine x_then (e_seq ?_)
   obtain rfl : k = (dg U a).length := by omega
   refine e_reg (mv rfl rfl (mv rfl rfl (dt (d_len rfl rfl (i := 91) rfl rd_slp Try.underlying83) rfl ?_)))
   refine mv rfl rfl (dt (d_ixa (ii := 3) rfl rfl rfl rfl (rd_osl pU) Try.underlying83 Try.sizeOf81 rfl (by first | omega | (simp only [List.length_set]; omega))) rfl ?_)
   refine tt (t_ste (i := 3) (enc := encU) _ rfl rfl rfl rfl rfl rfl (by decide) pU (by first | omega | (simp only [List.length_set]; omega)) rfl hw) rfl (fun _ _ => ?_)
   refine l_nil (x_then (e_seq (e_reg (mv rfl rfl (tt (t_call (n := 3) (nat_trim_own _ _) rfl rfl rfl ⟨rfl, trivial⟩ Try.call55 (pre_lend 3 rfl rfl pU pre_nil) rfl hw) rfl (fun _ _ => ?_))))))
   refine l_imp (s_tz 3 rfl rfl pU) ?_
   refine as_ rfl rfl (l_nil (x_then (e_ret ?_)))
   have hx : tz (o.set (dg U a).length c) = dg U (x + y) := by
    rw [← dg_val two_U _ (all_set hoa _ _ (by simp only [U]; omega)), ← hs]
    congr 1
    conv => rhs; rw [← val_dg two_U a, ← val_dg two_U b]
    rw [List.take_of_length_le (Nat.le_refl (dg U a).length), val_take_all U (dg U b) _ hl] at hv
    rw [← hv, ← val_take_set U o _ c (by omega), val_take_all _ _ _ (by simp; omega)]
   exact x_end (.inl rfl) hsc _ _ (fun a w hs => res1 hs Try.results77 rfl) rfl trivial rfl (give_owne 3 rfl rfl pU hx give_nil)
theorem nat_sub (v w : Value) (x y : Nat) (hx : bl x ≤ 4294967296) (hxy : y ≤ x) : Cal Try.prog 78 #[v, w] [dgp v x, dgp w y] false (G := Value) (fun r => True) (fun r => r) (fun r => [dgp r (x - y)]) := by
 refine cal_in Try.func78 rfl Try.ntmps78 rfl ⟨rfl, rfl, trivial⟩ ?_
 intro w0 sc hw hsc
 simp only [enumEnv, enumPre]
 have hX := lenU_bl x
 have hY := lenU_bl y
 have hm := bl_mono hxy
 refine e_seq (e_reg (as_ rfl rfl (l_nil (x_then (e_seq (e_reg (mv rfl rfl (dt (d_len rfl rfl (i := 1) rfl rd_slp Try.underlying83) rfl ?_))))))))
 refine tt (t_mkn (i := 3) (n := (dg U x).length) (by_ := 8) (enc := encU) 0 rfl rfl rfl rfl rfl (by omega) Try.underlying83 Try.ti81 rfl pU.cells pU.pos rfl rfl (by omega) (by decide) rfl hw) rfl (fun v _ => ?_)
 refine as_ rfl rfl (l_nil (x_then (e_seq (e_reg (as_ rfl rfl (l_nil (x_then (e_seq (e_seq (e_reg (mv rfl rfl (dt (d_len rfl rfl (i := 1) rfl rd_slp Try.underlying83) rfl ?_))))))))))))
 refine mv rfl rfl (l_nil (x_then (e_block (e_lp [(0, _), (1, _), (5, _), (13, _)] [(0, _), (1, _), (2, _)] (fun (q : Nat × List Nat × Nat) => [(14, .int .i64 (q.1 : Int)), (6, .int .u64 (q.2.2 : Int))]) (fun (q : Nat × List Nat × Nat) => [(3, osl 1 81 encU v q.2.1)]) (fun (q : Nat × List Nat × Nat) => (q.1 ≤ (dg U x).length) ∧ (q.2.1.length = (dg U x).length) ∧ (∀ d ∈ q.2.1, d < U) ∧ (q.2.2 ≤ 1) ∧ (val U (q.2.1.take q.1) + val U ((dg U y).take q.1) = val U ((dg U x).take q.1) + q.2.2 * U ^ q.1)) (fun (q : Nat × List Nat × Nat) => (dg U x).length - q.1) (0, List.replicate ((dg U x).length) 0, 0) ⟨by first | omega | (dsimp only <;> omega), by simp, all_replicate _ U_pos, by first | omega | (dsimp only <;> omega), by simp [val]⟩ ⟨rfl, rfl, rfl, rfl, rfl, rfl, trivial⟩ ⟨rfl, rfl, rfl, rfl, trivial⟩ ?_))))
 rintro ⟨k, o, c⟩ ⟨hk, hol, hoa, hc, hv⟩
 dsimp only at hk hol hoa hc hv
 simp only [List.cons_append, List.nil_append]
 refine e_seq (e_reg (dt (d_lss rfl rfl rfl) rfl ?_))
 refine l_nil (x_then (e_seq (e_cond rfl (fun h93 => ?_) (fun h93 => ?_))))
 ·refine e_skip ?_
  refine x_then (e_seq (e_block (e_seq (e_reg (mv rfl rfl (as_ rfl rfl (l_nil (x_then (e_seq (e_reg (as_ rfl rfl (l_nil (x_then (e_jn [(0, _), (1, _), (5, _), (6, _), (7, _), (13, _), (14, _)] [(0, _), (3, _), (1, _), (2, _)] (fun (_ : Unit) => [(8, .int .u64 ((dg U y).getD k 0 : Int))]) (fun (_ : Unit) => []) (fun (_ : Unit) => True) ⟨rfl, rfl, rfl, rfl, rfl, rfl, rfl, trivial⟩ ⟨rfl, rfl, rfl, rfl, trivial⟩ ?_ ?_))))))))))))))
  ·refine e_seq (e_reg (mv rfl rfl (mv rfl rfl (dt (d_len rfl rfl (i := 2) rfl rd_slp Try.underlying83) rfl ?_))))
   refine dt (d_lss rfl rfl rfl) rfl ?_
   refine l_nil (x_then (e_cond rfl (fun h95 => ?_) (fun h95 => ?_)))
   ·refine e_reg (mv rfl rfl (mv rfl rfl (dt (d_ixa (ii := 2) rfl rfl rfl rfl rd_slp Try.underlying83 Try.sizeOf81 rfl (by first | omega | (simp only [List.length_set]; omega))) rfl ?_)))
    refine dt (d_lde (ii := 2) 0 rfl rfl rfl rd_slp pU (by first | omega | (simp only [List.length_set]; omega))) rfl ?_
    refine as_ rfl rfl (l_nil ?_)
    try (have hz : (dg U y).getD k 0 = 0 := by simp [List.getD, List.getElem?_eq_none (by omega : (dg U y).length ≤ k)])
    exact x_jn () trivial ⟨by first | rfl | (rw [hz]; rfl), rfl, rfl, rfl, rfl, rfl, rfl, rfl, trivial⟩ ⟨rfl, rfl, rfl, rfl, trivial⟩
   ·refine e_skip ?_
    try (have hz : (dg U y).getD k 0 = 0 := by simp [List.getD, List.getElem?_eq_none (by omega : (dg U y).length ≤ k)])
    exact x_jn () trivial ⟨by first | rfl | (rw [hz]; rfl), rfl, rfl, rfl, rfl, rfl, rfl, rfl, trivial⟩ ⟨rfl, rfl, rfl, rfl, trivial⟩
  ·rintro _ -
   simp only [List.cons_append, List.nil_append]
   refine e_reg (mv rfl rfl (mv rfl rfl (mv rfl rfl (mv rfl rfl (dt (d_ixa (ii := 1) rfl rfl rfl rfl rd_slp Try.underlying83 Try.sizeOf81 rfl (by first | omega | (simp only [List.length_set]; omega))) rfl ?_)))))
   refine dt (d_lde (ii := 1) 0 rfl rfl rfl rd_slp pU (by first | omega | (simp only [List.length_set]; omega))) rfl ?_
   refine mv rfl rfl (mv rfl rfl (dt (d_sub64 rfl rfl rfl rfl (by omega) sub64_run) rfl ?_))
   refine mv rfl rfl (dt (d_ex rfl rfl rfl) rfl ?_)
   refine dt (d_ex rfl rfl rfl) rfl ?_
   refine dt (d_ixa (ii := 3) rfl rfl rfl rfl (rd_osl pU) Try.underlying83 Try.sizeOf81 rfl (by first | omega | (simp only [List.length_set]; omega))) rfl ?_
   refine tt (t_ste (i := 3) (enc := encU) _ rfl rfl rfl rfl rfl rfl (by decide) pU (by first | omega | (simp only [List.length_set]; omega)) rfl hw) rfl (fun _ _ => ?_)
   refine as_ rfl rfl (l_nil (x_bn ?_))
   refine x_then (e_reg (dt (d_add rfl rfl rfl ⟨by omega, by omega⟩) rfl ?_))
   refine mv rfl rfl (l_nil ?_)
   exact x_rnd (k + 1, _, _) ⟨by first | omega | (dsimp only <;> omega), by simp; omega, all_set hoa _ _ (Nat.mod_lt _ U_pos), brw_le _ _ _, sub_step hc (getD_lt U_pos (dg_lt two_U x) k) (getD_lt U_pos (dg_lt two_U y) k) hv (by omega)⟩ (by first | omega | (dsimp only <;> omega)) ⟨rfl, rfl, rfl, rfl, rfl, rfl, trivial⟩ ⟨rfl, rfl, rfl, rfl, trivial⟩
 ·refine e_exit ?_
  refine x_exit (x_exit (x_be ?_))
  refine x_then (e_seq (e_reg (mv rfl rfl (tt (t_call (n := 3) (nat_trim_own _ _) rfl rfl rfl ⟨rfl, trivial⟩ Try.call55 (pre_lend 3 rfl rfl pU pre_nil) rfl hw) rfl (fun _ _ => ?_)))))
  refine l_imp (s_tz 3 rfl rfl pU) ?_
  refine as_ rfl rfl (l_nil (x_then (e_ret ?_)))
  obtain rfl : k = (dg U x).length := by omega
  have hx : tz o = dg U (x - y) := by
   rw [← dg_val two_U _ hoa]
   congr 1
   have hly : (dg U y).length ≤ (dg U x).length := by omega
   rw [val_take_all U o _ (by omega), val_take_all U (dg U y) _ hly, val_take_all U (dg U x) _ (Nat.le_refl _), val_dg two_U, val_dg two_U] at hv
   have h1 := val_lt U_pos o hoa
   rw [hol] at h1
   have h0 : c = 0 ∨ c = 1 := by omega
   rcases h0 with rfl | rfl <;> omega
  exact x_end (.inl rfl) hsc _ _ (fun a w hs => res1 hs Try.results78 rfl) rfl trivial rfl (give_owne 3 rfl rfl pU hx give_nil)
theorem nat_compare (v w : Value) (x y : Nat) (hx : bl x ≤ 4294967296) (hy : bl y ≤ 4294967296) : Cal Try.prog 80 #[v, w] [dgp v x, dgp w y] false (G := Int) (fun r => (r < 0 ↔ x < y) ∧ (0 < r ↔ y < x)) (fun r => .int .i64 r) (fun r => []) := by
 refine cal_in Try.func80 rfl Try.ntmps80 rfl ⟨rfl, rfl, trivial⟩ ?_
 intro w0 sc hw hsc
 simp only [enumEnv, enumPre]
 have hX := lenU_bl x
 have hY := lenU_bl y
 refine e_seq (e_reg (as_ rfl rfl (l_nil (x_then (e_seq (e_seq (e_reg (mv rfl rfl (dt (d_len rfl rfl (i := 1) rfl rd_slp Try.underlying83) rfl ?_)))))))))
 refine mv rfl rfl (dt (d_len rfl rfl (i := 2) rfl rd_slp Try.underlying83) rfl ?_)
 refine dt (d_neq rfl rfl rfl) rfl ?_
 refine l_nil (x_then (e_cond rfl (fun h57 => ?_) (fun h57 => ?_)))
 ·refine e_seq (e_reg (mv rfl rfl (dt (d_len rfl rfl (i := 1) rfl rd_slp Try.underlying83) rfl ?_)))
  refine mv rfl rfl (dt (d_len rfl rfl (i := 2) rfl rd_slp Try.underlying83) rfl ?_)
  refine dt (d_sub rfl rfl rfl ⟨by omega, by omega⟩) rfl ?_
  refine as_ rfl rfl (l_nil (x_then (e_ret (x_ret ?_))))
  exact x_end (.inl rfl) hsc _ _ (fun a w hs => res1 hs Try.results80 rfl) rfl ⟨⟨fun h => dg_len_lt two_U (by omega), fun h => by have := bl_mono (Nat.le_of_lt h); omega⟩, ⟨fun h => dg_len_lt two_U (by omega), fun h => by have := bl_mono (Nat.le_of_lt h); omega⟩⟩ rfl give_nil
 ·have hlen : (dg U x).length = (dg U y).length := by omega
  refine e_skip ?_
  refine x_then (e_seq (e_seq (e_reg (mv rfl rfl (dt (d_len rfl rfl (i := 1) rfl rd_slp Try.underlying83) rfl ?_)))))
  refine dt (d_sub rfl rfl rfl ⟨by omega, by omega⟩) rfl ?_
  refine as_ rfl rfl (l_nil (x_then (e_block (e_lp [(0, _), (1, _)] [(0, _), (1, _), (2, _)] (fun (k : Nat) => [(5, .int .i64 ((k : Int) - 1))]) (fun (k : Nat) => []) (fun (k : Nat) => (k ≤ (dg U x).length) ∧ ((dg U x).drop k = (dg U y).drop k)) (fun (k : Nat) => k) (dg U x).length ⟨by first | omega | (dsimp only <;> omega), by rw [List.drop_length, hlen, List.drop_length]⟩ ⟨rfl, rfl, rfl, trivial⟩ ⟨rfl, rfl, rfl, trivial⟩ ?_))))
  rintro k ⟨hk, hd⟩
  simp only [List.cons_append, List.nil_append]
  refine e_seq (e_seq (e_reg (mv rfl rfl (dt (d_geq rfl rfl rfl) rfl ?_))))
  refine l_nil (x_then (e_cond rfl (fun h60 => ?_) (fun h60 => ?_)))
  ·refine e_skip ?_
   refine x_then (e_seq (e_block (e_block (e_seq (e_dreg (fun _ => False) [(0, 0), (1, 0), (2, 0), (3, 0), (4, 0), (5, 0), (6, 0), (7, 0), (8, 0), (9, 0)] (by kernel_rfl) ?_ ?_)))))
   ·kernel_rfl
   refine r0' rfl rfl rfl rfl (st0 (d_mv rfl rfl)) ?_
   refine r0' rfl rfl rfl rfl (st0 (d_mv rfl rfl)) ?_
   refine r0' rfl rfl rfl rfl (st0 (d_ixa (ii := 1) (i := k - 1) rfl rfl rfl rfl rd_slp Try.underlying83 Try.sizeOf81 (by omega) (by omega))) ?_
   refine r0' rfl rfl rfl rfl (st0 (d_lde (ii := 1) 0 rfl rfl rfl rd_slp pU (by first | omega | (simp only [List.length_set]; omega)))) ?_
   refine r0' rfl rfl rfl rfl (st0 (d_mv rfl rfl)) ?_
   refine r0' rfl rfl rfl rfl (st0 (d_mv rfl rfl)) ?_
   refine r0' rfl rfl rfl rfl (st0 (d_ixa (ii := 2) (i := k - 1) rfl rfl rfl rfl rd_slp Try.underlying83 Try.sizeOf81 (by omega) (by omega))) ?_
   refine r0' rfl rfl rfl rfl (st0 (d_lde (ii := 2) 0 rfl rfl rfl rd_slp pU (by first | omega | (simp only [List.length_set]; omega)))) ?_
   refine r0' rfl rfl rfl rfl (st0 (d_lss rfl rfl rfl)) ?_
   refine r0' rfl rfl rfl rfl (st0 (d_as rfl rfl)) ?_
   refine r_end ?_
   refine x_then (e_cond rfl (fun h62 => ?_) (fun h62 => ?_))
   ·refine e_seq (e_reg (as_ rfl rfl (l_nil (x_then (e_ret (x_br ?_))))))
    refine x_br ?_
    refine x_ret ?_
    refine x_ret ?_
    refine x_br ?_
    refine x_ret ?_
    have hlt := cmp_lt U_pos (xs := dg U x) (ys := dg U y) (dg_lt two_U x) (k := k - 1) (by omega) (by omega) (by rw [show k - 1 + 1 = k by omega]; exact hd) (by omega)
    rw [val_dg two_U, val_dg two_U] at hlt
    exact x_end (.inl rfl) hsc (-1) _ (fun a w hs => res1 hs Try.results80 rfl) rfl (by omega) rfl give_nil
   ·refine e_seq (e_dreg (fun _ => False) [(0, 0), (1, 0), (2, 0), (3, 0), (4, 0), (5, 0), (6, 0), (7, 0), (8, 0), (9, 0)] (by kernel_rfl) ?_ ?_)
    ·kernel_rfl
    refine r0' rfl rfl rfl rfl (st0 (d_mv rfl rfl)) ?_
    refine r0' rfl rfl rfl rfl (st0 (d_mv rfl rfl)) ?_
    refine r0' rfl rfl rfl rfl (st0 (d_ixa (ii := 1) (i := k - 1) rfl rfl rfl rfl rd_slp Try.underlying83 Try.sizeOf81 (by omega) (by omega))) ?_
    refine r0' rfl rfl rfl rfl (st0 (d_lde (ii := 1) 0 rfl rfl rfl rd_slp pU (by first | omega | (simp only [List.length_set]; omega)))) ?_
    refine r0' rfl rfl rfl rfl (st0 (d_mv rfl rfl)) ?_
    refine r0' rfl rfl rfl rfl (st0 (d_mv rfl rfl)) ?_
    refine r0' rfl rfl rfl rfl (st0 (d_ixa (ii := 2) (i := k - 1) rfl rfl rfl rfl rd_slp Try.underlying83 Try.sizeOf81 (by omega) (by omega))) ?_
    refine r0' rfl rfl rfl rfl (st0 (d_lde (ii := 2) 0 rfl rfl rfl rd_slp pU (by first | omega | (simp only [List.length_set]; omega)))) ?_
    refine r0' rfl rfl rfl rfl (st0 (d_gtr rfl rfl rfl)) ?_
    refine r0' rfl rfl rfl rfl (st0 (d_as rfl rfl)) ?_
    refine r_end ?_
    refine x_then (e_cond rfl (fun h64 => ?_) (fun h64 => ?_))
    ·refine e_seq (e_reg (as_ rfl rfl (l_nil (x_then (e_ret (x_br ?_))))))
     refine x_br ?_
     refine x_ret ?_
     refine x_ret ?_
     refine x_br ?_
     refine x_ret ?_
     have hlt := cmp_lt U_pos (xs := dg U y) (ys := dg U x) (dg_lt two_U y) (k := k - 1) (by omega) (by omega) (by rw [show k - 1 + 1 = k by omega]; exact hd.symm) (by omega)
     rw [val_dg two_U, val_dg two_U] at hlt
     exact x_end (.inl rfl) hsc 1 _ (fun a w hs => res1 hs Try.results80 rfl) rfl (by omega) rfl give_nil
    ·refine e_skip ?_
     refine x_bn ?_
     refine x_bn ?_
     refine x_then (e_reg (mv rfl rfl (dt (d_sub rfl rfl rfl ⟨by omega, by omega⟩) rfl ?_)))
     refine as_ rfl rfl (l_nil ?_)
     exact x_rnd (k - 1) ⟨by first | omega | (dsimp only <;> omega), by have := drop_eq_step (xs := dg U x) (ys := dg U y) (k := k - 1) (by omega) (by omega) (by rw [show k - 1 + 1 = k by omega]; exact hd) (by omega); exact this⟩ (by first | omega | (dsimp only <;> omega)) ⟨by rw [show (((k - 1 : Nat) : Int) - 1) = (k : Int) - 1 - 1 by omega]; rfl, rfl, rfl, trivial⟩ ⟨rfl, rfl, rfl, trivial⟩
  ·refine e_exit ?_
   refine x_exit (x_exit (x_be ?_))
   refine x_then (e_seq (e_reg (as_ rfl rfl (l_nil (x_then (e_ret ?_))))))
   obtain rfl : k = 0 := by omega
   have heq : x = y := (dg_eq_iff two_U).1 (by simpa using hd)
   exact x_end (.inl rfl) hsc 0 _ (fun a w hs => res1 hs Try.results80 rfl) rfl (by omega) rfl give_nil
theorem bits_mul (x y : Nat) (hx : x < U) (hy : y < U) : Cal Try.prog 92 #[.int .u64 (x : Int), .int .u64 (y : Int)] [] false (G := Unit) (fun _ => True) (fun _ => .tuple #[.int .u64 ((x * y / U : Nat) : Int), .int .u64 ((x * y % U : Nat) : Int)]) (fun _ => []) := by
 refine cal_in Try.func92 rfl Try.ntmps92 rfl trivial ?_
 intro w0 sc hw hsc
 simp only [enumEnv, enumPre]
 simp only [U] at hx hy
 refine e_seq (e_reg (as_ rfl rfl (as_ rfl rfl (l_nil (x_then (e_seq (e_reg (mv rfl rfl (dt (u_and rfl rfl rfl hx (by decide)) rfl ?_)))))))))
 refine as_ rfl rfl (l_nil (x_then (e_seq (e_reg (mv rfl rfl (dt (u_shrc (n := 32) (n' := 4294967296) rfl rfl rfl rfl rfl) rfl ?_))))))
 refine as_ rfl rfl (l_nil (x_then (e_seq (e_reg (mv rfl rfl (dt (u_and rfl rfl rfl hy (by decide)) rfl ?_))))))
 refine as_ rfl rfl (l_nil (x_then (e_seq (e_reg (mv rfl rfl (dt (u_shrc (n := 32) (n' := 4294967296) rfl rfl rfl rfl rfl) rfl ?_))))))
 refine as_ rfl rfl (l_nil (x_then (e_seq (e_reg (mv rfl rfl (mv rfl rfl (dt (u_mul rfl rfl rfl) rfl ?_)))))))
 refine as_ rfl rfl (l_nil (x_then (e_seq (e_reg (mv rfl rfl (mv rfl rfl (dt (u_mul rfl rfl rfl) rfl ?_)))))))
 refine mv rfl rfl (dt (u_shrc (n := 32) (n' := 4294967296) rfl rfl rfl rfl rfl) rfl ?_)
 refine dt (u_add rfl rfl rfl) rfl ?_
 refine as_ rfl rfl (l_nil (x_then (e_seq (e_reg (mv rfl rfl (dt (u_and rfl rfl rfl (Nat.mod_lt _ U_pos) (by decide)) rfl ?_))))))
 refine as_ rfl rfl (l_nil (x_then (e_seq (e_reg (mv rfl rfl (dt (u_shrc (n := 32) (n' := 4294967296) rfl rfl rfl rfl rfl) rfl ?_))))))
 refine as_ rfl rfl (l_nil (x_then (e_seq (e_reg (mv rfl rfl (mv rfl rfl (mv rfl rfl (dt (u_mul rfl rfl rfl) rfl ?_))))))))
 refine dt (u_add rfl rfl rfl) rfl ?_
 refine as_ rfl rfl (l_nil (x_then (e_seq (e_reg (mv rfl rfl (mv rfl rfl (dt (u_mul rfl rfl rfl) rfl ?_)))))))
 refine mv rfl rfl (dt (u_add rfl rfl rfl) rfl ?_)
 refine mv rfl rfl (dt (u_shrc (n := 32) (n' := 4294967296) rfl rfl rfl rfl rfl) rfl ?_)
 refine dt (u_add rfl rfl rfl) rfl ?_
 refine as_ rfl rfl (l_nil (x_then (e_seq (e_reg (mv rfl rfl (mv rfl rfl (dt (u_mul rfl rfl rfl) rfl ?_)))))))
 refine as_ rfl rfl (l_nil (x_then (e_ret ?_)))
 exact x_end (.inl rfl) hsc () _ (fun a w hs => res2 hs Try.results92 rfl rfl) (by rw [mul64_eq hx hy _ _ rfl rfl]) trivial rfl give_nil
theorem nat_mul (v w : Value) (x y : Nat) (hx : bl x ≤ 4294967296) (hy : bl y ≤ 4294967296) : Cal Try.prog 81 #[v, w] [dgp v x, dgp w y] false (G := Value) (fun r => True) (fun r => r) (fun r => [dgp r (x * y)]) := by
 refine cal_in Try.func81 rfl Try.ntmps81 rfl ⟨rfl, rfl, trivial⟩ ?_
 intro w0 sc hw hsc
 simp only [enumEnv, enumPre]
 have hX := lenU_bl x
 have hY := lenU_bl y
 refine e_seq (e_reg (as_ rfl rfl (l_nil (x_then (e_seq (e_reg (mv rfl rfl (dt (d_len rfl rfl (i := 1) rfl rd_slp Try.underlying83) rfl ?_))))))))
 refine mv rfl rfl (dt (d_len rfl rfl (i := 2) rfl rd_slp Try.underlying83) rfl ?_)
 refine dt (d_add rfl rfl rfl ⟨by omega, by omega⟩) rfl ?_
 refine tt (t_mkn (i := 3) (n := (dg U x).length + (dg U y).length) (by_ := 8) (enc := encU) 0 rfl rfl rfl rfl rfl (by omega) Try.underlying83 Try.ti81 rfl pU.cells pU.pos rfl rfl (by omega) (by decide) rfl hw) rfl (fun v _ => ?_)
 refine as_ rfl rfl (l_nil (x_then (e_seq (e_seq (e_reg (mv rfl rfl (dt (d_len rfl rfl (i := 1) rfl rd_slp Try.underlying83) rfl ?_)))))))
 refine mv rfl rfl (l_nil (x_then (e_block (e_lp [(1, _), (5, _), (20, _), (21, _)] [(0, _), (1, _), (2, _)] (fun (q : Nat × List Nat) => [(22, .int .i64 (q.1 : Int))]) (fun (q : Nat × List Nat) => [(3, osl 1 81 encU v q.2)]) (fun (q : Nat × List Nat) => (q.1 ≤ (dg U x).length) ∧ (q.2.length = (dg U x).length + (dg U y).length) ∧ (∀ d ∈ q.2, d < U) ∧ (∀ j, q.1 + (dg U y).length ≤ j → q.2.getD j 0 = 0) ∧ (val U (q.2.take (q.1 + (dg U y).length)) = val U ((dg U x).take q.1) * y)) (fun (q : Nat × List Nat) => (dg U x).length - q.1) (0, List.replicate ((dg U x).length + (dg U y).length) 0) ⟨by first | omega | (dsimp only <;> omega), by simp, all_replicate _ U_pos, fun j _ => getD_replicate _ j, by simp [val, List.take_replicate, val_replicate]⟩ ⟨rfl, rfl, rfl, rfl, rfl, trivial⟩ ⟨rfl, rfl, rfl, rfl, trivial⟩ ?_))))
 rintro ⟨i, o⟩ ⟨hi, hol, hoa, hz, hv⟩
 dsimp only at hi hol hoa hz hv
 simp only [List.cons_append, List.nil_append]
 refine e_seq (e_reg (dt (d_lss rfl rfl rfl) rfl ?_))
 refine l_nil (x_then (e_seq (e_cond rfl (fun h106 => ?_) (fun h106 => ?_))))
 ·refine e_skip ?_
  refine x_then (e_seq (e_block (e_seq (e_reg (mv rfl rfl (dt (d_ixa (ii := 1) rfl rfl rfl rfl rd_slp Try.underlying83 Try.sizeOf81 rfl (by first | omega | (simp only [List.length_set]; omega))) rfl ?_))))))
  refine dt (d_lde (ii := 1) 0 rfl rfl rfl rd_slp pU (by first | omega | (simp only [List.length_set]; omega))) rfl ?_
  refine as_ rfl rfl (as_ rfl rfl (l_nil (x_then (e_seq (e_reg (as_ rfl rfl (l_nil (x_then (e_seq (e_seq (e_reg (mv rfl rfl (dt (d_len rfl rfl (i := 2) rfl rd_slp Try.underlying83) rfl ?_)))))))))))))
  refine mv rfl rfl (l_nil (x_then (e_block (e_lp [(1, _), (5, _), (6, _), (7, _), (20, _), (21, _), (22, _), (27, _), (28, _)] [(0, _), (1, _), (2, _)] (fun (q : Nat × List Nat × Nat) => [(29, .int .i64 (q.1 : Int)), (8, .int .u64 (q.2.2 : Int))]) (fun (q : Nat × List Nat × Nat) => [(3, osl 1 81 encU v q.2.1)]) (fun (q : Nat × List Nat × Nat) => (q.1 ≤ (dg U y).length) ∧ (q.2.1.length = (dg U x).length + (dg U y).length) ∧ (∀ d ∈ q.2.1, d < U) ∧ (∀ j, i + (dg U y).length ≤ j → q.2.1.getD j 0 = 0) ∧ (q.2.2 < U) ∧ (val U (q.2.1.take (i + (dg U y).length)) + q.2.2 * U ^ (i + q.1) = val U ((dg U x).take i) * y + (dg U x).getD i 0 * U ^ i * val U ((dg U y).take q.1))) (fun (q : Nat × List Nat × Nat) => (dg U y).length - q.1) (0, o, 0) ⟨by first | omega | (dsimp only <;> omega), hol, hoa, hz, U_pos, by rw [hv]; simp [val]⟩ ⟨rfl, rfl, rfl, rfl, rfl, rfl, rfl, rfl, rfl, rfl, rfl, trivial⟩ ⟨rfl, rfl, rfl, rfl, trivial⟩ ?_))))
  rintro ⟨k, p, c⟩ ⟨hk, hpl, hpa, hpz, hcU, hpv⟩
  dsimp only at hk hpl hpa hpz hcU hpv
  simp only [List.cons_append, List.nil_append]
  have hdig := mul_digit (getD_lt U_pos (dg_lt two_U x) i) (getD_lt U_pos (dg_lt two_U y) k) (getD_lt U_pos hpa (i + k)) hcU
  refine e_seq (e_reg (dt (d_lss rfl rfl rfl) rfl ?_))
  refine l_nil (x_then (e_seq (e_cond rfl (fun h108 => ?_) (fun h108 => ?_))))
  ·refine e_skip ?_
   refine x_then (e_seq (e_block (e_seq (e_reg (mv rfl rfl (dt (d_ixa (ii := 2) rfl rfl rfl rfl rd_slp Try.underlying83 Try.sizeOf81 rfl (by first | omega | (simp only [List.length_set]; omega))) rfl ?_))))))
   refine dt (d_lde (ii := 2) 0 rfl rfl rfl rd_slp pU (by first | omega | (simp only [List.length_set]; omega))) rfl ?_
   refine as_ rfl rfl (as_ rfl rfl (l_nil (x_then (e_seq (e_reg (mv rfl rfl (mv rfl rfl (tt (t_call (n := 3) (bits_mul _ _ (getD_lt U_pos (dg_lt two_U _) _) (getD_lt U_pos (dg_lt two_U _) _)) rfl rfl rfl ⟨rfl, rfl, trivial⟩ Try.call92 pre_nil rfl hw) rfl (fun _ _ => ?_)))))))))
   refine mv rfl rfl (dt (d_ex rfl rfl rfl) rfl ?_)
   refine dt (d_ex rfl rfl rfl) rfl ?_
   refine as_ rfl rfl (as_ rfl rfl (l_nil (x_then (e_seq (e_reg (mv rfl rfl (mv rfl rfl (mv rfl rfl (mv rfl rfl (dt (d_add rfl rfl rfl ⟨by omega, by omega⟩) rfl ?_))))))))))
   refine dt (d_ixa (ii := 3) (i := i + k) rfl rfl rfl rfl (rd_osl pU) Try.underlying83 Try.sizeOf81 (by omega) (by omega)) rfl ?_
   refine dt (d_lde (ii := 3) 0 rfl rfl rfl (rd_osl pU) pU (by first | omega | (simp only [List.length_set]; omega))) rfl ?_
   refine dt (d_add64 (c := 0) rfl rfl rfl rfl (by omega) add64_run) rfl ?_
   refine mv rfl rfl (dt (d_ex rfl rfl rfl) rfl ?_)
   refine dt (d_ex rfl rfl rfl) rfl ?_
   refine as_ rfl rfl (as_ rfl rfl (l_nil (x_then (e_seq (e_reg (mv rfl rfl (mv rfl rfl (dt (u_add rfl rfl rfl) rfl ?_))))))))
   refine as_ rfl rfl (l_nil (x_then (e_seq (e_reg (mv rfl rfl (mv rfl rfl (dt (d_add64 (c := 0) rfl rfl rfl rfl (by omega) add64_run) rfl ?_)))))))
   refine mv rfl rfl (dt (d_ex rfl rfl rfl) rfl ?_)
   refine dt (d_ex rfl rfl rfl) rfl ?_
   refine as_ rfl rfl (as_ rfl rfl (l_nil (x_then (e_reg (mv rfl rfl (mv rfl rfl (mv rfl rfl (dt (d_add rfl rfl rfl ⟨by omega, by omega⟩) rfl ?_))))))))
   refine mv rfl rfl (mv rfl rfl (mv rfl rfl (dt (u_add rfl rfl rfl) rfl ?_)))
   refine dt (d_ixa (ii := 3) (i := i + k) rfl rfl rfl rfl (rd_osl pU) Try.underlying83 Try.sizeOf81 (by omega) (by omega)) rfl ?_
   refine tt (t_ste (i := 3) (enc := encU) _ rfl rfl rfl rfl rfl rfl (by decide) pU (by first | omega | (simp only [List.length_set]; omega)) rfl hw) rfl (fun _ _ => ?_)
   refine as_ rfl rfl (l_nil (x_bn ?_))
   refine x_then (e_reg (dt (d_add rfl rfl rfl ⟨by omega, by omega⟩) rfl ?_))
   refine mv rfl rfl (l_nil ?_)
   exact x_rnd (k + 1, _, _) ⟨by first | omega | (dsimp only <;> omega), by simp; omega, all_set hpa _ _ (Nat.mod_lt _ U_pos), fun j hj => by rw [getD_set _ _ _ _ _ (by omega), if_neg (by omega)]; exact hpz j hj, hdig.2, mul_step hpv (by omega) (by omega) hdig.1⟩ (by first | omega | (dsimp only <;> omega)) ⟨rfl, rfl, rfl, rfl, rfl, rfl, rfl, rfl, rfl, rfl, rfl, trivial⟩ ⟨rfl, rfl, rfl, rfl, trivial⟩
  ·refine e_exit ?_
   refine x_exit (x_exit (x_be ?_))
   refine x_then ?_
   obtain rfl : k = (dg U y).length := by omega
   have hfin := hpv
   rw [List.take_of_length_le (Nat.le_refl (dg U y).length), val_dg two_U] at hfin
   refine e_reg (mv rfl rfl (mv rfl rfl (mv rfl rfl (dt (d_len rfl rfl (i := 2) rfl rd_slp Try.underlying83) rfl ?_))))
   refine dt (d_add rfl rfl rfl ⟨by omega, by omega⟩) rfl ?_
   refine mv rfl rfl (dt (d_ixa (ii := 3) (i := i + (dg U y).length) rfl rfl rfl rfl (rd_osl pU) Try.underlying83 Try.sizeOf81 (by omega) (by omega)) rfl ?_)
   refine tt (t_ste (i := 3) (enc := encU) _ rfl rfl rfl rfl rfl rfl (by decide) pU (by first | omega | (simp only [List.length_set]; omega)) rfl hw) rfl (fun _ _ => ?_)
   refine l_nil (x_bn ?_)
   refine x_then (e_reg (dt (d_add rfl rfl rfl ⟨by omega, by omega⟩) rfl ?_))
   refine mv rfl rfl (l_nil ?_)
   exact x_rnd (i + 1, _) ⟨by first | omega | (dsimp only <;> omega), by simp; omega, all_set hpa _ _ hcU, fun j hj => by rw [getD_set _ _ _ _ _ (by omega), if_neg (by omega)]; exact hpz j (by omega), by dsimp only; rw [show i + 1 + (dg U y).length = i + (dg U y).length + 1 by omega, val_take_set _ _ _ _ (by omega), val_take_succ, Nat.add_mul, ← hfin]⟩ (by first | omega | (dsimp only <;> omega)) ⟨rfl, rfl, rfl, rfl, rfl, trivial⟩ ⟨rfl, rfl, rfl, rfl, trivial⟩
 ·refine e_exit ?_
  refine x_exit (x_exit (x_be ?_))
  refine x_then (e_seq (e_reg (mv rfl rfl (tt (t_call (n := 3) (nat_trim_own _ _) rfl rfl rfl ⟨rfl, trivial⟩ Try.call55 (pre_lend 3 rfl rfl pU pre_nil) rfl hw) rfl (fun _ _ => ?_)))))
  refine l_imp (s_tz 3 rfl rfl pU) ?_
  refine as_ rfl rfl (l_nil (x_then (e_ret ?_)))
  obtain rfl : i = (dg U x).length := by omega
  have hx : tz o = dg U (x * y) := by
   rw [← dg_val two_U _ hoa]
   congr 1
   rw [val_take_all U o _ (by omega), List.take_of_length_le (Nat.le_refl _), val_dg two_U] at hv
   exact hv
  exact x_end (.inl rfl) hsc _ _ (fun a w hs => res1 hs Try.results81 rfl) rfl trivial rfl (give_owne 3 rfl rfl pU hx give_nil)
set_option maxHeartbeats 1000000 in
theorem bits_len (x : Nat) (hx : x < U) : Cal Try.prog 91 #[.int .u64 (x : Int)] [] false (G := Unit) (fun _ => True) (fun _ => .int .i64 (bl x : Int)) (fun _ => []) := by
 refine cal_in Try.func91 rfl Try.ntmps91 rfl trivial ?_
 intro w0 sc hw hsc
 simp only [enumEnv, enumPre]
 simp only [U] at hx
 have e32 := bl_div_pow x 32
 have e16 := bl_div_pow x 16
 have e8 := bl_div_pow x 8
 have e24 := bl_div_pow x 24
 have e40 := bl_div_pow x 40
 have e48 := bl_div_pow x 48
 have e56 := bl_div_pow x 56
 have f32 := bl_lt 32 x
 have f16 := bl_lt 16 x
 have f8 := bl_lt 8 x
 have f24 := bl_lt 24 x
 have f40 := bl_lt 40 x
 have f48 := bl_lt 48 x
 have f56 := bl_lt 56 x
 have d1 := Nat.div_div_eq_div_mul x (2 ^ 32) (2 ^ 16)
 have d2 := Nat.div_div_eq_div_mul x (2 ^ 32) (2 ^ 8)
 have d3 := Nat.div_div_eq_div_mul x (2 ^ 16) (2 ^ 8)
 have d4 := Nat.div_div_eq_div_mul (x / 2 ^ 32) (2 ^ 16) (2 ^ 8)
 have d5 := Nat.div_div_eq_div_mul x (2 ^ 32) (2 ^ 16 * 2 ^ 8)
 simp only [Nat.reducePow, Nat.reduceMul] at *
 refine e_seq (e_reg (as_ rfl rfl (l_nil (x_then (e_seq (e_seq (e_reg (mv rfl rfl (dt (d_geq rfl rfl rfl) rfl ?_)))))))))
 refine l_nil (x_then (e_cond rfl (fun h338 => ?_) (fun h338 => ?_)))
 ·refine e_seq (e_reg (mv rfl rfl (dt (u_shrc (n := 32) (n' := 4294967296) rfl rfl rfl rfl rfl) rfl ?_)))
  refine as_ rfl rfl (l_nil (x_then (e_reg (as_ rfl rfl (l_nil (x_then (e_seq (e_seq (e_reg (mv rfl rfl (dt (d_geq rfl rfl rfl) rfl ?_)))))))))))
  refine l_nil (x_then (e_cond rfl (fun h342 => ?_) (fun h342 => ?_)))
  ·refine e_seq (e_reg (mv rfl rfl (dt (u_shrc (n := 16) (n' := 65536) rfl rfl rfl rfl rfl) rfl ?_)))
   refine as_ rfl rfl (l_nil (x_then (e_reg (mv rfl rfl (dt (d_add rfl rfl rfl ⟨by omega, by omega⟩) rfl ?_)))))
   refine as_ rfl rfl (l_nil (x_then (e_seq (e_seq (e_reg (mv rfl rfl (dt (d_geq rfl rfl rfl) rfl ?_)))))))
   refine l_nil (x_then (e_cond rfl (fun h346 => ?_) (fun h346 => ?_)))
   ·refine e_seq (e_reg (mv rfl rfl (dt (u_shrc (n := 8) (n' := 256) rfl rfl rfl rfl rfl) rfl ?_)))
    refine as_ rfl rfl (l_nil (x_then (e_reg (mv rfl rfl (dt (d_add rfl rfl rfl ⟨by omega, by omega⟩) rfl ?_)))))
    refine as_ rfl rfl (l_nil (x_then (e_seq (e_reg (mv rfl rfl (mv rfl rfl (dt (cv_u8 rfl rfl Try.underlying81 Try.underlying5) rfl ?_)))))))
    refine dt (d_ix8 rfl rfl rfl Try.underlying9 rfl (by omega) (by decide) (by decide +kernel)) rfl ?_
    refine dt (cv_i64 rfl rfl Try.underlying5 Try.underlying3 (inI_bl8 _)) rfl ?_
    refine dt (d_add rfl rfl rfl (inI_add8 _ (by omega) (by omega))) rfl ?_
    refine as_ rfl rfl (l_nil (x_then (e_ret ?_)))
    exact x_end (.inl rfl) hsc () _ (fun a w hs => res1 hs Try.results91 rfl) (len_fin (n := x) (by omega) (by first | omega | (simp only [Nat.div_div_eq_div_mul, Nat.reduceMul, e32, e16, e8, e24, e40, e48, e56]; omega))).symm trivial rfl give_nil
   ·refine e_skip ?_
    refine x_then (e_seq (e_reg (mv rfl rfl (mv rfl rfl (dt (cv_u8 rfl rfl Try.underlying81 Try.underlying5) rfl ?_)))))
    refine dt (d_ix8 rfl rfl rfl Try.underlying9 rfl (by omega) (by decide) (by decide +kernel)) rfl ?_
    refine dt (cv_i64 rfl rfl Try.underlying5 Try.underlying3 (inI_bl8 _)) rfl ?_
    refine dt (d_add rfl rfl rfl (inI_add8 _ (by omega) (by omega))) rfl ?_
    refine as_ rfl rfl (l_nil (x_then (e_ret ?_)))
    exact x_end (.inl rfl) hsc () _ (fun a w hs => res1 hs Try.results91 rfl) (len_fin (n := x) (by omega) (by first | omega | (simp only [Nat.div_div_eq_div_mul, Nat.reduceMul, e32, e16, e8, e24, e40, e48, e56]; omega))).symm trivial rfl give_nil
  ·refine e_skip ?_
   refine x_then (e_seq (e_seq (e_reg (mv rfl rfl (dt (d_geq rfl rfl rfl) rfl ?_)))))
   refine l_nil (x_then (e_cond rfl (fun h346_2 => ?_) (fun h346_2 => ?_)))
   ·refine e_seq (e_reg (mv rfl rfl (dt (u_shrc (n := 8) (n' := 256) rfl rfl rfl rfl rfl) rfl ?_)))
    refine as_ rfl rfl (l_nil (x_then (e_reg (mv rfl rfl (dt (d_add rfl rfl rfl ⟨by omega, by omega⟩) rfl ?_)))))
    refine as_ rfl rfl (l_nil (x_then (e_seq (e_reg (mv rfl rfl (mv rfl rfl (dt (cv_u8 rfl rfl Try.underlying81 Try.underlying5) rfl ?_)))))))
    refine dt (d_ix8 rfl rfl rfl Try.underlying9 rfl (by omega) (by decide) (by decide +kernel)) rfl ?_
    refine dt (cv_i64 rfl rfl Try.underlying5 Try.underlying3 (inI_bl8 _)) rfl ?_
    refine dt (d_add rfl rfl rfl (inI_add8 _ (by omega) (by omega))) rfl ?_
    refine as_ rfl rfl (l_nil (x_then (e_ret ?_)))
    exact x_end (.inl rfl) hsc () _ (fun a w hs => res1 hs Try.results91 rfl) (len_fin (n := x) (by omega) (by first | omega | (simp only [Nat.div_div_eq_div_mul, Nat.reduceMul, e32, e16, e8, e24, e40, e48, e56]; omega))).symm trivial rfl give_nil
   ·refine e_skip ?_
    refine x_then (e_seq (e_reg (mv rfl rfl (mv rfl rfl (dt (cv_u8 rfl rfl Try.underlying81 Try.underlying5) rfl ?_)))))
    refine dt (d_ix8 rfl rfl rfl Try.underlying9 rfl (by omega) (by decide) (by decide +kernel)) rfl ?_
    refine dt (cv_i64 rfl rfl Try.underlying5 Try.underlying3 (inI_bl8 _)) rfl ?_
    refine dt (d_add rfl rfl rfl (inI_add8 _ (by omega) (by omega))) rfl ?_
    refine as_ rfl rfl (l_nil (x_then (e_ret ?_)))
    exact x_end (.inl rfl) hsc () _ (fun a w hs => res1 hs Try.results91 rfl) (len_fin (n := x) (by omega) (by first | omega | (simp only [Nat.div_div_eq_div_mul, Nat.reduceMul, e32, e16, e8, e24, e40, e48, e56]; omega))).symm trivial rfl give_nil
 ·refine e_skip ?_
  refine x_then (e_seq (e_seq (e_reg (mv rfl rfl (dt (d_geq rfl rfl rfl) rfl ?_)))))
  refine l_nil (x_then (e_cond rfl (fun h342_2 => ?_) (fun h342_2 => ?_)))
  ·refine e_seq (e_reg (mv rfl rfl (dt (u_shrc (n := 16) (n' := 65536) rfl rfl rfl rfl rfl) rfl ?_)))
   refine as_ rfl rfl (l_nil (x_then (e_reg (mv rfl rfl (dt (d_add rfl rfl rfl ⟨by omega, by omega⟩) rfl ?_)))))
   refine as_ rfl rfl (l_nil (x_then (e_seq (e_seq (e_reg (mv rfl rfl (dt (d_geq rfl rfl rfl) rfl ?_)))))))
   refine l_nil (x_then (e_cond rfl (fun h346_3 => ?_) (fun h346_3 => ?_)))
   ·refine e_seq (e_reg (mv rfl rfl (dt (u_shrc (n := 8) (n' := 256) rfl rfl rfl rfl rfl) rfl ?_)))
    refine as_ rfl rfl (l_nil (x_then (e_reg (mv rfl rfl (dt (d_add rfl rfl rfl ⟨by omega, by omega⟩) rfl ?_)))))
    refine as_ rfl rfl (l_nil (x_then (e_seq (e_reg (mv rfl rfl (mv rfl rfl (dt (cv_u8 rfl rfl Try.underlying81 Try.underlying5) rfl ?_)))))))
    refine dt (d_ix8 rfl rfl rfl Try.underlying9 rfl (by omega) (by decide) (by decide +kernel)) rfl ?_
    refine dt (cv_i64 rfl rfl Try.underlying5 Try.underlying3 (inI_bl8 _)) rfl ?_
    refine dt (d_add rfl rfl rfl (inI_add8 _ (by omega) (by omega))) rfl ?_
    refine as_ rfl rfl (l_nil (x_then (e_ret ?_)))
    exact x_end (.inl rfl) hsc () _ (fun a w hs => res1 hs Try.results91 rfl) (len_fin (n := x) (by omega) (by first | omega | (simp only [Nat.div_div_eq_div_mul, Nat.reduceMul, e32, e16, e8, e24, e40, e48, e56]; omega))).symm trivial rfl give_nil
   ·refine e_skip ?_
    refine x_then (e_seq (e_reg (mv rfl rfl (mv rfl rfl (dt (cv_u8 rfl rfl Try.underlying81 Try.underlying5) rfl ?_)))))
    refine dt (d_ix8 rfl rfl rfl Try.underlying9 rfl (by omega) (by decide) (by decide +kernel)) rfl ?_
    refine dt (cv_i64 rfl rfl Try.underlying5 Try.underlying3 (inI_bl8 _)) rfl ?_
    refine dt (d_add rfl rfl rfl (inI_add8 _ (by omega) (by omega))) rfl ?_
    refine as_ rfl rfl (l_nil (x_then (e_ret ?_)))
    exact x_end (.inl rfl) hsc () _ (fun a w hs => res1 hs Try.results91 rfl) (len_fin (n := x) (by omega) (by first | omega | (simp only [Nat.div_div_eq_div_mul, Nat.reduceMul, e32, e16, e8, e24, e40, e48, e56]; omega))).symm trivial rfl give_nil
  ·refine e_skip ?_
   refine x_then (e_seq (e_seq (e_reg (mv rfl rfl (dt (d_geq rfl rfl rfl) rfl ?_)))))
   refine l_nil (x_then (e_cond rfl (fun h346_4 => ?_) (fun h346_4 => ?_)))
   ·refine e_seq (e_reg (mv rfl rfl (dt (u_shrc (n := 8) (n' := 256) rfl rfl rfl rfl rfl) rfl ?_)))
    refine as_ rfl rfl (l_nil (x_then (e_reg (mv rfl rfl (dt (d_add rfl rfl rfl ⟨by omega, by omega⟩) rfl ?_)))))
    refine as_ rfl rfl (l_nil (x_then (e_seq (e_reg (mv rfl rfl (mv rfl rfl (dt (cv_u8 rfl rfl Try.underlying81 Try.underlying5) rfl ?_)))))))
    refine dt (d_ix8 rfl rfl rfl Try.underlying9 rfl (by omega) (by decide) (by decide +kernel)) rfl ?_
    refine dt (cv_i64 rfl rfl Try.underlying5 Try.underlying3 (inI_bl8 _)) rfl ?_
    refine dt (d_add rfl rfl rfl (inI_add8 _ (by omega) (by omega))) rfl ?_
    refine as_ rfl rfl (l_nil (x_then (e_ret ?_)))
    exact x_end (.inl rfl) hsc () _ (fun a w hs => res1 hs Try.results91 rfl) (len_fin (n := x) (by omega) (by first | omega | (simp only [Nat.div_div_eq_div_mul, Nat.reduceMul, e32, e16, e8, e24, e40, e48, e56]; omega))).symm trivial rfl give_nil
   ·refine e_skip ?_
    refine x_then (e_seq (e_reg (mv rfl rfl (mv rfl rfl (dt (cv_u8 rfl rfl Try.underlying81 Try.underlying5) rfl ?_)))))
    refine dt (d_ix8 rfl rfl rfl Try.underlying9 rfl (by omega) (by decide) (by decide +kernel)) rfl ?_
    refine dt (cv_i64 rfl rfl Try.underlying5 Try.underlying3 (inI_bl8 _)) rfl ?_
    refine dt (d_add rfl rfl rfl (inI_add8 _ (by omega) (by omega))) rfl ?_
    refine as_ rfl rfl (l_nil (x_then (e_ret ?_)))
    exact x_end (.inl rfl) hsc () _ (fun a w hs => res1 hs Try.results91 rfl) (len_fin (n := x) (by omega) (by first | omega | (simp only [Nat.div_div_eq_div_mul, Nat.reduceMul, e32, e16, e8, e24, e40, e48, e56]; omega))).symm trivial rfl give_nil
theorem bits_lz (x : Nat) (hx : x < U) : Cal Try.prog 79 #[.int .u64 (x : Int)] [] false (G := Unit) (fun _ => True) (fun _ => .int .i64 ((64 - bl x : Nat) : Int)) (fun _ => []) := by
 refine cal_in Try.func79 rfl Try.ntmps79 rfl trivial ?_
 intro w0 sc hw hsc
 simp only [enumEnv, enumPre]
 have hb : bl x ≤ 64 := (bl_le 64 x).2 hx
 refine e_seq (e_reg (as_ rfl rfl (l_nil (x_then (e_seq (e_reg (mv rfl rfl (tt (t_call (n := 0) (bits_len _ hx) rfl rfl rfl ⟨rfl, trivial⟩ Try.call91 pre_nil rfl hw) rfl (fun _ _ => ?_)))))))))
 refine dt (d_sub rfl rfl rfl ⟨by omega, by omega⟩) rfl ?_
 refine as_ rfl rfl (l_nil (x_then (e_ret ?_)))
 exact x_end (.inl rfl) hsc () _ (fun a w hs => res1 hs Try.results79 rfl) (by congr 1; omega) trivial rfl give_nil
theorem nat_size (v : Value) (x : Nat) (hx : bl x ≤ 1099511627776) : Cal Try.prog 68 #[v] [dgp v x] false (G := Unit) (fun _ => True) (fun _ => .int .i64 (bl x : Int)) (fun _ => []) := by
 refine cal_in Try.func68 rfl Try.ntmps68 rfl ⟨rfl, trivial⟩ ?_
 intro w0 sc hw hsc
 simp only [enumEnv, enumPre]
 have hX := lenU_bl x
 refine e_seq (e_reg (as_ rfl rfl (l_nil (x_then (e_seq (e_seq (e_reg (mv rfl rfl (dt (d_len rfl rfl (i := 1) rfl rd_slp Try.underlying83) rfl ?_)))))))))
 refine dt (d_eql rfl rfl rfl) rfl ?_
 refine l_nil (x_then (e_cond rfl (fun h39 => ?_) (fun h39 => ?_)))
 ·refine e_seq (e_reg (as_ rfl rfl (l_nil (x_then (e_ret (x_ret ?_))))))
  have h0 : x = 0 := (dg_nil_iff two_U x).1 (by omega)
  exact x_end (.inl rfl) hsc () _ (fun a w hs => res1 hs Try.results68 rfl) (by rw [h0]; rfl) trivial rfl give_nil
 ·have hp : 0 < x := by rcases Nat.eq_zero_or_pos x with rfl | h; (simp [dg_zero] at h39); exact h
  obtain ⟨z1, z2, z3, z4⟩ := size_eq hp
  refine e_skip ?_
  refine x_then (e_seq (e_reg (mv rfl rfl (dt (d_len rfl rfl (i := 1) rfl rd_slp Try.underlying83) rfl ?_))))
  refine dt (d_mul rfl rfl rfl ⟨by omega, by omega⟩) rfl ?_
  refine mv rfl rfl (mv rfl rfl (dt (d_len rfl rfl (i := 1) rfl rd_slp Try.underlying83) rfl ?_))
  refine dt (d_sub rfl rfl rfl ⟨by omega, by omega⟩) rfl ?_
  refine dt (d_ixa (ii := 1) (i := (dg U x).length - 1) rfl rfl rfl rfl rd_slp Try.underlying83 Try.sizeOf81 (by omega) (by omega)) rfl ?_
  refine dt (d_lde (ii := 1) 0 rfl rfl rfl rd_slp pU (by first | omega | (simp only [List.length_set]; omega))) rfl ?_
  refine tt (t_call (n := 1) (bits_lz _ (getD_lt U_pos (dg_lt two_U _) _)) rfl rfl rfl ⟨rfl, trivial⟩ Try.call79 pre_nil rfl hw) rfl (fun _ _ => ?_)
  refine dt (d_sub rfl rfl rfl ⟨by omega, by omega⟩) rfl ?_
  refine as_ rfl rfl (l_nil (x_then (e_ret ?_)))
  exact x_end (.inl rfl) hsc () _ (fun a w hs => res1 hs Try.results68 rfl) (by congr 1; omega) trivial rfl give_nil
end Go.Sky
namespace Go.Sky
open Go.Proofs
set_option maxRecDepth 20000
set_option maxHeartbeats 4000000
set_option linter.unusedVariables false
set_option linter.unusedSimpArgs false
theorem clone_nat (v : Value) (xs : List Nat) (hx : xs.length * 8 ≤ 140737488355328) : CalO Try.prog 93 #[v] [slp 1 encU v xs] (G := Value) (fun r => True) (fun r => r) (fun r => osl 1 81 encU r xs) := by
 refine calo_in Try.func93 rfl Try.ntmps93 rfl ⟨rfl, trivial⟩ ?_
 intro w0 sc hw hsc
 simp only [enumEnv, enumPre]
 refine e_fact (f_nil (i := 1) rfl rd_slp) (fun hnil => ?_)
 refine e_seq (e_reg (as_ rfl rfl (l_nil (x_then (e_seq (e_seq (e_reg (mv rfl rfl (dt (d_isnil rfl rfl rfl (i := 1) rfl rd_slp Try.underlying83) rfl ?_)))))))))
 refine l_nil (x_then (e_condb rfl (fun h357 => ?_) (fun h357 => ?_)))
 ·refine e_seq (e_reg (as_ rfl rfl (l_nil (x_then (e_ret (x_ret ?_))))))
  obtain rfl : xs = [] := hnil (by simpa using h357)
  refine x_imp (s_nil 9 1 81 encU) ?_
  exact x_endo (.inl rfl) (.slice none 0 0) _ (fun a w hs => res1 hs Try.results93 rfl) rfl trivial rfl 9 rfl rfl rfl
 ·refine e_skip ?_
  refine x_then (e_seq (e_reg (tt (t_bs0 (i := 2) (enc := encU) rfl rfl rfl Try.underlying83 pU rfl hw) rfl (fun v _ => ?_))))
  refine mv rfl rfl (tt (t_appa (i := 2) (j := 1) (by_ := 8) rfl rfl rfl rfl rfl rfl (by decide) rfl rd_slp Try.underlying83 Try.ti81 rfl pU rfl rfl rfl (by simp; omega) (by decide) rfl hw) rfl (fun v_2 _ => ?_))
  refine as_ rfl rfl (l_nil (x_then (e_ret ?_)))
  exact x_endo (.inl rfl) _ _ (fun a w hs => res1 hs Try.results93 rfl) rfl trivial rfl 2 rfl (by rfl) rfl
set_option maxHeartbeats 1600000 in
theorem bits_div (h l y : Nat) (hl : l < U) (hy : y < U) (hh : h < y) : Cal Try.prog 87 #[.int .u64 (h : Int), .int .u64 (l : Int), .int .u64 (y : Int)] [] false (G := Unit) (fun _ => True) (fun _ => .tuple #[.int .u64 (((h * U + l) / y : Nat) : Int), .int .u64 (((h * U + l) % y : Nat) : Int)]) (fun _ => []) := by
 refine cal_in Try.func87 rfl Try.ntmps87 rfl trivial ?_
 intro w0 sc hw hsc
 simp only [enumEnv, enumPre]
 have hUe : U = 18446744073709551616 := rfl
 have hp : 0 < y := by omega
 have hbl : bl y ≤ 64 := (bl_le 64 y).2 hy
 obtain ⟨s, hs⟩ : ∃ s, s = 64 - bl y := ⟨_, rfl⟩
 obtain ⟨Y, hYe⟩ : ∃ Y, Y = y * 2 ^ s := ⟨_, rfl⟩
 obtain ⟨hY1, hY2⟩ := norm_top hp hy hs
 rw [← hYe] at hY1 hY2
 have hYU := hY2
 obtain ⟨D, hD⟩ : ∃ D, D = (h * U + l) * 2 ^ s := ⟨_, rfl⟩
 obtain ⟨u, hue⟩ : ∃ u, u = D / U := ⟨_, rfl⟩
 obtain ⟨v, hve⟩ : ∃ v, v = D % U := ⟨_, rfl⟩
 obtain ⟨v1, hv1e⟩ : ∃ x, x = v / 4294967296 := ⟨_, rfl⟩
 obtain ⟨v0, hv0e⟩ : ∃ x, x = v % 4294967296 := ⟨_, rfl⟩
 obtain ⟨y1, hy1e⟩ : ∃ x, x = Y / 4294967296 := ⟨_, rfl⟩
 obtain ⟨y0, hy0e⟩ : ∃ x, x = Y % 4294967296 := ⟨_, rfl⟩
 have hYs : Y = y1 * 4294967296 + y0 := by omega
 have hhs := shl_lt hh (show y * 2 ^ s < U by rw [← hYe]; exact hY2)
 have huY : u < Y := by rw [hue, hD, hYe]; exact top_lt hl hh
 have hu : u < y1 * 4294967296 + y0 := by omega
 have hvU : v < U := by rw [hve]; exact Nat.mod_lt _ U_pos
 have hy1 : 2147483648 ≤ y1 := by omega
 have hy1l : y1 < 4294967296 := by omega
 have hy0 : y0 < 4294967296 := by omega
 have hv1 : v1 < 4294967296 := by omega
 have hv0 : v0 < 4294967296 := by omega
 obtain ⟨Q1, hQ1⟩ : ∃ x, x = (u * 4294967296 + v1) / Y := ⟨_, rfl⟩
 obtain ⟨t, hte⟩ : ∃ x, x = (u * 4294967296 + v1) % Y := ⟨_, rfl⟩
 have htY : t < Y := by rw [hte]; exact Nat.mod_lt _ (by omega)
 have ht : t < y1 * 4294967296 + y0 := by omega
 obtain ⟨Q0, hQ0⟩ : ∃ x, x = (t * 4294967296 + v0) / Y := ⟨_, rfl⟩
 have hY0 : 0 < Y := by omega
 obtain ⟨hd1, hd2⟩ := dv_two (D := D) hY0 hue hve hv1e hv0e
 rw [← hQ1, ← hte, ← hQ0] at hd1
 rw [← hte] at hd2
 have hQ0l : Q0 < 4294967296 := by rw [hQ0, hYs]; exact dv_Q hv0 ht
 have hQ1l : Q1 < 4294967296 := by rw [hQ1, hYs]; exact dv_Q hv1 hu
 refine e_seq (e_reg (as_ rfl rfl (as_ rfl rfl (l_nil (x_then (e_seq (e_seq (e_reg (mv rfl rfl (dt (d_eql rfl rfl rfl) rfl ?_))))))))))
 refine l_nil (x_then (e_cond rfl (fun h519 => ?_) (fun h519 => ?_)))
 ·exfalso; omega
 ·refine e_skip ?_
  refine x_then (e_seq (e_seq (e_reg (mv rfl rfl (mv rfl rfl (dt (d_leq rfl rfl rfl) rfl ?_))))))
  refine l_nil (x_then (e_cond rfl (fun h522 => ?_) (fun h522 => ?_)))
  ·exfalso; omega
  ·refine e_skip ?_
   refine x_then (e_seq (e_seq (e_reg (mv rfl rfl (dt (d_eql rfl rfl rfl) rfl ?_)))))
   refine l_nil (x_then (e_cond rfl (fun h527 => ?_) (fun h527 => ?_)))
   ·refine e_seq (e_dreg (fun _ => False) [(0, 0), (1, 0), (2, 0), (3, 0), (4, 0), (5, 0), (6, 0), (7, 3)] (by kernel_rfl) ?_ ?_)
    ·kernel_rfl
    refine r0' rfl rfl rfl rfl (st0 (d_mv rfl rfl)) ?_
    refine r0' rfl rfl rfl rfl (st0 (d_mv rfl rfl)) ?_
    refine r0' rfl rfl rfl rfl (st0 (u_quo rfl rfl rfl (by omega) (by omega))) ?_
    refine r0' rfl rfl rfl rfl (st0 (d_mv rfl rfl)) ?_
    refine r0' rfl rfl rfl rfl (st0 (d_mv rfl rfl)) ?_
    refine r0' rfl rfl rfl rfl (st0 (u_rem rfl rfl rfl (by omega))) ?_
    refine r0' rfl rfl rfl rfl (st0 (d_as rfl rfl)) ?_
    refine r3' rfl rfl (t_det (d_as rfl rfl) rfl rfl) (fun _ _ => ?_)
    refine r_end ?_
    refine x_then (e_ret (x_ret ?_))
    exact x_end (.inl rfl) hsc () _ (fun a w hs => res2 hs Try.results87 rfl rfl) (by have h0 : h = 0 := (by omega); rw [h0]; simp) trivial rfl give_nil
   ·refine e_skip ?_
    refine x_then (e_seq (e_reg (mv rfl rfl (tt (t_call (n := 0) (bits_lz _ hy) rfl rfl rfl ⟨rfl, trivial⟩ Try.call79 pre_nil rfl hw) rfl (fun _ _ => ?_)))))
    refine dt (cv_u64 rfl rfl Try.underlying3 Try.underlying119 (by simp only [U]; omega)) rfl ?_
    refine as_ rfl rfl (l_nil (x_then (e_seq (e_imp (s_val 8 (v' := .int .u64 (s : Int)) rfl (by rw [hs])) ?_))))
    refine e_reg (mv rfl rfl (mv rfl rfl (dt (u_shl rfl rfl rfl rfl (by omega)) rfl ?_)))
    refine as_ rfl rfl (l_nil (x_then (e_seq (e_imp (s_val 2 (v' := .int .u64 (Y : Int)) rfl (by rw [hYe, Nat.mod_eq_of_lt (by rw [← hYe]; exact hYU)])) ?_))))
    refine e_reg (mv rfl rfl (dt (u_shrc (n := 32) (n' := 4294967296) rfl rfl rfl rfl rfl) rfl ?_))
    refine as_ rfl rfl (l_nil (x_then (e_seq (e_reg (mv rfl rfl (dt (u_and rfl rfl rfl (by omega) (by decide)) rfl ?_))))))
    refine as_ rfl rfl (l_nil (x_then (e_seq (e_reg (mv rfl rfl (mv rfl rfl (dt (u_shl rfl rfl rfl rfl (by omega)) rfl ?_)))))))
    refine mv rfl rfl (mv rfl rfl (dt (u_sub rfl rfl rfl (by first | exact Nat.mod_lt _ U_pos | omega)) rfl ?_))
    refine dt (u_shr rfl rfl (n := 64 - s) rfl (by simp only [U]; omega) (by omega)) rfl ?_
    refine dt (u_or rfl rfl rfl (Nat.mod_lt _ U_pos) (Nat.lt_of_le_of_lt (Nat.div_le_self _ _) hl)) rfl ?_
    refine as_ rfl rfl (l_nil (x_then (e_seq (e_imp (s_val 11 (v' := .int .u64 (u : Int)) rfl (by rw [hue, hD, or_shift (by omega) hhs hl])) ?_))))
    refine e_reg (mv rfl rfl (mv rfl rfl (dt (u_shl rfl rfl rfl rfl (by omega)) rfl ?_)))
    refine as_ rfl rfl (l_nil (x_then (e_seq (e_imp (s_val 12 (v' := .int .u64 (v : Int)) rfl (by rw [hve, hD, mod_shift h l s])) ?_))))
    refine e_reg (mv rfl rfl (dt (u_shrc (n := 32) (n' := 4294967296) rfl rfl rfl rfl rfl) rfl ?_))
    refine as_ rfl rfl (l_nil (x_then (e_seq (e_imp (s_val 13 (v' := .int .u64 (v1 : Int)) rfl (by rw [hv1e])) ?_))))
    refine e_reg (mv rfl rfl (dt (u_and rfl rfl rfl (by omega) (by decide)) rfl ?_))
    refine as_ rfl rfl (l_nil (x_then (e_seq (e_imp (s_val 14 (v' := .int .u64 (v0 : Int)) rfl (by rw [and_mask, hv0e])) ?_))))
    refine e_imp (s_val 9 (v' := .int .u64 (y1 : Int)) rfl (by rw [hy1e])) ?_
    refine e_imp (s_val 10 (v' := .int .u64 (y0 : Int)) rfl (by rw [and_mask, hy0e])) ?_
    refine e_reg (mv rfl rfl (mv rfl rfl (dt (u_quo rfl rfl rfl (by omega) (by omega)) rfl ?_)))
    refine as_ rfl rfl (l_nil (x_then (e_seq (e_reg (mv rfl rfl (mv rfl rfl (mv rfl rfl (dt (u_mul rfl rfl rfl) rfl ?_))))))))
    refine dt (u_sub rfl rfl rfl (by first | exact Nat.mod_lt _ U_pos | omega)) rfl ?_
    refine as_ rfl rfl (l_nil (x_then (e_jn [(2, _), (8, _), (9, _), (10, _), (11, _), (13, _), (14, _)] [(0, _)] (fun (_ : Unit) => [(15, .int .u64 ((Q1 : Nat) : Int))]) (fun (_ : Unit) => []) (fun (_ : Unit) => True) ⟨rfl, rfl, rfl, rfl, rfl, rfl, rfl, trivial⟩ ⟨rfl, trivial⟩ ?_ ?_)))
    ·refine e_block (e_imp (s_val 16 (v' := .int .u64 ((u % y1 : Nat) : Int)) rfl (by rw [rsub (by omega) (by omega)])) ?_)
     refine e_lp [(2, _), (8, _), (9, _), (10, _), (11, _), (13, _), (14, _)] [(0, _)] (fun (q : Nat × Nat) => [(15, .int .u64 (q.1 : Int)), (16, .int .u64 (q.2 : Int))]) (fun (q : Nat × Nat) => []) (fun (q : Nat × Nat) => (dvI u v1 y1 y0 q.1 q.2) ∧ (q.2 < 4294967296)) (fun (q : Nat × Nat) => q.1) (u / y1, u % y1) ⟨dv0 hy1 hy1l hy0 hv1 hu, Nat.lt_trans (Nat.mod_lt _ (by omega)) hy1l⟩ ⟨rfl, rfl, rfl, rfl, rfl, rfl, rfl, rfl, rfl, trivial⟩ ⟨rfl, trivial⟩ ?_
     rintro ⟨a, r⟩ ⟨hI, hr⟩
     dsimp only at hI hr
     simp only [List.cons_append, List.nil_append]
     have hI1 := hI.1
     have hI2 := hI.2.1
     refine e_seq (e_seq (e_reg (mv rfl rfl (dt (d_geq rfl rfl rfl) rfl ?_))))
     refine mv rfl rfl (l_split (d := 69) rfl (fun s547 => ?_) (fun s547 => ?_))
     ·refine gsk rfl rfl rfl rfl rfl (gsk rfl rfl rfl rfl rfl (gsk rfl rfl rfl rfl rfl (gsk rfl rfl rfl rfl rfl (gsk rfl rfl rfl rfl rfl (gsk rfl rfl rfl rfl rfl (gsk rfl rfl rfl rfl rfl (gsk rfl rfl rfl rfl rfl (dt (d_pickt rfl rfl rfl) rfl ?_))))))))
      refine l_nil (x_then (e_condt rfl ?_))
      refine e_skip ?_
      refine x_then (e_block (e_seq ?_))
      have hst := dv_step (by omega) hI hv1 hu (by omega)
      have hst1 := hst.1
      refine e_reg (mv rfl rfl (dt (u_sub (n := 1) rfl rfl rfl (by decide)) rfl ?_))
      refine as_ rfl rfl (l_nil (x_then (e_seq (e_imp (s_val 15 (v' := .int .u64 ((a - 1 : Nat) : Int)) rfl (u64_eq (dec_u hst1 (by omega)))) ?_))))
      refine e_reg (mv rfl rfl (mv rfl rfl (dt (u_add rfl rfl rfl) rfl ?_)))
      refine as_ rfl rfl (l_nil (x_then (e_seq (e_imp (s_val 16 (v' := .int .u64 ((r + y1 : Nat) : Int)) rfl (u64_eq (Nat.mod_eq_of_lt (by omega)))) ?_))))
      refine e_reg (mv rfl rfl (dt (d_geq rfl rfl rfl) rfl ?_))
      refine l_nil (x_then (e_cond rfl (fun h550 => ?_) (fun h550 => ?_)))
      ·refine e_exit ?_
       refine x_bo (by decide) ?_
       refine x_exit (x_be ?_)
       have hq : Q1 = a - 1 := by rw [hQ1, hYs]; exact (dv_break (by omega) hy0 hst.2 (by omega) (by omega)).symm
       exact x_jn () trivial ⟨by rw [hq]; rfl, rfl, rfl, rfl, rfl, rfl, rfl, rfl, trivial⟩ ⟨rfl, trivial⟩
      ·refine e_skip ?_
       refine x_bn ?_
       exact x_rnd (a - 1, r + y1) ⟨hst.2, by dsimp only; omega⟩ (by first | omega | (dsimp only <;> omega)) ⟨rfl, rfl, rfl, rfl, rfl, rfl, rfl, rfl, rfl, trivial⟩ ⟨rfl, trivial⟩
     ·have hm1 := mul32_lt (show a < 4294967296 by omega) hy0
      have e1 := Nat.mod_eq_of_lt (show a * y0 < U from hm1)
      have e2 := Nat.mod_eq_of_lt (show 4294967296 * r < U by omega)
      have e3 := Nat.mod_eq_of_lt (show 4294967296 * r + v1 < U by omega)
      refine gdt (d_mv rfl rfl) rfl rfl rfl rfl ?_
      refine gdt (d_mv rfl rfl) rfl rfl rfl rfl ?_
      refine gdt (u_mul rfl rfl rfl) rfl rfl rfl rfl ?_
      refine gdt (d_mv rfl rfl) rfl rfl rfl rfl ?_
      refine gdt (u_mul rfl rfl rfl) rfl rfl rfl rfl ?_
      refine gdt (d_mv rfl rfl) rfl rfl rfl rfl ?_
      refine gdt (u_add rfl rfl rfl) rfl rfl rfl rfl ?_
      refine gdt (d_gtr rfl rfl rfl) rfl rfl rfl rfl ?_
      refine dt (d_pickf rfl rfl rfl) rfl ?_
      refine l_nil (x_then (e_cond rfl (fun h547 => ?_) (fun h547 => ?_)))
      ·rw [e1, e2, e3] at h547
       refine e_skip ?_
       refine x_then (e_block (e_seq ?_))
       have hst := dv_step (by omega) hI hv1 hu (by omega)
       have hst1 := hst.1
       refine e_reg (mv rfl rfl (dt (u_sub (n := 1) rfl rfl rfl (by decide)) rfl ?_))
       refine as_ rfl rfl (l_nil (x_then (e_seq (e_imp (s_val 15 (v' := .int .u64 ((a - 1 : Nat) : Int)) rfl (u64_eq (dec_u hst1 (by omega)))) ?_))))
       refine e_reg (mv rfl rfl (mv rfl rfl (dt (u_add rfl rfl rfl) rfl ?_)))
       refine as_ rfl rfl (l_nil (x_then (e_seq (e_imp (s_val 16 (v' := .int .u64 ((r + y1 : Nat) : Int)) rfl (u64_eq (Nat.mod_eq_of_lt (by omega)))) ?_))))
       refine e_reg (mv rfl rfl (dt (d_geq rfl rfl rfl) rfl ?_))
       refine l_nil (x_then (e_cond rfl (fun h550_2 => ?_) (fun h550_2 => ?_)))
       ·refine e_exit ?_
        refine x_bo (by decide) ?_
        refine x_exit (x_be ?_)
        have hq : Q1 = a - 1 := by rw [hQ1, hYs]; exact (dv_break (by omega) hy0 hst.2 (by omega) (by omega)).symm
        exact x_jn () trivial ⟨by rw [hq]; rfl, rfl, rfl, rfl, rfl, rfl, rfl, rfl, trivial⟩ ⟨rfl, trivial⟩
       ·refine e_skip ?_
        refine x_bn ?_
        exact x_rnd (a - 1, r + y1) ⟨hst.2, by dsimp only; omega⟩ (by first | omega | (dsimp only <;> omega)) ⟨rfl, rfl, rfl, rfl, rfl, rfl, rfl, rfl, rfl, trivial⟩ ⟨rfl, trivial⟩
      ·rw [e1, e2, e3] at h547
       refine e_exit ?_
       refine x_exit (x_exit (x_be ?_))
       have hq : Q1 = a := by rw [hQ1, hYs]; exact (dv_stop (by omega) hI (by omega)).symm
       exact x_jn () trivial ⟨by rw [hq]; rfl, rfl, rfl, rfl, rfl, rfl, rfl, rfl, trivial⟩ ⟨rfl, trivial⟩
    ·rintro _ -
     simp only [List.cons_append, List.nil_append]
     refine e_seq (e_reg (mv rfl rfl (dt (u_mul rfl rfl rfl) rfl ?_)))
     refine mv rfl rfl (dt (u_add rfl rfl rfl) rfl ?_)
     refine mv rfl rfl (mv rfl rfl (dt (u_mul rfl rfl rfl) rfl ?_))
     refine dt (u_sub rfl rfl rfl (by first | exact Nat.mod_lt _ U_pos | omega)) rfl ?_
     refine as_ rfl rfl (l_nil (x_then (e_seq (e_imp (s_val 17 (v' := .int .u64 (t : Int)) rfl (by rw [hte, hQ1, dv_rem' hY0 hYU])) ?_))))
     refine e_reg (mv rfl rfl (mv rfl rfl (dt (u_quo rfl rfl rfl (by omega) (by omega)) rfl ?_)))
     refine as_ rfl rfl (l_nil (x_then (e_seq (e_reg (mv rfl rfl (mv rfl rfl (mv rfl rfl (dt (u_mul rfl rfl rfl) rfl ?_))))))))
     refine dt (u_sub rfl rfl rfl (by first | exact Nat.mod_lt _ U_pos | omega)) rfl ?_
     refine as_ rfl rfl (l_nil (x_then (e_jn [(2, _), (8, _), (14, _), (15, _), (17, _)] [(0, _)] (fun (_ : Unit) => [(18, .int .u64 ((Q0 : Nat) : Int))]) (fun (_ : Unit) => []) (fun (_ : Unit) => True) ⟨rfl, rfl, rfl, rfl, rfl, trivial⟩ ⟨rfl, trivial⟩ ?_ ?_)))
     ·refine e_block (e_imp (s_val 16 (v' := .int .u64 ((t % y1 : Nat) : Int)) rfl (by rw [rsub (by omega) (by omega)])) ?_)
      refine e_lp [(2, _), (8, _), (9, _), (10, _), (14, _), (15, _), (17, _)] [(0, _)] (fun (q : Nat × Nat) => [(18, .int .u64 (q.1 : Int)), (16, .int .u64 (q.2 : Int))]) (fun (q : Nat × Nat) => []) (fun (q : Nat × Nat) => (dvI t v0 y1 y0 q.1 q.2) ∧ (q.2 < 4294967296)) (fun (q : Nat × Nat) => q.1) (t / y1, t % y1) ⟨dv0 hy1 hy1l hy0 hv0 ht, Nat.lt_trans (Nat.mod_lt _ (by omega)) hy1l⟩ ⟨rfl, rfl, rfl, rfl, rfl, rfl, rfl, rfl, rfl, trivial⟩ ⟨rfl, trivial⟩ ?_
      rintro ⟨a, r⟩ ⟨hI, hr⟩
      dsimp only at hI hr
      simp only [List.cons_append, List.nil_append]
      have hI1 := hI.1
      have hI2 := hI.2.1
      refine e_seq (e_seq (e_reg (mv rfl rfl (dt (d_geq rfl rfl rfl) rfl ?_))))
      refine mv rfl rfl (l_split (d := 104) rfl (fun s559 => ?_) (fun s559 => ?_))
      ·refine gsk rfl rfl rfl rfl rfl (gsk rfl rfl rfl rfl rfl (gsk rfl rfl rfl rfl rfl (gsk rfl rfl rfl rfl rfl (gsk rfl rfl rfl rfl rfl (gsk rfl rfl rfl rfl rfl (gsk rfl rfl rfl rfl rfl (gsk rfl rfl rfl rfl rfl (dt (d_pickt rfl rfl rfl) rfl ?_))))))))
       refine l_nil (x_then (e_condt rfl ?_))
       refine e_skip ?_
       refine x_then (e_block (e_seq ?_))
       have hst := dv_step (by omega) hI hv0 ht (by omega)
       have hst1 := hst.1
       refine e_reg (mv rfl rfl (dt (u_sub (n := 1) rfl rfl rfl (by decide)) rfl ?_))
       refine as_ rfl rfl (l_nil (x_then (e_seq (e_imp (s_val 18 (v' := .int .u64 ((a - 1 : Nat) : Int)) rfl (u64_eq (dec_u hst1 (by omega)))) ?_))))
       refine e_reg (mv rfl rfl (mv rfl rfl (dt (u_add rfl rfl rfl) rfl ?_)))
       refine as_ rfl rfl (l_nil (x_then (e_seq (e_imp (s_val 16 (v' := .int .u64 ((r + y1 : Nat) : Int)) rfl (u64_eq (Nat.mod_eq_of_lt (by omega)))) ?_))))
       refine e_reg (mv rfl rfl (dt (d_geq rfl rfl rfl) rfl ?_))
       refine l_nil (x_then (e_cond rfl (fun h562 => ?_) (fun h562 => ?_)))
       ·refine e_exit ?_
        refine x_bo (by decide) ?_
        refine x_exit (x_be ?_)
        have hq : Q0 = a - 1 := by rw [hQ0, hYs]; exact (dv_break (by omega) hy0 hst.2 (by omega) (by omega)).symm
        exact x_jn () trivial ⟨by rw [hq]; rfl, rfl, rfl, rfl, rfl, rfl, trivial⟩ ⟨rfl, trivial⟩
       ·refine e_skip ?_
        refine x_bn ?_
        exact x_rnd (a - 1, r + y1) ⟨hst.2, by dsimp only; omega⟩ (by first | omega | (dsimp only <;> omega)) ⟨rfl, rfl, rfl, rfl, rfl, rfl, rfl, rfl, rfl, trivial⟩ ⟨rfl, trivial⟩
      ·have hm1 := mul32_lt (show a < 4294967296 by omega) hy0
       have e1 := Nat.mod_eq_of_lt (show a * y0 < U from hm1)
       have e2 := Nat.mod_eq_of_lt (show 4294967296 * r < U by omega)
       have e3 := Nat.mod_eq_of_lt (show 4294967296 * r + v0 < U by omega)
       refine gdt (d_mv rfl rfl) rfl rfl rfl rfl ?_
       refine gdt (d_mv rfl rfl) rfl rfl rfl rfl ?_
       refine gdt (u_mul rfl rfl rfl) rfl rfl rfl rfl ?_
       refine gdt (d_mv rfl rfl) rfl rfl rfl rfl ?_
       refine gdt (u_mul rfl rfl rfl) rfl rfl rfl rfl ?_
       refine gdt (d_mv rfl rfl) rfl rfl rfl rfl ?_
       refine gdt (u_add rfl rfl rfl) rfl rfl rfl rfl ?_
       refine gdt (d_gtr rfl rfl rfl) rfl rfl rfl rfl ?_
       refine dt (d_pickf rfl rfl rfl) rfl ?_
       refine l_nil (x_then (e_cond rfl (fun h559 => ?_) (fun h559 => ?_)))
       ·rw [e1, e2, e3] at h559
        refine e_skip ?_
        refine x_then (e_block (e_seq ?_))
        have hst := dv_step (by omega) hI hv0 ht (by omega)
        have hst1 := hst.1
        refine e_reg (mv rfl rfl (dt (u_sub (n := 1) rfl rfl rfl (by decide)) rfl ?_))
        refine as_ rfl rfl (l_nil (x_then (e_seq (e_imp (s_val 18 (v' := .int .u64 ((a - 1 : Nat) : Int)) rfl (u64_eq (dec_u hst1 (by omega)))) ?_))))
        refine e_reg (mv rfl rfl (mv rfl rfl (dt (u_add rfl rfl rfl) rfl ?_)))
        refine as_ rfl rfl (l_nil (x_then (e_seq (e_imp (s_val 16 (v' := .int .u64 ((r + y1 : Nat) : Int)) rfl (u64_eq (Nat.mod_eq_of_lt (by omega)))) ?_))))
        refine e_reg (mv rfl rfl (dt (d_geq rfl rfl rfl) rfl ?_))
        refine l_nil (x_then (e_cond rfl (fun h562_2 => ?_) (fun h562_2 => ?_)))
        ·refine e_exit ?_
         refine x_bo (by decide) ?_
         refine x_exit (x_be ?_)
         have hq : Q0 = a - 1 := by rw [hQ0, hYs]; exact (dv_break (by omega) hy0 hst.2 (by omega) (by omega)).symm
         exact x_jn () trivial ⟨by rw [hq]; rfl, rfl, rfl, rfl, rfl, rfl, trivial⟩ ⟨rfl, trivial⟩
        ·refine e_skip ?_
         refine x_bn ?_
         exact x_rnd (a - 1, r + y1) ⟨hst.2, by dsimp only; omega⟩ (by first | omega | (dsimp only <;> omega)) ⟨rfl, rfl, rfl, rfl, rfl, rfl, rfl, rfl, rfl, trivial⟩ ⟨rfl, trivial⟩
       ·rw [e1, e2, e3] at h559
        refine e_exit ?_
        refine x_exit (x_exit (x_be ?_))
        have hq : Q0 = a := by rw [hQ0, hYs]; exact (dv_stop (by omega) hI (by omega)).symm
        exact x_jn () trivial ⟨by rw [hq]; rfl, rfl, rfl, rfl, rfl, rfl, trivial⟩ ⟨rfl, trivial⟩
     ·rintro _ -
      simp only [List.cons_append, List.nil_append]
      refine e_seq (e_reg (mv rfl rfl (dt (u_mul rfl rfl rfl) rfl ?_)))
      refine mv rfl rfl (dt (u_add rfl rfl rfl) rfl ?_)
      refine mv rfl rfl (dt (u_mul rfl rfl rfl) rfl ?_)
      refine mv rfl rfl (dt (u_add rfl rfl rfl) rfl ?_)
      refine mv rfl rfl (mv rfl rfl (dt (u_mul rfl rfl rfl) rfl ?_))
      refine dt (u_sub rfl rfl rfl (by first | exact Nat.mod_lt _ U_pos | omega)) rfl ?_
      refine mv rfl rfl (dt (u_shr rfl rfl rfl rfl (by omega)) rfl ?_)
      refine as_ rfl rfl (as_ rfl rfl (l_nil (x_then (e_ret ?_))))
      have hA : (Q1 * 4294967296 % U + Q0) % U = (h * U + l) / y := by rw [← shift_div _ y s, ← hD, ← hYe, hd1]; simp only [U]; omega
      have hB : ((t * 4294967296 % U + v0) % U + (U - (Q0 * Y) % U)) % U / 2 ^ s = (h * U + l) % y := by rw [← shift_mod _ y s, ← hD, ← hYe, hd2, hQ0, dv_rem' hY0 hYU]
      exact x_end (.inl rfl) hsc () _ (fun a w hs => res2 hs Try.results87 rfl rfl) (by rw [hA, hB]) trivial rfl give_nil
theorem nat_small (v : Value) (x d : Nat) (hx : bl x ≤ 8589934592) (hd : 0 < d) (hdU : d < U) : Cal Try.prog 85 #[v, .int .u64 (d : Int)] [dgp v x] false (G := Value) (fun r => True) (fun r => .tuple #[r, .int .u64 ((x % d : Nat) : Int)]) (fun r => [dgp r (x / d)]) := by
 refine cal_in Try.func85 rfl Try.ntmps85 rfl ⟨rfl, trivial⟩ ?_
 intro w0 sc hw hsc
 simp only [enumEnv, enumPre]
 have hX := lenU_bl x
 refine e_seq (e_reg (as_ rfl rfl (as_ rfl rfl (l_nil (x_then (e_seq (e_reg (mv rfl rfl (dt (d_len rfl rfl (i := 1) rfl rd_slp Try.underlying83) rfl ?_)))))))))
 refine tt (t_mkn (i := 2) (n := (dg U x).length) (by_ := 8) (enc := encU) 0 rfl rfl rfl rfl rfl (by omega) Try.underlying83 Try.ti81 rfl pU.cells pU.pos rfl rfl (by omega) (by decide) rfl hw) rfl (fun v _ => ?_)
 refine as_ rfl rfl (l_nil (x_then (e_seq (e_reg (as_ rfl rfl (l_nil (x_then (e_seq (e_seq (e_reg (mv rfl rfl (dt (d_len rfl rfl (i := 1) rfl rd_slp Try.underlying83) rfl ?_))))))))))))
 refine dt (d_sub rfl rfl rfl ⟨by omega, by omega⟩) rfl ?_
 refine as_ rfl rfl (l_nil (x_then (e_block (e_lp [(0, _), (1, _), (6, _)] [(0, _), (1, _)] (fun (q : Nat × List Nat × Nat) => [(8, .int .i64 ((q.1 : Int) - 1)), (7, .int .u64 (q.2.2 : Int))]) (fun (q : Nat × List Nat × Nat) => [(2, osl 1 81 encU v q.2.1)]) (fun (q : Nat × List Nat × Nat) => (q.1 ≤ (dg U x).length) ∧ (q.2.1.length = (dg U x).length) ∧ (q.2.2 < d) ∧ (∀ d ∈ q.2.1, d < U) ∧ (val U (q.2.1.drop q.1) * d + q.2.2 = val U ((dg U x).drop q.1))) (fun (q : Nat × List Nat × Nat) => q.1) ((dg U x).length, List.replicate (dg U x).length 0, 0) ⟨Nat.le_refl _, by simp, by first | omega | (dsimp only <;> omega), all_replicate _ U_pos, by simp [val]⟩ ⟨rfl, rfl, rfl, rfl, rfl, trivial⟩ ⟨rfl, rfl, rfl, trivial⟩ ?_))))
 rintro ⟨k, o, r⟩ ⟨hk, hol, hr, hall, hv⟩
 dsimp only at hk hol hr hall hv
 simp only [List.cons_append, List.nil_append]
 refine e_seq (e_seq (e_reg (mv rfl rfl (dt (d_geq rfl rfl rfl) rfl ?_))))
 refine l_nil (x_then (e_cond rfl (fun h158 => ?_) (fun h158 => ?_)))
 ·refine e_skip ?_
  refine x_then (e_seq (e_block (e_reg (mv rfl rfl (mv rfl rfl (mv rfl rfl (mv rfl rfl (mv rfl rfl (dt (d_ixa (ii := 1) (i := k - 1) rfl rfl rfl rfl rd_slp Try.underlying83 Try.sizeOf81 (by omega) (by omega)) rfl ?_)))))))))
  refine dt (d_lde (ii := 1) 0 rfl rfl rfl rd_slp pU (by first | omega | (simp only [List.length_set]; omega))) rfl ?_
  refine mv rfl rfl (tt (t_call (n := 2) (bits_div _ _ _ (getD_lt U_pos (dg_lt two_U _) _) hdU hr) rfl rfl rfl ⟨rfl, rfl, rfl, trivial⟩ Try.call87 pre_nil rfl hw) rfl (fun _ _ => ?_))
  refine mv rfl rfl (dt (d_ex rfl rfl rfl) rfl ?_)
  refine dt (d_ex rfl rfl rfl) rfl ?_
  refine dt (d_ixa (ii := 2) (i := k - 1) rfl rfl rfl rfl (rd_osl pU) Try.underlying83 Try.sizeOf81 (by omega) (by omega)) rfl ?_
  refine tt (t_ste (i := 2) (enc := encU) _ rfl rfl rfl rfl rfl rfl (by decide) pU (by first | omega | (simp only [List.length_set]; omega)) rfl hw) rfl (fun _ _ => ?_)
  refine as_ rfl rfl (l_nil (x_bn ?_))
  refine x_then (e_reg (mv rfl rfl (dt (d_sub rfl rfl rfl ⟨by omega, by omega⟩) rfl ?_)))
  refine as_ rfl rfl (l_nil ?_)
  exact x_rnd (k - 1, _, _) ⟨by first | omega | (dsimp only <;> omega), by simp; omega, Nat.mod_lt _ hd, all_set hall _ _ (dv_digit (getD_lt U_pos (dg_lt two_U x) _) hr), small_step hd (by omega) (by omega) (by rw [show k - 1 + 1 = k by omega]; exact hv)⟩ (by first | omega | (dsimp only <;> omega)) ⟨by rw [show (((k - 1 : Nat) : Int) - 1) = (k : Int) - 1 - 1 by omega]; rfl, rfl, rfl, rfl, rfl, trivial⟩ ⟨rfl, rfl, rfl, trivial⟩
 ·refine e_exit ?_
  refine x_exit (x_exit (x_be ?_))
  refine x_then (e_seq (e_reg (mv rfl rfl (tt (t_call (n := 2) (nat_trim_own _ _) rfl rfl rfl ⟨rfl, trivial⟩ Try.call55 (pre_lend 2 rfl rfl pU pre_nil) rfl hw) rfl (fun _ _ => ?_)))))
  refine l_imp (s_tz 2 rfl rfl pU) ?_
  refine mv rfl rfl (as_ rfl rfl (as_ rfl rfl (l_nil (x_then (e_ret ?_)))))
  obtain rfl : k = 0 := by omega
  rw [List.drop_zero, List.drop_zero, val_dg two_U] at hv
  have hq : tz o = dg U (x / d) := by
   rw [← dg_val two_U _ hall, ← hv, Nat.mul_comm, Nat.mul_add_div hd, Nat.div_eq_of_lt hr, Nat.add_zero]
  have hm : r = x % d := by rw [← hv, Nat.mul_comm, Nat.mul_add_mod, Nat.mod_eq_of_lt hr]
  exact x_end (.inl rfl) hsc _ _ (fun a w hs => res2 hs Try.results85 rfl rfl) (by rw [hm]) trivial rfl (give_owne 2 rfl rfl pU hq give_nil)
theorem nat_shl (v : Value) (x s : Nat) (hx : bl x ≤ 4294967296) (hs : s ≤ 4294967296) : Cal Try.prog 86 #[v, .int .i64 (s : Int)] [dgp v x] false (G := Value) (fun r => True) (fun r => r) (fun r => [dgp r (x * 2 ^ s)]) := by
 refine cal_in Try.func86 rfl Try.ntmps86 rfl ⟨rfl, trivial⟩ ?_
 intro w0 sc hw hsc
 simp only [enumEnv, enumPre]
 obtain ⟨w, hwe⟩ : ∃ w, w = s / 64 := ⟨_, rfl⟩
 obtain ⟨b, hbe⟩ : ∃ b, b = s % 64 := ⟨_, rfl⟩
 have hX := lenU_bl x
 refine e_seq (e_reg (as_ rfl rfl (l_nil (x_then (e_seq (e_seq (e_reg (mv rfl rfl (dt (d_len rfl rfl (i := 1) rfl rd_slp Try.underlying83) rfl ?_)))))))))
 refine dt (d_eql rfl rfl rfl) rfl ?_
 refine l_nil (x_then (e_cond rfl (fun h122 => ?_) (fun h122 => ?_)))
 ·refine e_seq (e_reg (as_ rfl rfl (l_nil (x_then (e_ret (x_ret ?_))))))
  refine x_imp (s_nil 9 1 81 encU) ?_
  have hx0 : x = 0 := (dg_nil_iff two_U x).1 (by omega)
  exact x_end (.inl rfl) hsc (.slice none 0 0) _ (fun a w hs => res1 hs Try.results86 rfl) rfl trivial rfl (give_owne 9 rfl rfl pU (by rw [hx0, Nat.zero_mul]; rfl) give_nil)
 ·refine e_skip ?_
  refine x_then (e_seq (e_reg (mv rfl rfl (dt (d_quo rfl rfl rfl (by omega) (by omega) (by omega)) rfl ?_))))
  refine mv rfl rfl (dt (d_rem rfl rfl rfl (by omega) (by omega)) rfl ?_)
  refine as_ rfl rfl (as_ rfl rfl (l_nil (x_then (e_seq (e_imp (s_val 5 (v' := .int .i64 (w : Int)) rfl (by congr 1; omega)) ?_)))))
  refine e_imp (s_val 6 (v' := .int .i64 (b : Int)) rfl (by congr 1; omega)) ?_
  refine e_reg (mv rfl rfl (dt (d_len rfl rfl (i := 1) rfl rd_slp Try.underlying83) rfl ?_))
  refine mv rfl rfl (dt (d_add rfl rfl rfl ⟨by omega, by omega⟩) rfl ?_)
  refine dt (d_add rfl rfl rfl ⟨by omega, by omega⟩) rfl ?_
  refine tt (t_mkn (i := 2) (n := (dg U x).length + w + 1) (by_ := 8) (enc := encU) 0 rfl rfl rfl rfl rfl (by omega) Try.underlying83 Try.ti81 rfl pU.cells pU.pos rfl rfl (by omega) (by decide) rfl hw) rfl (fun v _ => ?_)
  refine as_ rfl rfl (l_nil (x_then (e_seq (e_seq (e_reg (mv rfl rfl (dt (d_len rfl rfl (i := 1) rfl rd_slp Try.underlying83) rfl ?_)))))))
  refine mv rfl rfl (l_nil (x_then (e_block (e_lp [(5, _), (6, _), (7, _), (23, _), (24, _)] [(0, _), (1, _)] (fun (q : Nat × List Nat) => [(25, .int .i64 (q.1 : Int))]) (fun (q : Nat × List Nat) => [(2, osl 1 81 encU v q.2)]) (fun (q : Nat × List Nat) => (q.1 ≤ (dg U x).length) ∧ (q.2.length = (dg U x).length + w + 1) ∧ (q.2.getD (w + q.1) 0 < 2 ^ b) ∧ (∀ j, w + q.1 < j → q.2.getD j 0 = 0) ∧ (∀ d ∈ q.2, d < U) ∧ (val U (q.2.take ((dg U x).length + w + 1)) = val U ((dg U x).take q.1) * 2 ^ b * U ^ w)) (fun (q : Nat × List Nat) => (dg U x).length - q.1) (0, List.replicate ((dg U x).length + w + 1) 0) ⟨by first | omega | (dsimp only <;> omega), by simp, by rw [getD_replicate]; exact Nat.two_pow_pos b, fun j _ => getD_replicate _ j, all_replicate _ U_pos, by rw [List.take_replicate, val_replicate]; simp [val]⟩ ⟨rfl, rfl, rfl, rfl, rfl, rfl, trivial⟩ ⟨rfl, rfl, rfl, trivial⟩ ?_))))
  rintro ⟨i, o⟩ ⟨hi, hol, hc, hz, hall, hv⟩
  dsimp only at hi hol hc hz hall hv
  simp only [List.cons_append, List.nil_append]
  have hst : i < (dg U x).length → _ := fun hlt => shl_step (xs := dg U x) (show b ≤ 63 by omega) hol.symm (show w + i + 1 < _ by omega) hc (hz (w + i + 1) (by omega)) (getD_lt U_pos (dg_lt two_U x) i) hv
  refine e_seq (e_reg (dt (d_lss rfl rfl rfl) rfl ?_))
  refine l_nil (x_then (e_seq (e_cond rfl (fun h127 => ?_) (fun h127 => ?_))))
  ·refine e_skip ?_
   refine x_then (e_seq (e_block (e_seq (e_reg (mv rfl rfl (dt (d_ixa (ii := 1) rfl rfl rfl rfl rd_slp Try.underlying83 Try.sizeOf81 rfl (by first | omega | (simp only [List.length_set]; omega))) rfl ?_))))))
   refine dt (d_lde (ii := 1) 0 rfl rfl rfl rd_slp pU (by first | omega | (simp only [List.length_set]; omega))) rfl ?_
   refine as_ rfl rfl (as_ rfl rfl (l_nil (x_then (e_seq ?_))))
   have hX1 := getD_lt U_pos (dg_lt two_U x) i
   refine e_dreg (fun _ => False) [(0, 0), (1, 0), (2, 0), (3, 0), (4, 0), (5, 0), (6, 0), (7, 0), (8, 0), (9, 0), (10, 0), (11, 3)] (by kernel_rfl) ?_ ?_
   ·kernel_rfl
   refine r0' rfl rfl rfl rfl (st0 (d_mv rfl rfl)) ?_
   refine r0' rfl rfl rfl rfl (st0 (d_mv rfl rfl)) ?_
   refine r0' rfl rfl rfl rfl (st0 (d_mv rfl rfl)) ?_
   refine r0' rfl rfl rfl rfl (st0 (d_add rfl rfl rfl ⟨by omega, by omega⟩)) ?_
   refine r0' rfl rfl rfl rfl (st0 (d_ixa (ii := 2) (i := w + i) rfl rfl rfl rfl (rd_osl pU) Try.underlying83 Try.sizeOf81 (by omega) (by omega))) ?_
   refine r0' rfl rfl rfl rfl (st0 (d_lde (ii := 2) 0 rfl rfl rfl (rd_osl pU) pU (by first | omega | (simp only [List.length_set]; omega)))) ?_
   refine r0' rfl rfl rfl rfl (st0 (d_mv rfl rfl)) ?_
   refine r0' rfl rfl rfl rfl (st0 (d_mv rfl rfl)) ?_
   refine r0' rfl rfl rfl rfl (st0 (u_shl rfl rfl (n := b) rfl rfl (by omega))) ?_
   refine r0' rfl rfl rfl rfl (st0 (u_or rfl rfl rfl (getD_lt U_pos hall _) (Nat.mod_lt _ U_pos))) ?_
   refine r0' rfl rfl rfl rfl (st0 (d_ixa (ii := 2) (i := w + i) rfl rfl rfl rfl (rd_osl pU) Try.underlying83 Try.sizeOf81 (by omega) (by omega))) ?_
   refine r3' rfl rfl (t_ste (i := 2) (enc := encU) _ rfl rfl rfl rfl rfl rfl (by decide) pU (by first | omega | (simp only [List.length_set]; omega)) rfl hw) (fun _ _ => ?_)
   refine r_end ?_
   refine x_then (e_seq (e_reg (mv rfl rfl (dt (d_gtr rfl rfl rfl) rfl ?_))))
   refine l_nil (x_then (e_cond rfl (fun h129 => ?_) (fun h129 => ?_)))
   ·have hal2 := all_set (all_set hall (w + i) (o.getD (w + i) 0 ||| (dg U x).getD i 0 * 2 ^ b % U) (Nat.or_lt_two_pow (n := 64) (getD_lt U_pos hall _) (Nat.mod_lt _ U_pos))) (w + i + 1) ((dg U x).getD i 0 / 2 ^ (64 - b)) (Nat.lt_of_le_of_lt (Nat.div_le_self _ _) hX1)
    have hc2 : ((o.set (w + i) (o.getD (w + i) 0 ||| (dg U x).getD i 0 * 2 ^ b % U)).set (w + i + 1) ((dg U x).getD i 0 / 2 ^ (64 - b))).getD (w + i + 1) 0 < 2 ^ b := by
     rw [getD_set _ _ _ _ _ (by simp; omega), if_pos rfl]; exact div_pow_lt (by omega) hX1
    have hz2 : ∀ j, w + i + 1 < j → ((o.set (w + i) (o.getD (w + i) 0 ||| (dg U x).getD i 0 * 2 ^ b % U)).set (w + i + 1) ((dg U x).getD i 0 / 2 ^ (64 - b))).getD j 0 = 0 := fun j hj => by
     rw [getD_set _ _ _ _ _ (by simp; omega), if_neg (by omega), getD_set _ _ _ _ _ (by omega), if_neg (by omega)]; exact hz j (by omega)
    have hv2 := hst (by omega)
    refine e_reg (mv rfl rfl (mv rfl rfl (mv rfl rfl (dt (d_add rfl rfl rfl ⟨by omega, by omega⟩) rfl ?_))))
    refine dt (d_add rfl rfl rfl ⟨by omega, by omega⟩) rfl ?_
    refine mv rfl rfl (mv rfl rfl (dt (d_sub rfl rfl rfl ⟨by omega, by omega⟩) rfl ?_))
    refine dt (u_shr rfl rfl (n := 64 - b) rfl (by omega) (by omega)) rfl ?_
    refine dt (d_ixa (ii := 2) (i := w + i + 1) rfl rfl rfl rfl (rd_osl pU) Try.underlying83 Try.sizeOf81 (by omega) (by simp only [List.length_set]; omega)) rfl ?_
    refine tt (t_ste (i := 2) (enc := encU) _ rfl rfl rfl rfl rfl rfl (by decide) pU (by simp only [List.length_set]; omega) rfl hw) rfl (fun _ _ => ?_)
    refine l_nil (x_bn ?_)
    refine x_then (e_reg (dt (d_add rfl rfl rfl ⟨by omega, by omega⟩) rfl ?_))
    refine mv rfl rfl (l_nil ?_)
    exact x_rnd (i + 1, _) ⟨by first | omega | (dsimp only <;> omega), by simp; omega, by dsimp only; rw [show w + (i + 1) = w + i + 1 by omega]; exact hc2, fun j hj => by have hj2 : w + (i + 1) < j := hj; dsimp only; exact hz2 j (by omega), hal2, hv2⟩ (by first | omega | (dsimp only <;> omega)) ⟨rfl, rfl, rfl, rfl, rfl, rfl, trivial⟩ ⟨rfl, rfl, rfl, trivial⟩
   ·obtain rfl : b = 0 := by omega
    have hal2 := all_set hall (w + i) (o.getD (w + i) 0 ||| (dg U x).getD i 0 * 2 ^ 0 % U) (Nat.or_lt_two_pow (n := 64) (getD_lt U_pos hall _) (Nat.mod_lt _ U_pos))
    have hc2 : (o.set (w + i) (o.getD (w + i) 0 ||| (dg U x).getD i 0 * 2 ^ 0 % U)).getD (w + i + 1) 0 < 2 ^ 0 := by
     rw [getD_set _ _ _ _ _ (by omega), if_neg (by omega), hz _ (by omega)]; exact Nat.two_pow_pos 0
    have hz2 : ∀ j, w + i + 1 < j → (o.set (w + i) (o.getD (w + i) 0 ||| (dg U x).getD i 0 * 2 ^ 0 % U)).getD j 0 = 0 := fun j hj => by
     rw [getD_set _ _ _ _ _ (by omega), if_neg (by omega)]; exact hz j (by omega)
    have hv2 := hst (by omega)
    rw [show (dg U x).getD i 0 / 2 ^ (64 - 0) = 0 from Nat.div_eq_of_lt hX1] at hv2
    have hsame := set_getD_zero (o.set (w + i) (o.getD (w + i) 0 ||| (dg U x).getD i 0 * 2 ^ 0 % U)) (w + i + 1) (by rw [getD_set _ _ _ _ _ (by omega), if_neg (by omega), hz _ (by omega)])
    rw [hsame] at hv2
    refine e_skip ?_
    refine x_bn ?_
    refine x_then (e_reg (dt (d_add rfl rfl rfl ⟨by omega, by omega⟩) rfl ?_))
    refine mv rfl rfl (l_nil ?_)
    exact x_rnd (i + 1, _) ⟨by first | omega | (dsimp only <;> omega), by simp; omega, by dsimp only; rw [show w + (i + 1) = w + i + 1 by omega]; exact hc2, fun j hj => by have hj2 : w + (i + 1) < j := hj; dsimp only; exact hz2 j (by omega), hal2, hv2⟩ (by first | omega | (dsimp only <;> omega)) ⟨rfl, rfl, rfl, rfl, rfl, rfl, trivial⟩ ⟨rfl, rfl, rfl, trivial⟩
  ·refine e_exit ?_
   refine x_exit (x_exit (x_be ?_))
   refine x_then (e_seq (e_reg (mv rfl rfl (tt (t_call (n := 2) (nat_trim_own _ _) rfl rfl rfl ⟨rfl, trivial⟩ Try.call55 (pre_lend 2 rfl rfl pU pre_nil) rfl hw) rfl (fun _ _ => ?_)))))
   refine l_imp (s_tz 2 rfl rfl pU) ?_
   refine as_ rfl rfl (l_nil (x_then (e_ret ?_)))
   obtain rfl : i = (dg U x).length := by omega
   have hx2 : tz o = dg U (x * 2 ^ s) := by
    rw [← dg_val two_U _ hall]
    congr 1
    rw [val_take_all U o _ (by omega), List.take_of_length_le (Nat.le_refl _), val_dg two_U, U_pow2, Nat.mul_assoc, ← Nat.pow_add, show b + 64 * w = s by omega] at hv
    exact hv
   exact x_end (.inl rfl) hsc _ _ (fun a w hs => res1 hs Try.results86 rfl) rfl trivial rfl (give_owne 2 rfl rfl pU hx2 give_nil)
theorem nat_shr (v : Value) (x s : Nat) (hx : bl x ≤ 8589934592) (hs : s ≤ 8589934592) : Cal Try.prog 88 #[v, .int .i64 (s : Int)] [dgp v x] false (G := Value) (fun r => True) (fun r => r) (fun r => [dgp r (x / 2 ^ s)]) := by
 refine cal_in Try.func88 rfl Try.ntmps88 rfl ⟨rfl, trivial⟩ ?_
 intro w0 sc hw hsc
 simp only [enumEnv, enumPre]
 obtain ⟨w, hwe⟩ : ∃ w, w = s / 64 := ⟨_, rfl⟩
 obtain ⟨b, hbe⟩ : ∃ b, b = s % 64 := ⟨_, rfl⟩
 have hX := lenU_bl x
 have hdl : ((dg U x).drop w).length = (dg U x).length - w := List.length_drop
 refine e_seq (e_reg (as_ rfl rfl (l_nil (x_then (e_seq (e_reg (mv rfl rfl (dt (d_quo rfl rfl rfl (by omega) (by omega) (by omega)) rfl ?_))))))))
 refine mv rfl rfl (dt (d_rem rfl rfl rfl (by omega) (by omega)) rfl ?_)
 refine as_ rfl rfl (as_ rfl rfl (l_nil (x_then (e_seq (e_seq (e_imp (s_val 5 (v' := .int .i64 (w : Int)) rfl (by congr 1; omega)) ?_))))))
 refine e_imp (s_val 6 (v' := .int .i64 (b : Int)) rfl (by congr 1; omega)) ?_
 refine e_reg (mv rfl rfl (mv rfl rfl (dt (d_len rfl rfl (i := 1) rfl rd_slp Try.underlying83) rfl ?_)))
 refine dt (d_geq rfl rfl rfl) rfl ?_
 refine l_nil (x_then (e_cond rfl (fun h139 => ?_) (fun h139 => ?_)))
 ·refine e_seq (e_reg (as_ rfl rfl (l_nil (x_then (e_ret (x_ret ?_))))))
  refine x_imp (s_nil 9 1 81 encU) ?_
  have hx0 : x / 2 ^ s = 0 := by
   rw [shr_split hwe hbe, Nat.div_eq_of_lt ((dg_length_le two_U w x).1 (by omega)), Nat.zero_div]
  exact x_end (.inl rfl) hsc (.slice none 0 0) _ (fun a w hs => res1 hs Try.results88 rfl) rfl trivial rfl (give_owne 9 rfl rfl pU (by rw [hx0]; rfl) give_nil)
 ·refine e_skip ?_
  refine x_then (e_seq (e_reg (mv rfl rfl (mv rfl rfl (dt (d_suf (ii := 1) (i := w) rfl rfl rfl rfl rd_slp Try.underlying83 Try.sizeOf81 (by omega) (by omega)) rfl ?_)))))
  refine l_imp (s_suf 1 2 (w) rfl rfl (by omega)) ?_
  refine tt (t_callo (n := 3) (clone_nat _ _ (by simp only [List.length_drop]; omega)) rfl rfl rfl ⟨rfl, trivial⟩ Try.call93 (pre_same 2 rfl rfl rfl pre_nil) rfl hw) rfl (fun v _ => ?_)
  refine as_ rfl rfl (l_nil (x_then (e_jn [(7, _)] [(0, _), (1, _), (2, _)] (fun (o : List Nat) => []) (fun (o : List Nat) => [(3, osl 1 81 encU v o)]) (fun (o : List Nat) => (o.length = (dg U x).length - w) ∧ (∀ j, j < o.length → o.getD j 0 = x / 2 ^ s / U ^ j % U)) ⟨rfl, trivial⟩ ⟨rfl, rfl, rfl, trivial⟩ ?_ ?_)))
  ·refine e_seq (e_reg (mv rfl rfl (dt (d_gtr rfl rfl rfl) rfl ?_)))
   refine l_nil (x_then (e_cond rfl (fun h143 => ?_) (fun h143 => ?_)))
   ·refine e_seq (e_reg (mv rfl rfl (dt (d_len rfl rfl (i := 3) rfl (rd_osl pU) Try.underlying83) rfl ?_)))
    refine mv rfl rfl (l_nil (x_then (e_block (e_lp [(0, _), (5, _), (6, _), (7, _), (24, _)] [(0, _), (1, _), (2, _)] (fun (q : Nat × List Nat) => [(25, .int .i64 (q.1 : Int))]) (fun (q : Nat × List Nat) => [(3, osl 1 81 encU v q.2)]) (fun (q : Nat × List Nat) => (q.1 ≤ (dg U x).length - w) ∧ (q.2.length = (dg U x).length - w) ∧ (∀ j, j < q.1 → q.2.getD j 0 = x / 2 ^ s / U ^ j % U) ∧ (∀ j, q.1 ≤ j → q.2.getD j 0 = x / U ^ w / U ^ j % U) ∧ (∀ d ∈ q.2, d < U)) (fun (q : Nat × List Nat) => (dg U x).length - w - q.1) (0, (dg U x).drop w) ⟨Nat.zero_le _, by simp, fun j hj => absurd hj (Nat.not_lt_zero j), fun j _ => drop_dg x w j, fun d hd => dg_lt two_U x d (List.mem_of_mem_drop hd)⟩ ⟨rfl, rfl, rfl, rfl, rfl, rfl, trivial⟩ ⟨rfl, rfl, rfl, rfl, trivial⟩ ?_))))
    rintro ⟨i, o⟩ ⟨hi, hol, hlo, hhi, hall⟩
    dsimp only at hi hol hlo hhi hall
    simp only [List.cons_append, List.nil_append]
    refine e_seq (e_reg (dt (d_lss rfl rfl rfl) rfl ?_))
    refine l_nil (x_then (e_seq (e_cond rfl (fun h144 => ?_) (fun h144 => ?_))))
    ·refine e_skip ?_
     refine x_then (e_seq (e_block (e_seq (e_reg (mv rfl rfl (as_ rfl rfl (l_nil (x_then (e_seq (e_reg (mv rfl rfl (mv rfl rfl (dt (d_ixa (ii := 3) rfl rfl rfl rfl (rd_osl pU) Try.underlying83 Try.sizeOf81 rfl (by first | omega | (simp only [List.length_set]; omega))) rfl ?_)))))))))))))
     refine dt (d_lde (ii := 3) 0 rfl rfl rfl (rd_osl pU) pU (by first | omega | (simp only [List.length_set]; omega))) rfl ?_
     refine mv rfl rfl (dt (u_shr rfl rfl (n := b) rfl rfl (by omega)) rfl ?_)
     refine dt (d_ixa (ii := 3) rfl rfl rfl rfl (rd_osl pU) Try.underlying83 Try.sizeOf81 rfl (by first | omega | (simp only [List.length_set]; omega))) rfl ?_
     refine tt (t_ste (i := 3) (enc := encU) _ rfl rfl rfl rfl rfl rfl (by decide) pU (by first | omega | (simp only [List.length_set]; omega)) rfl hw) rfl (fun _ _ => ?_)
     refine l_nil (x_then (e_seq (e_reg (mv rfl rfl (dt (d_add rfl rfl rfl ⟨by omega, by omega⟩) rfl ?_)))))
     refine mv rfl rfl (dt (d_len rfl rfl (i := 3) rfl (rd_osl pU) Try.underlying83) rfl ?_)
     refine dt (d_lss rfl rfl rfl) rfl ?_
     refine l_nil (x_then (e_cond rfl (fun h146 => ?_) (fun h146 => ?_)))
     ·simp only [List.length_set] at h146
      have hnew : ∀ j, ((o.set i (o.getD i 0 / 2 ^ b)).set i ((o.set i (o.getD i 0 / 2 ^ b)).getD i 0 ||| ((dg U x).getD (w + i + 1) 0 * 2 ^ (64 - b)) % U)).getD j 0 = if i = j then x / 2 ^ s / U ^ i % U else o.getD j 0 := fun j => by
       rw [getD_set _ _ _ _ _ (by simp; omega), getD_set _ _ _ _ _ (by omega), getD_set _ _ _ _ _ (by omega)]
       split
       ·rw [if_pos rfl, hhi i (Nat.le_refl _), dg_getD two_U, shr_split hwe hbe, div_swap, show x / U ^ (w + i + 1) = x / U ^ w / U ^ i / U by rw [Nat.div_div_eq_div_mul, Nat.div_div_eq_div_mul, ← Nat.pow_succ, ← Nat.pow_add]; rfl, shr_word _ _ (by omega)]
       ·rfl
      have hal2 := all_set (all_set hall i (o.getD i 0 / 2 ^ b) (Nat.lt_of_le_of_lt (Nat.div_le_self _ _) (getD_lt U_pos hall _))) i ((o.set i (o.getD i 0 / 2 ^ b)).getD i 0 ||| ((dg U x).getD (w + i + 1) 0 * 2 ^ (64 - b)) % U) (Nat.or_lt_two_pow (n := 64) (getD_lt U_pos (all_set hall _ _ (Nat.lt_of_le_of_lt (Nat.div_le_self _ _) (getD_lt U_pos hall _))) _) (Nat.mod_lt _ U_pos))
      refine e_dreg (fun _ => False) [(0, 0), (1, 0), (2, 0), (3, 0), (4, 0), (5, 0), (6, 0), (7, 0), (8, 0), (9, 0), (10, 0), (11, 0), (12, 0), (13, 0), (14, 0), (15, 0), (16, 3)] (by kernel_rfl) ?_ ?_
      ·kernel_rfl
      refine r0' rfl rfl rfl rfl (st0 (d_mv rfl rfl)) ?_
      refine r0' rfl rfl rfl rfl (st0 (d_mv rfl rfl)) ?_
      refine r0' rfl rfl rfl rfl (st0 (d_ixa (ii := 3) rfl rfl rfl rfl (rd_osl pU) Try.underlying83 Try.sizeOf81 rfl (by first | omega | (simp only [List.length_set]; omega)))) ?_
      refine r0' rfl rfl rfl rfl (st0 (d_lde (ii := 3) 0 rfl rfl rfl (rd_osl pU) pU (by first | omega | (simp only [List.length_set]; omega)))) ?_
      refine r0' rfl rfl rfl rfl (st0 (d_mv rfl rfl)) ?_
      refine r0' rfl rfl rfl rfl (st0 (d_mv rfl rfl)) ?_
      refine r0' rfl rfl rfl rfl (st0 (d_mv rfl rfl)) ?_
      refine r0' rfl rfl rfl rfl (st0 (d_add rfl rfl rfl ⟨by omega, by omega⟩)) ?_
      refine r0' rfl rfl rfl rfl (st0 (d_add rfl rfl rfl ⟨by omega, by omega⟩)) ?_
      refine r0' rfl rfl rfl rfl (st0 (d_ixa (ii := 1) (i := w + i + 1) rfl rfl rfl rfl rd_slp Try.underlying83 Try.sizeOf81 (by omega) (by first | omega | (simp only [List.length_set]; omega)))) ?_
      refine r0' rfl rfl rfl rfl (st0 (d_lde (ii := 1) 0 rfl rfl rfl rd_slp pU (by first | omega | (simp only [List.length_set]; omega)))) ?_
      refine r0' rfl rfl rfl rfl (st0 (d_mv rfl rfl)) ?_
      refine r0' rfl rfl rfl rfl (st0 (d_sub rfl rfl rfl ⟨by omega, by omega⟩)) ?_
      refine r0' rfl rfl rfl rfl (st0 (u_shl rfl rfl (n := 64 - b) rfl (by omega) (by omega))) ?_
      refine r0' rfl rfl rfl rfl (st0 (u_or rfl rfl rfl (getD_lt U_pos (all_set hall _ _ (Nat.lt_of_le_of_lt (Nat.div_le_self _ _) (getD_lt U_pos hall _))) _) (Nat.mod_lt _ U_pos))) ?_
      refine r0' rfl rfl rfl rfl (st0 (d_ixa (ii := 3) rfl rfl rfl rfl (rd_osl pU) Try.underlying83 Try.sizeOf81 rfl (by first | omega | (simp only [List.length_set]; omega)))) ?_
      refine r3' rfl rfl (t_ste (i := 3) (enc := encU) _ rfl rfl rfl rfl rfl rfl (by decide) pU (by first | omega | (simp only [List.length_set]; omega)) rfl hw) (fun _ _ => ?_)
      refine r_end ?_
      refine x_bn ?_
      refine x_then (e_reg (dt (d_add rfl rfl rfl ⟨by omega, by omega⟩) rfl ?_))
      refine mv rfl rfl (l_nil ?_)
      exact x_rnd (i + 1, _) ⟨by first | omega | (dsimp only <;> omega), by simp; omega, fun j hj => by dsimp only; rw [hnew j]; split; (· rename_i e; rw [← e]); exact hlo j (by have : j < i + 1 := hj; omega), fun j hj => by dsimp only; rw [hnew j, if_neg (by have : i + 1 ≤ j := hj; omega)]; exact hhi j (by have : i + 1 ≤ j := hj; omega), hal2⟩ (by first | omega | (dsimp only <;> omega)) ⟨rfl, rfl, rfl, rfl, rfl, rfl, trivial⟩ ⟨rfl, rfl, rfl, rfl, trivial⟩
     ·have hnew : ∀ j, (o.set i (o.getD i 0 / 2 ^ b)).getD j 0 = if i = j then x / 2 ^ s / U ^ i % U else o.getD j 0 := fun j => by
       rw [getD_set _ _ _ _ _ (by omega)]
       split
       ·rw [hhi i (Nat.le_refl _), shr_split hwe hbe, div_swap, shr_word0 _ _ (by omega)]
        rw [Nat.div_div_eq_div_mul, ← Nat.pow_succ]
        exact Nat.div_eq_of_lt (len_top (by simp only [List.length_set] at h146; omega))
       ·rfl
      have hal2 := all_set hall i (o.getD i 0 / 2 ^ b) (Nat.lt_of_le_of_lt (Nat.div_le_self _ _) (getD_lt U_pos hall _))
      refine e_skip ?_
      refine x_bn ?_
      refine x_then (e_reg (dt (d_add rfl rfl rfl ⟨by omega, by omega⟩) rfl ?_))
      refine mv rfl rfl (l_nil ?_)
      exact x_rnd (i + 1, _) ⟨by first | omega | (dsimp only <;> omega), by simp; omega, fun j hj => by dsimp only; rw [hnew j]; split; (· rename_i e; rw [← e]); exact hlo j (by have : j < i + 1 := hj; omega), fun j hj => by dsimp only; rw [hnew j, if_neg (by have : i + 1 ≤ j := hj; omega)]; exact hhi j (by have : i + 1 ≤ j := hj; omega), hal2⟩ (by first | omega | (dsimp only <;> omega)) ⟨rfl, rfl, rfl, rfl, rfl, rfl, trivial⟩ ⟨rfl, rfl, rfl, rfl, trivial⟩
    ·refine e_exit ?_
     refine x_exit (x_exit (x_be ?_))
     exact x_jn _ ⟨by omega, by intro j hj; rw [hlo j (by omega)]⟩ ⟨rfl, trivial⟩ ⟨rfl, rfl, rfl, rfl, trivial⟩
   ·refine e_skip ?_
    exact x_jn _ ⟨by simp, by intro j hj; rw [drop_dg, shr_split hwe hbe, show b = 0 by omega, Nat.pow_zero, Nat.div_one]⟩ ⟨rfl, trivial⟩ ⟨rfl, rfl, rfl, rfl, trivial⟩
  ·rintro o ⟨hol, hv⟩
   simp only [List.cons_append, List.nil_append]
   refine e_seq (e_reg (mv rfl rfl (tt (t_call (n := 3) (nat_trim_own _ _) rfl rfl rfl ⟨rfl, trivial⟩ Try.call55 (pre_lend 3 rfl rfl pU pre_nil) rfl hw) rfl (fun _ _ => ?_))))
   refine l_imp (s_tz 3 rfl rfl pU) ?_
   refine as_ rfl rfl (l_nil (x_then (e_ret ?_)))
   have hx2 : tz o = dg U (x / 2 ^ s) := tz_of_getD two_U hv (by rw [hol, shr_split hwe hbe]; exact Nat.lt_of_le_of_lt (Nat.div_le_self _ _) (len_top (by omega)))
   exact x_end (.inl rfl) hsc _ _ (fun a w hs => res1 hs Try.results88 rfl) rfl trivial rfl (give_owne 3 rfl rfl pU hx2 give_nil)
theorem nat_store (v : Value) (x : Nat) (hx : bl x ≤ 4294967296) : Cal Try.prog 71 #[v] [dgp v x] false (G := Unit) (fun _ => True) (fun _ => .string (bstr x)) (fun _ => []) := by
 refine cal_in Try.func71 rfl Try.ntmps71 rfl ⟨rfl, trivial⟩ ?_
 intro w0 sc hw hsc
 simp only [enumEnv, enumPre]
 have hX := lenU_bl x
 have hL := len256 x
 have hW := lenU x
 have hrl : (List.replicate (dg 256 x).length (0 : Nat)).length = (dg 256 x).length := List.length_replicate
 refine e_seq (e_reg (as_ rfl rfl (l_nil (x_then (e_seq (e_reg (mv rfl rfl (tt (t_call (n := 1) (nat_size _ _ (by omega)) rfl rfl rfl ⟨rfl, trivial⟩ Try.call68 (pre_same 1 rfl rfl rfl pre_nil) rfl hw) rfl (fun _ _ => ?_)))))))))
 refine dt (d_add rfl rfl rfl ⟨by omega, by omega⟩) rfl ?_
 refine dt (d_quo rfl rfl rfl (by omega) (by omega) (by omega)) rfl ?_
 refine tt (t_mkn (i := 2) (n := (dg 256 x).length) (by_ := 1) (enc := encB) 0 rfl rfl rfl rfl rfl (by omega) Try.underlying48 Try.ti5 rfl pB.cells pB.pos rfl rfl (by omega) (by decide) rfl hw) rfl (fun v _ => ?_)
 refine as_ rfl rfl (l_nil (x_then (e_seq (e_seq (e_reg (mv rfl rfl (dt (d_len rfl rfl (i := 2) rfl (rd_osl pB) Try.underlying48) rfl ?_)))))))
 refine mv rfl rfl (l_nil (x_then (e_block (e_lp [(0, _), (3, _), (12, _)] [(0, _), (1, _)] (fun (q : Nat × List Nat) => [(13, .int .i64 (q.1 : Int))]) (fun (q : Nat × List Nat) => [(2, osl 1 5 encB v q.2)]) (fun (q : Nat × List Nat) => (q.1 ≤ (dg 256 x).length) ∧ (q.2.length = (dg 256 x).length) ∧ (∀ j, j < q.1 → q.2.getD j 0 = x / 256 ^ ((dg 256 x).length - 1 - j) % 256)) (fun (q : Nat × List Nat) => (dg 256 x).length - q.1) (0, List.replicate (dg 256 x).length 0) ⟨by first | omega | (dsimp only <;> omega), by simp, fun j hj => absurd hj (Nat.not_lt_zero j)⟩ ⟨rfl, rfl, rfl, rfl, trivial⟩ ⟨rfl, rfl, rfl, trivial⟩ ?_))))
 rintro ⟨i, o⟩ ⟨hi, hol, hov⟩
 dsimp only at hi hol hov
 simp only [List.cons_append, List.nil_append]
 refine e_seq (e_reg (dt (d_lss rfl rfl rfl) rfl ?_))
 refine l_nil (x_then (e_seq (e_cond rfl (fun h48 => ?_) (fun h48 => ?_))))
 ·refine e_skip ?_
  refine x_then (e_seq (e_block (e_seq (e_reg (mv rfl rfl (as_ rfl rfl (l_nil (x_then (e_seq (e_reg (mv rfl rfl (dt (d_len rfl rfl (i := 2) rfl (rd_osl pB) Try.underlying48) rfl ?_))))))))))))
  refine dt (d_sub rfl rfl rfl ⟨by omega, by omega⟩) rfl ?_
  refine mv rfl rfl (dt (d_sub rfl rfl rfl ⟨by omega, by omega⟩) rfl ?_)
  refine as_ rfl rfl (l_nil (x_then (e_imp (s_val 5 (v' := .int .i64 (((dg 256 x).length - 1 - i : Nat) : Int)) rfl (by congr 1; omega)) ?_)))
  have hbyte := byte_of_word x ((dg 256 x).length - 1 - i)
  rw [← dg_getD two_U] at hbyte
  refine e_reg (mv rfl rfl (mv rfl rfl (mv rfl rfl (mv rfl rfl (dt (d_quo rfl rfl rfl (by omega) (by omega) (by omega)) rfl ?_)))))
  refine dt (d_ixa (ii := 1) (i := ((dg 256 x).length - 1 - i) / 8) rfl rfl rfl rfl rd_slp Try.underlying83 Try.sizeOf81 (by omega) (by omega)) rfl ?_
  refine dt (d_lde (ii := 1) 0 rfl rfl rfl rd_slp pU (by omega)) rfl ?_
  refine mv rfl rfl (dt (d_rem rfl rfl rfl (by omega) (by omega)) rfl ?_)
  refine dt (d_mul rfl rfl rfl ⟨by omega, by omega⟩) rfl ?_
  refine dt (u_shr rfl rfl (n := ((dg 256 x).length - 1 - i) % 8 * 8) rfl (by omega) (by omega)) rfl ?_
  refine dt (cv_u8 rfl rfl Try.underlying81 Try.underlying5) rfl ?_
  refine dt (d_ixa (ii := 2) rfl rfl rfl rfl (rd_osl pB) Try.underlying48 Try.sizeOf5 rfl (by first | omega | (simp only [List.length_set]; omega))) rfl ?_
  refine tt (t_ste (i := 2) (enc := encB) _ rfl rfl rfl rfl rfl rfl (by decide) pB (by first | omega | (simp only [List.length_set]; omega)) rfl hw) rfl (fun _ _ => ?_)
  refine l_nil (x_bn ?_)
  refine x_then (e_reg (dt (d_add rfl rfl rfl ⟨by omega, by omega⟩) rfl ?_))
  refine mv rfl rfl (l_nil ?_)
  exact x_rnd (i + 1, _) ⟨by first | omega | (dsimp only <;> omega), by simp; omega, fun j hj => by dsimp only; rw [getD_set _ _ _ _ _ (by omega)]; split; (· rename_i e; rw [← e]; exact hbyte); exact hov j (by omega)⟩ (by first | omega | (dsimp only <;> omega)) ⟨rfl, rfl, rfl, rfl, trivial⟩ ⟨rfl, rfl, rfl, trivial⟩
 ·refine e_exit ?_
  refine x_exit (x_exit (x_be ?_))
  refine x_then (e_seq (e_reg (mv rfl rfl (dt (d_b2s rfl rfl (i := 2) rfl (rd_osl pB) Try.underlying48 Try.underlying9 Try.underlying5) rfl ?_))))
  refine as_ rfl rfl (l_nil (x_then (e_ret ?_)))
  have hb : bstr x = ⟨(o.map UInt8.ofNat).toArray⟩ := by
   have ho : o = (dg 256 x).reverse := by
    refine eq_of_getD (by simp; omega) (fun j hj => ?_)
    rw [hov j (by omega), getD_reverse _ _ _ (by omega), dg_getD (by omega)]
   rw [ho]; rfl
  exact x_end (.inl rfl) hsc () _ (fun a w hs => res1 hs Try.results71 rfl) (by rw [hb]) trivial rfl give_nil
theorem wide_load (x : Nat) (hx : bl x ≤ 4294967296) : Cal Try.prog 65 #[.string (bstr x)] [] false (G := Value) (fun r => True) (fun r => r) (fun r => [dgp r x]) := by
 refine cal_in Try.func65 rfl Try.ntmps65 rfl trivial ?_
 intro w0 sc hw hsc
 simp only [enumEnv, enumPre]
 have hX := lenU_bl x
 have hL := len256 x
 have hW := lenU x
 have hbs := bstr_size x
 refine e_seq (e_reg (as_ rfl rfl (l_nil (x_then (e_seq (e_reg (mv rfl rfl (dt (d_lens rfl rfl Try.underlying9) rfl ?_))))))))
 refine dt (d_add rfl rfl rfl ⟨by omega, by omega⟩) rfl ?_
 refine dt (d_quo rfl rfl rfl (by omega) (by omega) (by omega)) rfl ?_
 refine tt (t_mkn (i := 1) (n := (dg U x).length) (by_ := 8) (enc := encU) 0 rfl rfl rfl rfl rfl (by omega) Try.underlying83 Try.ti81 rfl pU.cells pU.pos rfl rfl (by omega) (by decide) rfl hw) rfl (fun v _ => ?_)
 refine as_ rfl rfl (l_nil (x_then (e_seq (e_seq (e_reg (mv rfl rfl (dt (d_lens rfl rfl Try.underlying9) rfl ?_)))))))
 refine mv rfl rfl (l_nil (x_then (e_block (e_lp [(0, _), (3, _), (12, _)] [(0, _)] (fun (q : Nat × List Nat) => [(13, .int .i64 (q.1 : Int))]) (fun (q : Nat × List Nat) => [(1, osl 1 81 encU v q.2)]) (fun (q : Nat × List Nat) => (q.1 ≤ (dg 256 x).length) ∧ (q.2.length = (dg U x).length) ∧ (∀ w, w < q.2.length → q.2.getD w 0 = hi x ((dg 256 x).length - q.1) w)) (fun (q : Nat × List Nat) => (dg 256 x).length - q.1) (0, List.replicate (dg U x).length 0) ⟨by first | omega | (dsimp only <;> omega), by simp, fun w hw => by dsimp only at *; rw [List.length_replicate] at hw; rw [getD_replicate, hi_top (by omega)]⟩ ⟨rfl, rfl, rfl, rfl, trivial⟩ ⟨rfl, rfl, trivial⟩ ?_))))
 rintro ⟨i, o⟩ ⟨hik, hol, hov⟩
 dsimp only at hik hol hov
 simp only [List.cons_append, List.nil_append]
 refine e_seq (e_reg (dt (d_lss rfl rfl rfl) rfl ?_))
 refine l_nil (x_then (e_seq (e_cond rfl (fun h30 => ?_) (fun h30 => ?_))))
 ·refine e_skip ?_
  refine x_then (e_seq (e_block (e_seq (e_reg (mv rfl rfl (as_ rfl rfl (l_nil (x_then (e_seq (e_reg (mv rfl rfl (dt (d_lens rfl rfl Try.underlying9) rfl ?_))))))))))))
  refine dt (d_sub rfl rfl rfl ⟨by omega, by omega⟩) rfl ?_
  refine mv rfl rfl (dt (d_sub rfl rfl rfl ⟨by omega, by omega⟩) rfl ?_)
  refine as_ rfl rfl (l_nil (x_then (e_imp (s_val 5 (v' := .int .i64 (((dg 256 x).length - 1 - i : Nat) : Int)) rfl (by congr 1; omega)) ?_)))
  have hget := bstr_get x i (by omega)
  have hw0 := hov (((dg 256 x).length - 1 - i) / 8) (by omega)
  have hlt1 : o.getD (((dg 256 x).length - 1 - i) / 8) 0 < U := by rw [hw0]; exact Nat.mod_lt _ U_pos
  have hset : ∀ w, w < o.length → (o.set (((dg 256 x).length - 1 - i) / 8) (o.getD (((dg 256 x).length - 1 - i) / 8) 0 ||| (((bstr x).data.toList.getD i 0).toNat * 2 ^ (((dg 256 x).length - 1 - i) % 8 * 8)) % U)).getD w 0 = hi x ((dg 256 x).length - (i + 1)) w := fun w hw => by
   rw [hget, hw0, show (dg 256 x).length - i = (dg 256 x).length - 1 - i + 1 by omega, hi_step, getD_set _ _ _ _ _ (by omega), show (dg 256 x).length - (i + 1) = (dg 256 x).length - 1 - i by omega]
   split
   ·rename_i e; rw [e]
   ·rename_i e; rw [hov w hw, show (dg 256 x).length - i = (dg 256 x).length - 1 - i + 1 by omega]; exact hi_other e
  refine e_dreg (fun _ => False) [(0, 0), (1, 0), (2, 0), (3, 0), (4, 0), (5, 0), (6, 0), (7, 0), (8, 0), (9, 0), (10, 0), (11, 0), (12, 0), (13, 0), (14, 0), (15, 3)] (by kernel_rfl) ?_ ?_
  ·kernel_rfl
  refine r0' rfl rfl rfl rfl (st0 (d_mv rfl rfl)) ?_
  refine r0' rfl rfl rfl rfl (st0 (d_mv rfl rfl)) ?_
  refine r0' rfl rfl rfl rfl (st0 (d_quo rfl rfl rfl (by omega) (by omega) (by omega))) ?_
  refine r0' rfl rfl rfl rfl (st0 (d_ixa (ii := 1) (i := ((dg 256 x).length - 1 - i) / 8) rfl rfl rfl rfl (rd_osl pU) Try.underlying83 Try.sizeOf81 (by omega) (by omega))) ?_
  refine r0' rfl rfl rfl rfl (st0 (d_lde (ii := 1) 0 rfl rfl rfl (rd_osl pU) pU (by first | omega | (simp only [List.length_set]; omega)))) ?_
  refine r0' rfl rfl rfl rfl (st0 (d_mv rfl rfl)) ?_
  refine r0' rfl rfl rfl rfl (st0 (d_mv rfl rfl)) ?_
  refine r0' rfl rfl rfl rfl (st0 (d_ixs rfl rfl rfl Try.underlying9 rfl (by omega))) ?_
  refine r0' rfl rfl rfl rfl (st0 (cv_u64 rfl rfl Try.underlying5 Try.underlying81 (by have := (((bstr x).data.toList.getD i 0).toNat_lt); simp only [U]; omega))) ?_
  refine r0' rfl rfl rfl rfl (st0 (d_mv rfl rfl)) ?_
  refine r0' rfl rfl rfl rfl (st0 (d_rem rfl rfl rfl (by omega) (by omega))) ?_
  refine r0' rfl rfl rfl rfl (st0 (d_mul rfl rfl rfl ⟨by omega, by omega⟩)) ?_
  refine r0' rfl rfl rfl rfl (st0 (u_shl rfl rfl (n := ((dg 256 x).length - 1 - i) % 8 * 8) rfl (by omega) (by omega))) ?_
  refine r0' rfl rfl rfl rfl (st0 (u_or rfl rfl rfl (hlt1) (Nat.mod_lt _ U_pos))) ?_
  refine r0' rfl rfl rfl rfl (st0 (d_ixa (ii := 1) (i := ((dg 256 x).length - 1 - i) / 8) rfl rfl rfl rfl (rd_osl pU) Try.underlying83 Try.sizeOf81 (by omega) (by omega))) ?_
  refine r3' rfl rfl (t_ste (i := 1) (enc := encU) _ rfl rfl rfl rfl rfl rfl (by decide) pU (by first | omega | (simp only [List.length_set]; omega)) rfl hw) (fun _ _ => ?_)
  refine r_end ?_
  refine x_bn ?_
  refine x_then (e_reg (dt (d_add rfl rfl rfl ⟨by omega, by omega⟩) rfl ?_))
  refine mv rfl rfl (l_nil ?_)
  exact x_rnd (i + 1, _) ⟨by first | omega | (dsimp only <;> omega), by simp; omega, fun w hw => hset w (by simpa using hw)⟩ (by first | omega | (dsimp only <;> omega)) ⟨rfl, rfl, rfl, rfl, trivial⟩ ⟨rfl, rfl, trivial⟩
 ·refine e_exit ?_
  refine x_exit (x_exit (x_be ?_))
  refine x_then (e_seq (e_reg (mv rfl rfl (as_ rfl rfl (l_nil (x_then (e_ret ?_)))))))
  have ho : o = dg U x := eq_of_getD hol (fun j hj => by rw [hov j hj, dg_getD two_U, hi_ge (by omega)])
  exact x_end (.inl rfl) hsc _ _ (fun a w hs => res1 hs Try.results65 rfl) rfl trivial rfl (give_owne 1 rfl rfl pU ho give_nil)
end Go.Sky
namespace Go.Sky
open Go.Proofs
set_option maxRecDepth 20000
set_option maxHeartbeats 4000000
set_option linter.unusedVariables false
set_option linter.unusedSimpArgs false
set_option maxHeartbeats 2000000 in
theorem nat_div (v w : Value) (x y : Nat) (hx : bl x ≤ 4000000000) (hy0 : bl y ≤ 4000000000) (hy : 0 < y) : Cal Try.prog 76 #[v, w] [dgp v x, dgp w y] true (G := Value × Value) (fun r => True) (fun r => .tuple #[r.1, r.2]) (fun r => [dgp r.1 (x / y), dgp r.2 (x % y)]) := by
 refine cal_in Try.func76 rfl Try.ntmps76 rfl ⟨rfl, rfl, trivial⟩ ?_
 intro w0 sc hw hsc
 simp only [enumEnv, enumPre]
 have hX := lenU_bl x
 have hY := lenU_bl y
 refine e_seq (e_reg (as_ rfl rfl (as_ rfl rfl (l_nil (x_then (e_seq (e_seq (e_reg (mv rfl rfl (mv rfl rfl (tt (t_call (n := 2) (nat_compare _ _ _ _ (by omega) (by omega)) rfl rfl rfl ⟨rfl, rfl, trivial⟩ Try.call80 (pre_same 1 rfl rfl rfl (pre_same 2 rfl rfl rfl pre_nil)) rfl hw) rfl (fun r hr => ?_))))))))))))
 refine dt (d_lss rfl rfl rfl) rfl ?_
 refine l_nil (x_then (e_cond rfl (fun h166 => ?_) (fun h166 => ?_)))
 ·have hlt : x < y := hr.1.1 (by omega)
  refine e_seq (e_reg (mv rfl rfl (as_ rfl rfl (as_ rfl rfl (l_nil (x_then (e_ret (x_ret ?_))))))))
  refine x_imp (s_nil 9 1 81 encU) ?_
  exact x_end (.inl rfl) hsc (.slice none 0 0, v) _ (fun a w hs => res2 hs Try.results76 rfl rfl) rfl trivial rfl (give_owne 9 rfl rfl pU (by rw [Nat.div_eq_of_lt hlt]; rfl) (give_samee 1 rfl rfl rfl (by rw [Nat.mod_eq_of_lt hlt]) give_nil))
 ·have hge : y ≤ x := by have := hr.1; omega
  have hly := bl_mono hge
  refine e_skip ?_
  refine x_then (e_seq (e_seq (e_reg (mv rfl rfl (dt (d_len rfl rfl (i := 2) rfl rd_slp Try.underlying83) rfl ?_)))))
  refine dt (d_eql rfl rfl rfl) rfl ?_
  refine l_nil (x_then (e_cond rfl (fun h169 => ?_) (fun h169 => ?_)))
  ·have hyU : y < U := by have := (dg_length_le two_U 1 y).1 (by omega); simpa using this
   have hd0 : (dg U y).getD 0 0 = y := by rw [dg_getD two_U]; simp [Nat.mod_eq_of_lt hyU]
   refine e_seq (e_reg (mv rfl rfl (mv rfl rfl (dt (d_ixa (ii := 2) (i := 0) rfl rfl rfl rfl rd_slp Try.underlying83 Try.sizeOf81 rfl (by omega)) rfl ?_))))
   refine dt (d_lde (ii := 2) 0 rfl rfl rfl rd_slp pU (by first | omega | (simp only [List.length_set]; omega))) rfl ?_
   refine tt (t_call (n := 3) (nat_small _ _ _ (by omega) (by rw [hd0]; exact hy) (by rw [hd0]; exact hyU)) rfl rfl rfl ⟨rfl, rfl, trivial⟩ Try.call85 (pre_same 1 rfl rfl rfl pre_nil) rfl hw) rfl (fun v _ => ?_)
   refine mv rfl rfl (dt (d_ex rfl rfl rfl) rfl ?_)
   refine dt (d_ex rfl rfl rfl) rfl ?_
   refine as_ rfl rfl (as_ rfl rfl (l_nil (x_then (e_seq (e_reg (mv rfl rfl (mv rfl rfl (tt (t_bsg (i := 4) (ivs := [(0, _)]) (enc := encU) [x % (dg U y).getD 0 0] rfl rfl rfl ⟨rfl, rfl, trivial⟩ Try.underlying83 Try.ti81 rfl rfl rfl rfl rfl rfl pU.cells rfl rfl hw) rfl (fun v_2 _ => ?_)))))))))
   refine tt (t_call (n := 4) (nat_trim_own _ _) rfl rfl rfl ⟨rfl, trivial⟩ Try.call55 (pre_lend 4 rfl rfl pU pre_nil) rfl hw) rfl (fun _ _ => ?_)
   refine l_imp (s_tz 4 rfl rfl pU) ?_
   refine as_ rfl rfl (as_ rfl rfl (l_nil (x_then (e_ret (x_ret ?_)))))
   exact x_end (.inl rfl) hsc (_, _) _ (fun a w hs => res2 hs Try.results76 rfl rfl) rfl trivial rfl (give_samee 3 rfl rfl rfl (by rw [hd0]; rfl) (give_owne 4 rfl rfl pU (by rw [tz_single (Nat.lt_trans (Nat.mod_lt _ (by rw [hd0]; exact hy)) (by rw [hd0]; exact hyU)), hd0]) give_nil))
  ·refine e_skip ?_
   refine x_then (e_seq ?_)
   obtain ⟨k, hk⟩ : ∃ k, k = (dg U y).length := ⟨_, rfl⟩
   have hkx : k ≤ (dg U x).length := by omega
   obtain ⟨b, hb⟩ : ∃ b, b = 64 - bl ((dg U y).getD (k - 1) 0) := ⟨_, rfl⟩
   obtain ⟨hkD0, _, hk1, hDk0, hb63, hD630⟩ := norm_dg hy hk hb
   obtain ⟨D, hDe⟩ : ∃ D, D = y * 2 ^ b := ⟨_, rfl⟩
   have hkD : (dg U D).length = k := by rw [hDe]; exact hkD0
   have hDk : D < U ^ k := by rw [hDe]; exact hDk0
   have hD63 : U ^ (k - 1) * 9223372036854775808 ≤ D := by rw [hDe]; exact hD630
   have hD0 : 0 < D := by rw [hDe]; exact Nat.mul_pos hy (Nat.two_pow_pos b)
   have hDb : bl D ≤ 4000000064 := by rw [hDe, bl_mul_pow _ _ hy]; omega
   refine e_reg (mv rfl rfl (mv rfl rfl (dt (d_len rfl rfl (i := 2) rfl rd_slp Try.underlying83) rfl ?_)))
   refine dt (d_sub rfl rfl rfl ⟨by omega, by omega⟩) rfl ?_
   refine dt (d_ixa (ii := 2) (i := (dg U y).length - 1) rfl rfl rfl rfl rd_slp Try.underlying83 Try.sizeOf81 (by omega) (by omega)) rfl ?_
   refine dt (d_lde (ii := 2) 0 rfl rfl rfl rd_slp pU (by first | omega | (simp only [List.length_set]; omega))) rfl ?_
   refine tt (t_call (n := 4) (bits_lz _ (getD_lt U_pos (dg_lt two_U y) _)) rfl rfl rfl ⟨rfl, trivial⟩ Try.call79 pre_nil rfl hw) rfl (fun _ _ => ?_)
   refine l_imp (s_val 44 (v' := .int .i64 (b : Int)) rfl (by rw [hb, hk])) ?_
   refine as_ rfl rfl (l_nil (x_then (e_jn [(0, _), (8, _)] [(0, _), (1, _), (2, _)] (fun (q : Value × Value) => [(9, q.1), (10, q.2)]) (fun (q : Value × Value) => [(81, dgp q.1 D), (82, osl 1 81 encU q.2 (List.replicate ((dg U x).length + 1) 0))]) (fun (q : Value × Value) => True) ⟨rfl, rfl, trivial⟩ ⟨rfl, rfl, rfl, trivial⟩ ?_ ?_)))
   ·refine e_drega (fun _ => False) [8] (by kernel_rfl) ?_
    refine a_lin' (n := 4) [(0, 0), (1, 0), (3, 0), (4, 0), (5, 0)] (by kernel_rfl) ?_
    refine r0' rfl rfl rfl rfl (st0 (d_mv rfl rfl)) ?_
    refine r0' rfl rfl rfl rfl (st0 (d_mv rfl rfl)) ?_
    refine r0' rfl rfl rfl rfl (st0 (d_mv rfl rfl)) ?_
    refine r0' rfl rfl rfl rfl (st0 (d_len rfl rfl (i := 1) rfl rd_slp Try.underlying83)) ?_
    refine r0' rfl rfl rfl rfl (st0 (d_add rfl rfl rfl ⟨by omega, by omega⟩)) ?_
    refine r_fin ?_
    refine a_br2 (n := 3) 2 6 (by kernel_rfl) ?_ ?_
    ·refine aact' rfl rfl (t_call (n := 81) (nat_shl _ _ _ (by omega) (by omega)) rfl rfl rfl ⟨rfl, rfl, trivial⟩ Try.call86 (pre_same 2 rfl rfl rfl pre_nil) rfl hw) (fun v_3 _ => ?_)
     refine a_lin' (n := 0) [(7, 0), (6, 1), (8, 3)] (by kernel_rfl) ?_
     refine r0' rfl rfl rfl rfl (st0 (d_as rfl rfl)) ?_
     refine r1' rfl rfl (t_mkn (i := 82) (n := (dg U x).length + 1) (by_ := 8) (enc := encU) 0 rfl rfl rfl rfl rfl (by omega) Try.underlying83 Try.ti81 rfl pU.cells pU.pos rfl rfl (by omega) (by decide) rfl hw) (fun v_4 _ => ?_)
     refine r3' rfl rfl (t_det (d_as rfl rfl) rfl rfl) (fun _ _ => ?_)
     refine r_fin ?_
     refine a_done (by kernel_rfl) ?_
     exact x_jn (_, _) trivial ⟨rfl, rfl, rfl, rfl, trivial⟩ ⟨by rw [hDe]; rfl, rfl, rfl, rfl, rfl, trivial⟩
    ·refine aact' rfl rfl (t_mkn (i := 82) (n := (dg U x).length + 1) (by_ := 8) (enc := encU) 0 rfl rfl rfl rfl rfl (by omega) Try.underlying83 Try.ti81 rfl pU.cells pU.pos rfl rfl (by omega) (by decide) rfl hw) (fun v_5 _ => ?_)
     refine a_lin' (n := 0) [(2, 1), (7, 0), (8, 3)] (by kernel_rfl) ?_
     refine r1' rfl rfl (t_call (n := 81) (nat_shl _ _ _ (by omega) (by omega)) rfl rfl rfl ⟨rfl, rfl, trivial⟩ Try.call86 (pre_same 2 rfl rfl rfl pre_nil) rfl hw) (fun v_6 _ => ?_)
     refine r0' rfl rfl rfl rfl (st0 (d_as rfl rfl)) ?_
     refine r3' rfl rfl (t_det (d_as rfl rfl) rfl rfl) (fun _ _ => ?_)
     refine r_fin ?_
     refine a_done (by kernel_rfl) ?_
     exact x_jn (_, _) trivial ⟨rfl, rfl, rfl, rfl, trivial⟩ ⟨by rw [hDe]; rfl, rfl, rfl, rfl, rfl, trivial⟩
   ·rintro ⟨vd, vr⟩ -
    simp only [List.cons_append, List.nil_append]
    refine e_seq ?_
    have hnl : (dg U (x * 2 ^ b)).length ≤ (dg U x).length + 1 := (dg_length_le two_U _ _).2 (by rw [Nat.pow_succ]; exact Nat.mul_lt_mul_of_lt_of_le ((dg_length_le two_U _ x).1 (Nat.le_refl _)) (by rw [U_eq]; exact Nat.pow_le_pow_right (by omega) (by omega)) U_pos)
    refine e_reg (mv rfl rfl (mv rfl rfl (mv rfl rfl (tt (t_call (n := 5) (nat_shl _ _ _ (by omega) (by omega)) rfl rfl rfl ⟨rfl, rfl, trivial⟩ Try.call86 (pre_same 1 rfl rfl rfl pre_nil) rfl hw) rfl (fun v_7 _ => ?_)))))
    refine tt (t_cpy (i := 82) (j := 5) 0 rfl rfl rfl rfl rfl rfl (by decide) rfl rd_slp (dst_self _ _ _) (by rw [List.length_replicate]; exact hnl) (by rw [List.length_replicate]; omega) (by rw [List.length_replicate]; omega) Try.underlying83 pU rfl hw) rfl (fun _ _ => ?_)
    refine l_nil (x_then (e_seq ?_))
    have hR0l : (spl (List.replicate ((dg U x).length + 1) 0) 0 (dg U (x * 2 ^ b))).length = (dg U x).length + 1 := by rw [length_spl _ _ _ (by rw [List.length_replicate]; omega), List.length_replicate]
    refine e_reg (mv rfl rfl (dt (d_len rfl rfl (i := 81) rfl rd_slp Try.underlying83) rfl ?_))
    refine as_ rfl rfl (l_nil (x_then (e_seq ?_)))
    have hql0 : (List.replicate ((dg U x).length + 1 - k) (0 : Nat)).length = (dg U x).length + 1 - k := List.length_replicate
    refine e_imp (s_val 11 (v' := .int .i64 (k : Int)) rfl (by rw [hkD])) ?_
    refine e_reg (mv rfl rfl (dt (d_len rfl rfl (i := 82) rfl (rd_osl pU) Try.underlying83) rfl ?_))
    refine mv rfl rfl (dt (d_sub rfl rfl rfl ⟨by omega, by omega⟩) rfl ?_)
    refine tt (t_mkn (i := 6) (n := (dg U x).length + 1 - k) (by_ := 8) (enc := encU) 0 rfl rfl rfl rfl rfl (by omega) Try.underlying83 Try.ti81 rfl pU.cells pU.pos rfl rfl (by omega) (by decide) rfl hw) rfl (fun v_8 _ => ?_)
    refine as_ rfl rfl (l_nil (x_then (e_seq (e_seq (e_reg (mv rfl rfl (dt (d_len rfl rfl (i := 6) rfl (rd_osl pU) Try.underlying83) rfl ?_)))))))
    refine dt (d_sub rfl rfl rfl ⟨by omega, by omega⟩) rfl ?_
    refine as_ rfl rfl (l_nil (x_then (e_block (e_lp [(8, _), (9, _), (10, _), (11, _), (12, _)] [(0, _), (81, _), (1, _), (2, _), (5, _)] (fun (q : Nat × List Nat × List Nat) => [(13, .int .i64 ((q.1 : Int) - 1))]) (fun (q : Nat × List Nat × List Nat) => [(82, osl 1 81 encU vr q.2.1), (6, osl 1 81 encU v_8 q.2.2)]) (fun (q : Nat × List Nat × List Nat) => (q.1 ≤ (dg U x).length + 1 - k) ∧ (q.2.1.length = (dg U x).length + 1) ∧ (∀ d ∈ q.2.1, d < U) ∧ (q.2.2.length = (dg U x).length + 1 - k) ∧ (∀ d ∈ q.2.2, d < U) ∧ (val U q.2.1 < D * U ^ q.1) ∧ (val U (q.2.2.drop q.1) * U ^ q.1 * D + val U q.2.1 = x * 2 ^ b)) (fun (q : Nat × List Nat × List Nat) => q.1) ((dg U x).length + 1 - k, spl (List.replicate ((dg U x).length + 1) 0) 0 (dg U (x * 2 ^ b)), List.replicate ((dg U x).length + 1 - k) 0) ⟨Nat.le_refl _, hR0l, all_spl (all_replicate _ U_pos) (dg_lt two_U _) 0, by simp, all_replicate _ U_pos, by rw [val_spl0, val_dg two_U]; exact div_init ((dg_length_le two_U _ x).1 (Nat.le_refl _)) hb63 hk1 (by omega) hD63, by rw [val_spl0, val_dg two_U]; simp [val]⟩ ⟨by rw [List.length_replicate]; rfl, rfl, rfl, rfl, rfl, rfl, trivial⟩ ⟨rfl, rfl, rfl, rfl, rfl, rfl, rfl, trivial⟩ ?_))))
    rintro ⟨jj, R, q⟩ ⟨hj, hRl, hRa, hql, hqa, hV, hN⟩
    dsimp only at hj hRl hRa hql hqa hV hN
    simp only [List.cons_append, List.nil_append]
    refine e_seq (e_seq (e_reg (mv rfl rfl (dt (d_geq rfl rfl rfl) rfl ?_))))
    refine l_nil (x_then (e_cond rfl (fun h179 => ?_) (fun h179 => ?_)))
    ·refine e_skip ?_
     refine x_then (e_seq (e_block (e_seq ?_)))
     have hW1 : val U R < U ^ (jj - 1 + k + 1) := by
      refine Nat.lt_of_lt_of_le hV ?_
      rw [show jj - 1 + k + 1 = k + jj by omega, Nat.pow_add]
      exact Nat.mul_le_mul_right _ (Nat.le_of_lt hDk)
     have hWz : tz ((R.drop (jj - 1)).take (jj - 1 + k + 1 - (jj - 1))) = dg U (val U R / U ^ (jj - 1)) := win_val hRa (by omega) (by rw [show jj - 1 + (jj - 1 + k + 1 - (jj - 1)) = jj - 1 + k + 1 by omega]; exact hW1)
     have hWD : val U R / U ^ (jj - 1) < D * U := by
      rw [Nat.div_lt_iff_lt_mul (Nat.pow_pos U_pos), Nat.mul_assoc, ← Nat.pow_succ', show (jj - 1).succ = jj by omega]; exact hV
     have hWb : bl (val U R / U ^ (jj - 1)) ≤ 4294967296 := by
      have h1 := bl_mono (Nat.le_of_lt hWD)
      have h2 := bl_mul D U
      have h3 : bl U ≤ 65 := (bl_le 65 U).2 (by simp [U])
      omega
     have htop := top_two hRa (j := jj - 1) hk1 hW1 (by omega)
     have hDt : (dg U D).getD (k - 1) 0 * U ^ (k - 1) ≤ D := by
      rw [dg_getD two_U]; exact Nat.le_trans (Nat.mul_le_mul_right _ (Nat.mod_le _ _)) (Nat.div_mul_le_self _ _)
     have hQU : val U R / U ^ (jj - 1) / D ≤ 18446744073709551615 := by
      have := (Nat.div_lt_iff_lt_mul hD0).2 (show _ < U * D by rw [Nat.mul_comm]; exact hWD)
      simp only [U] at this ⊢; omega
     refine e_reg (as_ rfl rfl (l_nil (x_then (e_jn [(8, _), (9, _), (10, _), (11, _), (12, _), (13, _)] [(0, _), (82, _), (6, _), (81, _), (1, _), (2, _), (5, _)] (fun (g : Nat) => [(14, .int .u64 (g : Int))]) (fun (g : Nat) => []) (fun (g : Nat) => (val U R / U ^ (jj - 1) / D ≤ g) ∧ (g < U)) ⟨rfl, rfl, rfl, rfl, rfl, rfl, trivial⟩ ⟨rfl, rfl, rfl, rfl, rfl, rfl, rfl, trivial⟩ ?_ ?_))))
     ·refine e_seq (e_dreg (fun _ => False) [(0, 0), (1, 0), (2, 0), (3, 0), (4, 0), (5, 0), (6, 0), (7, 0), (8, 0), (9, 0), (10, 0), (11, 0)] (by kernel_rfl) ?_ ?_)
      ·kernel_rfl
      refine r0' rfl rfl rfl rfl (st0 (d_mv rfl rfl)) ?_
      refine r0' rfl rfl rfl rfl (st0 (d_mv rfl rfl)) ?_
      refine r0' rfl rfl rfl rfl (st0 (d_mv rfl rfl)) ?_
      refine r0' rfl rfl rfl rfl (st0 (d_add rfl rfl rfl ⟨by omega, by omega⟩)) ?_
      refine r0' rfl rfl rfl rfl (st0 (d_ixa (ii := 82) (i := jj - 1 + k) rfl rfl rfl rfl (rd_osl pU) Try.underlying83 Try.sizeOf81 (by omega) (by omega))) ?_
      refine r0' rfl rfl rfl rfl (st0 (d_lde (ii := 82) 0 rfl rfl rfl (rd_osl pU) pU (by first | omega | (simp only [List.length_set]; omega)))) ?_
      refine r0' rfl rfl rfl rfl (st0 (d_mv rfl rfl)) ?_
      refine r0' rfl rfl rfl rfl (st0 (d_mv rfl rfl)) ?_
      refine r0' rfl rfl rfl rfl (st0 (d_sub rfl rfl rfl ⟨by omega, by omega⟩)) ?_
      refine r0' rfl rfl rfl rfl (st0 (d_ixa (ii := 81) (i := k - 1) rfl rfl rfl rfl rd_slp Try.underlying83 Try.sizeOf81 (by omega) (by omega))) ?_
      refine r0' rfl rfl rfl rfl (st0 (d_lde (ii := 81) 0 rfl rfl rfl rd_slp pU (by first | omega | (simp only [List.length_set]; omega)))) ?_
      refine r0' rfl rfl rfl rfl (st0 (d_lss rfl rfl rfl)) ?_
      refine r_end ?_
      refine x_then (e_cond rfl (fun h182 => ?_) (fun h182 => ?_))
      ·refine e_dreg (fun _ => False) [(0, 0), (1, 0), (2, 0), (3, 0), (4, 0), (5, 0), (6, 0), (7, 0), (8, 0), (9, 0), (10, 0), (11, 0), (12, 0), (13, 0), (14, 0), (15, 0), (16, 0), (17, 0), (18, 1), (19, 0), (20, 0), (21, 0), (22, 0)] (by kernel_rfl) ?_ ?_
       ·kernel_rfl
       refine r0' rfl rfl rfl rfl (st0 (d_mv rfl rfl)) ?_
       refine r0' rfl rfl rfl rfl (st0 (d_mv rfl rfl)) ?_
       refine r0' rfl rfl rfl rfl (st0 (d_mv rfl rfl)) ?_
       refine r0' rfl rfl rfl rfl (st0 (d_add rfl rfl rfl ⟨by omega, by omega⟩)) ?_
       refine r0' rfl rfl rfl rfl (st0 (d_ixa (ii := 82) (i := jj - 1 + k) rfl rfl rfl rfl (rd_osl pU) Try.underlying83 Try.sizeOf81 (by omega) (by omega))) ?_
       refine r0' rfl rfl rfl rfl (st0 (d_lde (ii := 82) 0 rfl rfl rfl (rd_osl pU) pU (by first | omega | (simp only [List.length_set]; omega)))) ?_
       refine r0' rfl rfl rfl rfl (st0 (d_mv rfl rfl)) ?_
       refine r0' rfl rfl rfl rfl (st0 (d_mv rfl rfl)) ?_
       refine r0' rfl rfl rfl rfl (st0 (d_mv rfl rfl)) ?_
       refine r0' rfl rfl rfl rfl (st0 (d_add rfl rfl rfl ⟨by omega, by omega⟩)) ?_
       refine r0' rfl rfl rfl rfl (st0 (d_sub rfl rfl rfl ⟨by omega, by omega⟩)) ?_
       refine r0' rfl rfl rfl rfl (st0 (d_ixa (ii := 82) (i := jj - 1 + k - 1) rfl rfl rfl rfl (rd_osl pU) Try.underlying83 Try.sizeOf81 (by omega) (by omega))) ?_
       refine r0' rfl rfl rfl rfl (st0 (d_lde (ii := 82) 0 rfl rfl rfl (rd_osl pU) pU (by first | omega | (simp only [List.length_set]; omega)))) ?_
       refine r0' rfl rfl rfl rfl (st0 (d_mv rfl rfl)) ?_
       refine r0' rfl rfl rfl rfl (st0 (d_mv rfl rfl)) ?_
       refine r0' rfl rfl rfl rfl (st0 (d_sub rfl rfl rfl ⟨by omega, by omega⟩)) ?_
       refine r0' rfl rfl rfl rfl (st0 (d_ixa (ii := 81) (i := k - 1) rfl rfl rfl rfl rd_slp Try.underlying83 Try.sizeOf81 (by omega) (by omega))) ?_
       refine r0' rfl rfl rfl rfl (st0 (d_lde (ii := 81) 0 rfl rfl rfl rd_slp pU (by first | omega | (simp only [List.length_set]; omega)))) ?_
       refine r1' rfl rfl (t_call (n := 6) (bits_div _ _ _ (getD_lt U_pos hRa _) (getD_lt U_pos (dg_lt two_U _) _) (by omega)) rfl rfl rfl ⟨rfl, rfl, rfl, trivial⟩ Try.call87 pre_nil rfl hw) (fun _ _ => ?_)
       refine r0' rfl rfl rfl rfl (st0 (d_mv rfl rfl)) ?_
       refine r0' rfl rfl rfl rfl (st0 (d_ex rfl rfl rfl)) ?_
       refine r0' rfl rfl rfl rfl (st0 (d_ex rfl rfl rfl)) ?_
       refine r0' rfl rfl rfl rfl (st0 (d_as rfl rfl)) ?_
       refine r_end ?_
       exact x_jn _ ⟨guess_ge hDt (by omega) htop, dv_digit (getD_lt U_pos hRa _) (by omega)⟩ ⟨rfl, rfl, rfl, rfl, rfl, rfl, rfl, trivial⟩ ⟨rfl, rfl, rfl, rfl, rfl, rfl, rfl, trivial⟩
      ·refine e_skip ?_
       exact x_jn 18446744073709551615 ⟨hQU, by decide⟩ ⟨rfl, rfl, rfl, rfl, rfl, rfl, rfl, trivial⟩ ⟨rfl, rfl, rfl, rfl, rfl, rfl, rfl, trivial⟩
     ·rintro g ⟨hg, hgU⟩
      simp only [List.cons_append, List.nil_append]
      refine e_seq (e_reg (mv rfl rfl (mv rfl rfl (mv rfl rfl (mv rfl rfl (dt (d_add rfl rfl rfl ⟨by omega, by omega⟩) rfl ?_))))))
      refine dt (d_add rfl rfl rfl ⟨by omega, by omega⟩) rfl ?_
      refine dt (d_mid (ii := 82) (i := jj - 1) (j := jj - 1 + k + 1) rfl rfl rfl rfl rfl (rd_osl pU) Try.underlying83 Try.sizeOf81 (by omega) (by omega) (by omega) (by omega)) rfl ?_
      refine as_ rfl rfl (l_nil (x_then (e_seq (e_reg (mv rfl rfl (mv rfl rfl (tt (t_bsg (i := 7) (ivs := [(0, _)]) (enc := encU) [g] rfl rfl rfl ⟨rfl, rfl, trivial⟩ Try.underlying83 Try.ti81 rfl rfl rfl rfl rfl rfl pU.cells rfl rfl hw) rfl (fun v_9 _ => ?_))))))))
      refine tt (t_call (n := 7) (nat_trim_own _ _) rfl rfl rfl ⟨rfl, trivial⟩ Try.call55 (pre_lend 7 rfl rfl pU pre_nil) rfl hw) rfl (fun _ _ => ?_)
      refine l_imp (s_tz 7 rfl rfl pU) ?_
      refine l_imp (s_oeq 7 (tz_single hgU) rfl rfl) ?_
      refine tt (t_call (n := 83) (nat_mul _ _ _ _ (by omega) (Nat.le_trans ((bl_le 64 g).2 hgU) (by omega))) rfl rfl rfl ⟨rfl, rfl, trivial⟩ Try.call81 (pre_same 81 rfl rfl rfl (pre_lend 7 rfl rfl pU pre_nil)) rfl hw) rfl (fun v_10 _ => ?_)
      refine as_ rfl rfl (l_nil (x_then (e_seq (e_block (e_lp [(8, _), (9, _), (10, _), (11, _), (12, _), (13, _), (15, _)] [(0, _), (82, _), (6, _), (81, _), (1, _), (2, _), (5, _), (7, _)] (fun (q : Nat × Value) => [(14, .int .u64 (q.1 : Int)), (16, q.2)]) (fun (q : Nat × Value) => [(83, dgp q.2 (D * q.1))]) (fun (q : Nat × Value) => (val U R / U ^ (jj - 1) / D ≤ q.1) ∧ (q.1 < U)) (fun (q : Nat × Value) => q.1) (g, _) ⟨by first | omega | (dsimp only <;> omega), by first | omega | (dsimp only <;> omega)⟩ ⟨rfl, rfl, rfl, rfl, rfl, rfl, rfl, rfl, rfl, trivial⟩ ⟨rfl, rfl, rfl, rfl, rfl, rfl, rfl, rfl, rfl, trivial⟩ ?_)))))
      rintro ⟨g, vp⟩ ⟨hg, hgU⟩
      dsimp only at hg hgU
      simp only [List.cons_append, List.nil_append]
      have hPb : bl (D * g) ≤ 4294967296 := by have h1 := bl_mul D g; have h2 := (bl_le 64 g).2 hgU; omega
      refine e_seq (e_seq (e_reg (mv rfl rfl (tt (t_call (n := 7) (nat_trim_own _ _) rfl rfl rfl ⟨rfl, trivial⟩ Try.call55 (pre_lendw 82 rfl rfl pU (row_mid (jj - 1) (jj - 1 + k + 1) (by omega) (by omega)) (blk_mid _ _ _ _) pre_nil) rfl hw) rfl (fun _ _ => ?_)))))
      refine mv rfl rfl (tt (t_call (n := 7) (nat_compare _ _ _ _ hWb hPb) rfl rfl rfl ⟨rfl, rfl, trivial⟩ Try.call80 (pre_lendw 82 rfl rfl pU (row_tz hWz (by rw [hWz]) (row_mid (jj - 1) (jj - 1 + k + 1) (by omega) (by omega))) (by rw [ownBlock_preV]; exact (blk_mid _ _ _ _)) (pre_same 83 rfl rfl rfl pre_nil)) rfl hw) rfl (fun r_2 hr_2 => ?_))
      refine dt (d_lss rfl rfl rfl) rfl ?_
      refine l_nil (x_then (e_cond rfl (fun h187 => ?_) (fun h187 => ?_)))
      ·have hlt : val U R / U ^ (jj - 1) < D * g := hr_2.1.1 (by omega)
       have hg1 : 1 ≤ g := by rcases Nat.eq_zero_or_pos g with h | h; (rw [h, Nat.mul_zero] at hlt; exact absurd hlt (Nat.not_lt_zero _)); exact h
       have hDg : D ≤ D * g := Nat.le_mul_of_pos_right _ hg1
       have hQg : val U R / U ^ (jj - 1) / D ≤ g - 1 := by have := (Nat.div_lt_iff_lt_mul hD0).2 (show _ < g * D by rw [Nat.mul_comm]; exact hlt); omega
       refine e_skip ?_
       refine x_then (e_block (e_seq (e_reg (mv rfl rfl (dt (u_sub (n := 1) rfl rfl rfl (by decide)) rfl ?_)))))
       refine as_ rfl rfl (l_nil (x_then (e_imp (s_val 14 (v' := .int .u64 ((g - 1 : Nat) : Int)) rfl (u64_eq (dec_u hg1 hgU))) ?_)))
       refine e_reg (mv rfl rfl (mv rfl rfl (tt (t_call (n := 8) (nat_sub _ _ _ _ hPb hDg) rfl rfl rfl ⟨rfl, rfl, trivial⟩ Try.call78 (pre_same 83 rfl rfl rfl (pre_same 81 rfl rfl rfl pre_nil)) rfl hw) rfl (fun v_11 _ => ?_))))
       refine as_ rfl rfl (l_nil (x_bn ?_))
       refine x_imp (s_dup 8 83 rfl rfl rfl) ?_
       exact x_rnd (g - 1, _) ⟨hQg, by dsimp only; omega⟩ (by first | omega | (dsimp only <;> omega)) ⟨rfl, rfl, rfl, rfl, rfl, rfl, rfl, rfl, rfl, trivial⟩ ⟨by rw [Nat.mul_sub_one]; rfl, rfl, rfl, rfl, rfl, rfl, rfl, rfl, rfl, trivial⟩
      ·refine e_exit ?_
       refine x_exit (x_exit (x_be ?_))
       refine x_then (e_seq ?_)
       have hQ : g = val U R / U ^ (jj - 1) / D := by
        have h1 := hr_2.1
        have h2 : D * g ≤ val U R / U ^ (jj - 1) := by omega
        exact Nat.le_antisymm ((Nat.le_div_iff_mul_le hD0).2 (by rw [Nat.mul_comm]; exact h2)) hg
       refine e_reg (mv rfl rfl (tt (t_call (n := 8) (nat_trim_own _ _) rfl rfl rfl ⟨rfl, trivial⟩ Try.call55 (pre_lendw 82 rfl rfl pU (row_mid (jj - 1) (jj - 1 + k + 1) (by omega) (by omega)) (blk_mid _ _ _ _) pre_nil) rfl hw) rfl (fun _ _ => ?_)))
       refine mv rfl rfl (tt (t_call (n := 9) (nat_sub _ _ _ _ hWb (by omega)) rfl rfl rfl ⟨rfl, rfl, trivial⟩ Try.call78 (pre_lendw 82 rfl rfl pU (row_tz hWz (by rw [hWz]) (row_mid (jj - 1) (jj - 1 + k + 1) (by omega) (by omega))) (by rw [ownBlock_preV]; exact (blk_mid _ _ _ _)) (pre_same 83 rfl rfl rfl pre_nil)) rfl hw) rfl (fun v_12 _ => ?_))
       refine as_ rfl rfl (l_nil (x_then (e_seq ?_)))
       have hll : (dg U (val U R / U ^ (jj - 1) - D * g)).length ≤ jj - 1 + k + 1 - (jj - 1) := by
        have : val U R / U ^ (jj - 1) - D * g < D := by rw [hQ]; have h3 := Nat.div_add_mod (val U R / U ^ (jj - 1)) D; have h4 := Nat.mod_lt (val U R / U ^ (jj - 1)) hD0; omega
        have := (dg_length_le two_U k _).2 (Nat.lt_trans this hDk)
        omega
       refine e_reg (mv rfl rfl (tt (t_clr (zv := .bool false) (i := 82) (z := 0) (jj - 1) rfl rfl rfl rfl (by decide) (dst_mid _ _ _ (by omega)) (by omega) (by omega) Try.underlying83 pU (fun w => Try.zeroValue81 w) rfl rfl hw) rfl (fun _ _ => ?_)))
       refine l_nil (x_then (e_seq (e_reg (mv rfl rfl (mv rfl rfl (tt (t_cpy (i := 82) (j := 9) (jj - 1) rfl rfl rfl rfl rfl rfl (by decide) rfl rd_slp (dst_mid _ _ _ (by rw [length_spl _ _ _ (by rw [List.length_replicate]; omega)]; omega)) hll (by rw [length_spl _ _ _ (by rw [List.length_replicate]; omega)]; omega) (by rw [length_spl _ _ _ (by rw [List.length_replicate]; omega)]; omega) Try.underlying83 pU rfl hw) rfl (fun _ _ => ?_)))))))
       refine l_nil (x_then ?_)
       have hL1 : jj - 1 + (List.replicate (jj - 1 + k + 1 - (jj - 1)) 0).length ≤ R.length := by rw [List.length_replicate]; omega
       have hl1 := length_spl R (jj - 1) _ hL1
       have hL2 : jj - 1 + (dg U (val U R / U ^ (jj - 1) - D * g)).length ≤ (spl R (jj - 1) (List.replicate (jj - 1 + k + 1 - (jj - 1)) 0)).length := by omega
       have hval := val_win hRa (j := jj - 1) (n := jj - 1 + k + 1 - (jj - 1)) (by omega) (by rw [show jj - 1 + (jj - 1 + k + 1 - (jj - 1)) = jj - 1 + k + 1 by omega]; exact hW1) hll
       rw [val_dg two_U] at hval
       have hst := div_step (j := jj - 1) (N := x * 2 ^ b) (Vq := val U (q.drop jj)) hD0 hQ (by rw [show jj - 1 + 1 = jj by omega]; exact hN)
       have hV2 := hst.1
       have hN2 := hst.2
       rw [← hval] at hV2 hN2
       have hdq : val U ((q.set (jj - 1) g).drop (jj - 1)) = g + U * val U (q.drop jj) := by rw [drop_set _ _ _ (by omega), show jj - 1 + 1 = jj by omega]; rfl
       rw [← hdq] at hN2
       refine e_reg (mv rfl rfl (mv rfl rfl (mv rfl rfl (dt (d_ixa (ii := 6) (i := jj - 1) rfl rfl rfl rfl (rd_osl pU) Try.underlying83 Try.sizeOf81 (by omega) (by omega)) rfl ?_))))
       refine tt (t_ste (i := 6) (enc := encU) _ rfl rfl rfl rfl rfl rfl (by decide) pU (by first | omega | (simp only [List.length_set]; omega)) rfl hw) rfl (fun _ _ => ?_)
       refine l_nil (x_bn ?_)
       refine x_then (e_reg (mv rfl rfl (dt (d_sub rfl rfl rfl ⟨by omega, by omega⟩) rfl ?_)))
       refine as_ rfl rfl (l_nil ?_)
       exact x_rnd (jj - 1, _, _) ⟨by first | omega | (dsimp only <;> omega), (length_spl _ _ _ hL2).trans (hl1.trans hRl), all_spl (all_spl hRa (all_replicate _ U_pos) _) (dg_lt two_U _) _, by simp; omega, all_set hqa _ _ hgU, hV2, hN2⟩ (by first | omega | (dsimp only <;> omega)) ⟨by rw [show (((jj - 1 : Nat) : Int) - 1) = (jj : Int) - 1 - 1 by omega]; rfl, rfl, rfl, rfl, rfl, rfl, trivial⟩ ⟨rfl, rfl, rfl, rfl, rfl, rfl, rfl, trivial⟩
    ·refine e_exit ?_
     refine x_exit (x_exit (x_be ?_))
     refine x_then (e_seq ?_)
     obtain rfl : jj = 0 := by omega
     rw [Nat.pow_zero, Nat.mul_one] at hV
     have hVb : bl (val U R) ≤ 8589934592 := by have := bl_mono (Nat.le_of_lt hV); omega
     refine e_reg (mv rfl rfl (tt (t_call (n := 9) (nat_trim_own _ _) rfl rfl rfl ⟨rfl, trivial⟩ Try.call55 (pre_lend 6 rfl rfl pU pre_nil) rfl hw) rfl (fun _ _ => ?_)))
     refine l_imp (s_tz 6 rfl rfl pU) ?_
     refine mv rfl rfl (tt (t_call (n := 9) (nat_trim_own _ _) rfl rfl rfl ⟨rfl, trivial⟩ Try.call55 (pre_lend 82 rfl rfl pU pre_nil) rfl hw) rfl (fun _ _ => ?_))
     refine l_imp (s_tz 82 rfl rfl pU) ?_
     refine l_imp (s_oeq 82 (dg_val two_U R hRa).symm rfl rfl) ?_
     refine mv rfl rfl (tt (t_call (n := 10) (nat_shr _ _ _ hVb (by omega)) rfl rfl rfl ⟨rfl, rfl, trivial⟩ Try.call88 (pre_lend 82 rfl rfl pU pre_nil) rfl hw) rfl (fun v_13 _ => ?_))
     refine as_ rfl rfl (as_ rfl rfl (l_nil (x_then (e_ret ?_))))
     rw [List.drop_zero, Nat.pow_zero, Nat.mul_one] at hN
     have hqq : tz q = dg U (x / y) := by
      rw [← dg_val two_U _ hqa, ← shift_div x y b, ← hDe, ← hN, Nat.mul_comm, Nat.mul_add_div hD0, Nat.div_eq_of_lt hV, Nat.add_zero]
     have hrr : val U R / 2 ^ b = x % y := by
      rw [← shift_mod x y b, ← hDe, ← hN, Nat.mul_comm, Nat.mul_add_mod, Nat.mod_eq_of_lt hV]
     exact x_end (.inl rfl) hsc (_, _) _ (fun a w hs => res2 hs Try.results76 rfl rfl) rfl trivial rfl (give_owne 6 rfl rfl pU hqq (give_samee 10 rfl rfl rfl (by rw [hrr]) give_nil))
theorem nat_gcd (v w : Value) (x y : Nat) (hx : bl x ≤ 4000000000) (hy : bl y ≤ 4000000000) : Cal Try.prog 66 #[v, w] [dgp v x, dgp w y] true (G := Value) (fun r => True) (fun r => r) (fun r => [dgp r (Nat.gcd x y)]) := by
 refine cal_in Try.func66 rfl Try.ntmps66 rfl ⟨rfl, rfl, trivial⟩ ?_
 intro w0 sc hw hsc
 simp only [enumEnv, enumPre]
 have hX := lenU_bl x
 have hY := lenU_bl y
 refine e_seq (e_reg (as_ rfl rfl (l_nil (x_then (e_seq (e_block (e_imp (s_dup 1 91 rfl rfl rfl) ?_)))))))
 refine e_imp (s_dup 2 92 rfl rfl rfl) ?_
 refine e_lp [] [(0, _), (1, _), (2, _)] (fun (q : Value × Value × Nat × Nat) => [(0, q.1), (1, q.2.1)]) (fun (q : Value × Value × Nat × Nat) => [(91, dgp q.1 q.2.2.1), (92, dgp q.2.1 q.2.2.2)]) (fun (q : Value × Value × Nat × Nat) => (Nat.gcd q.2.2.1 q.2.2.2 = Nat.gcd x y) ∧ (bl q.2.2.1 ≤ 4000000000) ∧ (bl q.2.2.2 ≤ 4000000000)) (fun (q : Value × Value × Nat × Nat) => q.2.2.2) (v, w, x, y) ⟨rfl, hx, hy⟩ ⟨rfl, rfl, trivial⟩ ⟨rfl, rfl, rfl, rfl, rfl, trivial⟩ ?_
 rintro ⟨va, vb, a, b⟩ ⟨hg, ha, hb⟩
 dsimp only at hg ha hb
 simp only [List.cons_append, List.nil_append]
 refine e_seq (e_seq (e_reg (mv rfl rfl (dt (d_len rfl rfl (i := 92) rfl rd_slp Try.underlying83) rfl ?_))))
 refine dt (d_gtr rfl rfl rfl) rfl ?_
 refine l_nil (x_then (e_cond rfl (fun h201 => ?_) (fun h201 => ?_)))
 ·have hb0 : 0 < b := by rcases Nat.eq_zero_or_pos b with h | h; (subst h; simp [dg_zero] at h201); exact h
  refine e_skip ?_
  refine x_then (e_block (e_seq (e_reg (mv rfl rfl (mv rfl rfl (tt (t_call (n := 3) (nat_div _ _ _ _ ha hb hb0) rfl rfl rfl ⟨rfl, rfl, trivial⟩ Try.call76 (pre_same 91 rfl rfl rfl (pre_same 92 rfl rfl rfl pre_nil)) rfl hw) rfl (fun g _ => ?_)))))))
  refine mv rfl rfl (dt (d_ex rfl rfl rfl) rfl ?_)
  refine dt (d_ex rfl rfl rfl) rfl ?_
  refine as_ rfl rfl (as_ rfl rfl (l_nil (x_then (e_reg (mv rfl rfl (mv rfl rfl (as_ rfl rfl (as_ rfl rfl (l_nil (x_bn ?_))))))))))
  have hlt : a % b < b := Nat.mod_lt _ hb0
  refine x_imp (s_dup 92 91 rfl rfl rfl) ?_
  refine x_imp (s_dup 4 92 rfl rfl rfl) ?_
  exact x_rnd (_, _, b, a % b) ⟨by dsimp only; rw [← hg, Nat.gcd_comm b, ← Nat.gcd_rec, Nat.gcd_comm], hb, Nat.le_trans (bl_mono (Nat.le_of_lt hlt)) hb⟩ hlt ⟨rfl, rfl, trivial⟩ ⟨rfl, rfl, rfl, rfl, rfl, trivial⟩
 ·have hb0 : b = 0 := (dg_nil_iff two_U b).1 (by omega)
  refine e_exit ?_
  refine x_exit (x_exit (x_be ?_))
  refine x_then (e_seq (e_reg (mv rfl rfl (as_ rfl rfl (l_nil (x_then (e_ret ?_)))))))
  exact x_end (.inl rfl) hsc _ _ (fun a w hs => res1 hs Try.results66 rfl) rfl trivial rfl (give_samee 91 rfl rfl rfl (by rw [← hg, hb0, Nat.gcd_zero_right]) give_nil)
end Go.Sky

