/- rules, arithmetic and contracts: part 10
   Proved without conditions of its own: each theorem bears its own. -/
import Derived.Test.YtcegclhbeflgbaaGreatSc02
import Derived.Test.YtcegclhbeflgbaaGreatSc01
import Derived.Test.YtcegclhbeflgbaaGreatSc03
import Derived.Test.YtcegclhbeflgbaaGreatSc08
set_option linter.all false
namespace Go.Sky
open Go.Proofs
set_option maxRecDepth 20000
set_option maxHeartbeats 4000000
set_option linter.unusedVariables false
set_option linter.unusedSimpArgs false
theorem rp_from (v : Value) (xs : List Int) (hs : Sz 1000000 xs) (hl : xs.length ≤ 1000) : Cal Tryz.prog 15 #[v] [slp 2 wv v xs] true (G := Value × List (Int × SL)) (fun r => ints r.2 = xs) (fun r => r.1) (fun r => [pp r.1 r.2]) := by
 refine cal_in Tryz.func15 rfl Tryz.ntmps15 rfl ⟨rfl, trivial⟩ ?_
 intro w0 sc hw hsc
 simp only [enumEnv, enumPre]
 refine e_seq (e_reg (as_ rfl rfl (l_nil (x_then (e_seq (e_reg (as_ rfl rfl (l_nil (x_then (e_seq (e_seq (e_reg (as_ rfl rfl (l_nil (x_then (e_block (e_imp (s_nil 70 2 39 encI) ?_)))))))))))))))))
 refine e_imp (s_many_nil qI 71) ?_
 refine e_lp [(0, _)] [(0, _), (1, _)] (fun (q : Nat × Value × List (Int × SL)) => [(4, .int .i64 (q.1 : Int)), (3, q.2.1)]) (fun (q : Nat × Value × List (Int × SL)) => [(70, osl 2 39 encI q.2.1 q.2.2), (71, many qI q.2.2)]) (fun (q : Nat × Value × List (Int × SL)) => (q.1 ≤ xs.length) ∧ (ints q.2.2 = xs.take q.1) ∧ (q.2.2.length = q.1)) (fun (q : Nat × Value × List (Int × SL)) => xs.length - q.1) (0, .slice none 0 0, []) ⟨by first | omega | (dsimp only <;> omega), rfl, rfl⟩ ⟨rfl, rfl, rfl, trivial⟩ ⟨rfl, rfl, rfl, rfl, trivial⟩ ?_
 rintro ⟨i, vo, zs⟩ ⟨hi, hz, hzl⟩
 dsimp only at hi hz hzl
 simp only [List.cons_append, List.nil_append]
 refine e_seq (e_seq (e_reg (mv rfl rfl (mv rfl rfl (dt (d_len rfl rfl (i := 1) rfl rd_slp Tryz.underlying23) rfl ?_)))))
 refine dt (d_lss rfl rfl rfl) rfl ?_
 refine l_nil (x_then (e_cond rfl (fun h41 => ?_) (fun h41 => ?_)))
 ·refine e_skip ?_
  refine x_then (e_seq (e_block (e_reg (mv rfl rfl (mv rfl rfl (mv rfl rfl (dt (d_ixa (ii := 1) rfl rfl rfl rfl rd_slp Tryz.underlying23 Tryz.sizeOf28 rfl (by first | omega | (simp only [List.length_set]; omega))) rfl ?_)))))))
  refine dt (d_lde (ii := 1) 0 rfl rfl rfl rd_slp pV (by first | omega | (simp only [List.length_set]; omega))) rfl ?_
  refine tt (t_call (n := 2) (r_from _ (by have := hs.getD i; omega)) rfl rfl rfl ⟨rfl, trivial⟩ Tryz.call49 pre_nil rfl hw) rfl (fun v _ => ?_)
  refine l_ex (f_slice 2 rfl rd_slp) (fun sl hsl => ?_)
  subst hsl
  refine tt (t_bsg (i := 3) (ivs := [(0, _)]) (enc := encI) [(xs.getD i 0, sl)] rfl rfl rfl ⟨rfl, rfl, trivial⟩ Tryz.underlying33 Tryz.ti39 rfl rfl rfl rfl rfl rfl pI.cells rfl rfl hw) rfl (fun v_2 _ => ?_)
  refine tt (t_appa (i := 70) (j := 3) (by_ := 32) rfl rfl rfl rfl rfl rfl (by decide) rfl (rd_osl pI) Tryz.underlying33 Tryz.ti39 rfl pI rfl rfl rfl (by simp; omega) (by decide) rfl hw) rfl (fun v_3 _ => ?_)
  refine as_ rfl rfl (l_nil (x_bn ?_))
  refine x_then (e_reg (mv rfl rfl (dt (d_add rfl rfl rfl ⟨by omega, by omega⟩) rfl ?_)))
  refine as_ rfl rfl (l_nil (x_imp (s_many_snoc (q := qI) (z := (xs.getD i 0, sl)) 71 2 71 rfl rfl rfl rfl rfl) ?_))
  exact x_rnd (i + 1, _, zs ++ [(xs.getD i 0, sl)]) ⟨by first | omega | (dsimp only <;> omega), by rw [take_snoc 0 _ _ (by omega), ← hz]; simp [ints], by simp [hzl]⟩ (by first | omega | (dsimp only <;> omega)) ⟨rfl, rfl, rfl, trivial⟩ ⟨rfl, rfl, rfl, rfl, trivial⟩
 ·refine e_exit ?_
  refine x_exit (x_exit (x_be ?_))
  refine x_then (e_seq (e_imp (s_pub 70 rfl rfl pI) ?_))
  refine e_imp (s_mkdeep 70 71 72 rfl rfl rfl rfl) ?_
  refine e_reg (mv rfl rfl (as_ rfl rfl (l_nil (x_then (e_ret ?_)))))
  exact x_end (.inl rfl) hsc (_, zs) _ (fun a w hs => res1 hs Tryz.results15 rfl) rfl (by rw [hz, List.take_of_length_le (by omega)]) rfl (give_same 72 rfl rfl rfl give_nil)
theorem rp_to (v : Value) (zs : List (Int × SL)) (hs : Sz 1000000 (ints zs)) (hl : zs.length ≤ 1000) : Cal Tryz.prog 25 #[v] [pp v zs] false (G := Value) (fun r => True) (fun r => r) (fun r => [slp 2 wv r (ints zs)]) := by
 refine cal_in Tryz.func25 rfl Tryz.ntmps25 rfl ⟨rfl, trivial⟩ ?_
 intro w0 sc hw hsc
 simp only [enumEnv, enumPre]
 have hli := length_ints zs
 refine e_seq (e_reg (as_ rfl rfl (l_nil (x_then (e_seq (e_reg (as_ rfl rfl (l_nil (x_then (e_seq (e_seq (e_reg (as_ rfl rfl (l_nil (x_then (e_block (e_imp (s_nil 70 2 28 wv) ?_)))))))))))))))))
 refine e_lp [(0, _)] [(0, _), (1, _)] (fun (q : Nat × Value) => [(4, .int .i64 (q.1 : Int)), (3, q.2)]) (fun (q : Nat × Value) => [(70, osl 2 28 wv q.2 ((ints zs).take q.1))]) (fun (q : Nat × Value) => (q.1 ≤ zs.length)) (fun (q : Nat × Value) => zs.length - q.1) (0, .slice none 0 0) (by first | omega | (dsimp only <;> omega)) ⟨rfl, rfl, rfl, trivial⟩ ⟨rfl, rfl, rfl, trivial⟩ ?_
 rintro ⟨i, vo⟩ hi
 dsimp only at hi
 simp only [List.cons_append, List.nil_append]
 have htl : ((ints zs).take i).length = i := by rw [List.length_take]; omega
 have hci := cf_ints zs i
 refine e_seq (e_seq (e_reg (mv rfl rfl (mv rfl rfl (dt (d_len rfl rfl (i := 1) rfl rd_deep Tryz.underlying33) rfl ?_)))))
 refine dt (d_lss rfl rfl rfl) rfl ?_
 refine l_nil (x_then (e_cond rfl (fun h50 => ?_) (fun h50 => ?_)))
 ·refine e_skip ?_
  refine x_then (e_seq (e_block (e_reg (mv rfl rfl (mv rfl rfl (mv rfl rfl (dt (d_ixa (ii := 1) rfl rfl rfl rfl rd_deep Tryz.underlying33 Tryz.sizeOf39 rfl (by first | omega | (simp only [List.length_set]; omega))) rfl ?_)))))))
  refine dt (d_lde (ii := 1) I0 rfl rfl rfl rd_deep pI (by first | omega | (simp only [List.length_set]; omega))) rfl ?_
  refine tt (t_call (n := 1) (r_to _ _ (by rw [hci]; have := hs i; omega)) rfl rfl rfl ⟨rfl, trivial⟩ Tryz.call17 (pre_dI 1 rfl rfl (getD_mem (by omega)) pre_nil) rfl hw) rfl (fun _ _ => ?_)
  refine tt (t_bsg (i := 2) (ivs := [(0, _)]) (enc := wv) [(zs.getD i I0).1] rfl rfl rfl ⟨rfl, rfl, trivial⟩ Tryz.underlying23 Tryz.ti28 rfl rfl rfl rfl rfl rfl pV.cells rfl rfl hw) rfl (fun v _ => ?_)
  refine tt (t_appa (i := 70) (j := 2) (by_ := 24) rfl rfl rfl rfl rfl rfl (by decide) rfl (rd_osl pV) Tryz.underlying23 Tryz.ti28 rfl pV rfl rfl rfl (by simp; omega) (by decide) rfl hw) rfl (fun v_2 _ => ?_)
  refine as_ rfl rfl (l_nil (x_bn ?_))
  refine x_then (e_reg (mv rfl rfl (dt (d_add rfl rfl rfl ⟨by omega, by omega⟩) rfl ?_)))
  refine as_ rfl rfl (l_nil ?_)
  exact x_rnd (i + 1, _) (by first | omega | (dsimp only <;> omega)) (by first | omega | (dsimp only <;> omega)) ⟨rfl, rfl, rfl, trivial⟩ ⟨by rw [take_snoc 0 _ _ (by omega), show (ints zs).getD i 0 = (zs.getD i I0).1 from hci.symm]; rfl, rfl, rfl, trivial⟩
 ·refine e_exit ?_
  refine x_exit (x_exit (x_be ?_))
  refine x_then (e_seq (e_reg (mv rfl rfl (as_ rfl rfl (l_nil (x_then (e_ret ?_)))))))
  exact x_end (.inl rfl) hsc _ _ (fun a w hs => res1 hs Tryz.results25 rfl) rfl trivial rfl (give_owne 70 rfl rfl pV (List.take_of_length_le (by omega)) give_nil)
theorem rp_trim (v : Value) (zs : List (Int × SL)) (hs : Sz 3000000000 (ints zs)) : Cal Tryz.prog 83 #[v] [pp v zs] true (G := Value × List (Int × SL)) (fun r => ints r.2 = tzl (ints zs)) (fun r => r.1) (fun r => [pp r.1 r.2]) := by
 refine cal_in Tryz.func83 rfl Tryz.ntmps83 rfl ⟨rfl, trivial⟩ ?_
 intro w0 sc hw hsc
 simp only [enumEnv, enumPre]
 refine e_fact (f_self_deep (i := 1) rfl) (fun hself => ?_)
 refine e_fact (f_len (i := 1) rfl rd_deep) (fun hlen => ?_)
 have hli := length_ints zs
 refine e_seq (e_reg (as_ rfl rfl (l_nil (x_then (e_seq (e_block (e_lp [] [(0, _)] (fun (k : Nat) => [(0, preV v k)]) (fun (k : Nat) => [(1, pp (preV v k) (zs.take k))]) (fun (k : Nat) => (k ≤ zs.length) ∧ (tzl ((ints zs).take k) = tzl (ints zs))) (fun (k : Nat) => k) zs.length ⟨Nat.le_refl _, by rw [List.take_of_length_le (by omega)]⟩ ⟨by rw [hself]; rfl, trivial⟩ ⟨by rw [hself, List.take_length]; rfl, rfl, trivial⟩ ?_)))))))
 rintro k ⟨hk, ht⟩
 simp only [List.cons_append, List.nil_append]
 have hl : (zs.take k).length = k := by rw [List.length_take]; omega
 have hce : ((zs.take k).getD (k - 1) I0).1 = ((ints zs).take k).getD (k - 1) 0 := by rw [cf_ints, take_ints]; rfl
 refine e_seq (e_seq (e_reg (mv rfl rfl (dt (d_len rfl rfl (i := 1) rfl rd_deep Tryz.underlying33) rfl ?_))))
 refine dt (d_gtr rfl rfl rfl) rfl ?_
 refine mv rfl rfl (l_split (d := 6) rfl (fun s22 => ?_) (fun s22 => ?_))
 ·refine gdt (d_mv rfl rfl) rfl rfl rfl rfl ?_
  refine gdt (d_mv rfl rfl) rfl rfl rfl rfl ?_
  refine gdt (d_len rfl rfl (i := 1) rfl rd_deep Tryz.underlying33) rfl rfl rfl rfl ?_
  refine gdt (d_sub rfl rfl rfl ⟨by omega, by omega⟩) rfl rfl rfl rfl ?_
  refine gdt (d_ixa (ii := 1) (i := k - 1) rfl rfl rfl rfl rd_deep Tryz.underlying33 Tryz.sizeOf39 (by omega) (by omega)) rfl rfl rfl rfl ?_
  refine gdt (d_lde (ii := 1) I0 rfl rfl rfl rd_deep pI (by omega)) rfl rfl rfl rfl ?_
  refine gtt (t_call (n := 1) (r_sign _ _ (by rw [hce]; exact (hs.take _).getD _)) rfl rfl rfl ⟨rfl, trivial⟩ Tryz.call61 (pre_dI 1 rfl rfl (getD_mem (by omega)) pre_nil) rfl hw) rfl rfl rfl rfl (fun _ _ => ?_)
  refine gdt (d_eql rfl rfl rfl) rfl rfl rfl rfl ?_
  refine dt (d_pickt rfl rfl rfl) rfl ?_
  refine l_nil (x_then (e_cond rfl (fun h22 => ?_) (fun h22 => ?_)))
  ·rw [hce] at h22
   have hstep := tzl_step (xs := ints zs) (k := k) (by omega) (by omega) (takeD_zero (k := k) (by omega) (Int.sign_eq_zero_iff_zero.1 h22))
   refine e_skip ?_
   refine x_then (e_block (e_reg (mv rfl rfl (mv rfl rfl (dt (d_len rfl rfl (i := 1) rfl rd_deep Tryz.underlying33) rfl ?_)))))
   refine dt (d_sub rfl rfl rfl ⟨by omega, by omega⟩) rfl ?_
   refine dt (d_pre (ii := 1) (i := k - 1) rfl rfl rfl rfl rd_deep Tryz.underlying33 Tryz.sizeOf39 (by omega) (by omega)) rfl ?_
   refine as_ rfl rfl (l_nil (x_bn ?_))
   refine x_imp (s_predeep 1 1 (k - 1) rfl rfl (by omega)) ?_
   exact x_rnd (k - 1) ⟨by first | omega | (dsimp only <;> omega), by rw [← ht, ← hstep]⟩ (by first | omega | (dsimp only <;> omega)) ⟨by rw [← preV_preV v k (k - 1)]; rfl, trivial⟩ ⟨by rw [preV_preV, List.take_take, Nat.min_eq_left (by omega)]; rfl, rfl, trivial⟩
  ·try rw [hce] at h22
   refine e_exit ?_
   refine x_exit (x_exit (x_be ?_))
   refine x_then (e_seq (e_reg (mv rfl rfl (as_ rfl rfl (l_nil (x_then (e_ret ?_)))))))
   exact x_end (.inl rfl) hsc (_, zs.take k) _ (fun a w hs => res1 hs Tryz.results83 rfl) rfl (by rw [take_ints, ← ht]; exact (tzl_stop (by omega) (by first | (left; omega) | (right; exact takeD_ne (k := k) (by omega) (by assumption)))).symm) rfl (give_same 1 rfl rfl rfl give_nil)
 ·refine gsk rfl rfl rfl rfl rfl (gsk rfl rfl rfl rfl rfl (gsk rfl rfl rfl rfl rfl (gsk rfl rfl rfl rfl rfl (gsk rfl rfl rfl rfl rfl (gsk rfl rfl rfl rfl rfl (gsk rfl rfl rfl rfl rfl (gsk rfl rfl rfl rfl rfl (dt (d_pickf rfl rfl rfl) rfl ?_))))))))
  refine l_nil (x_then (e_condf rfl ?_))
  refine e_exit ?_
  refine x_exit (x_exit (x_be ?_))
  refine x_then (e_seq (e_reg (mv rfl rfl (as_ rfl rfl (l_nil (x_then (e_ret ?_)))))))
  exact x_end (.inl rfl) hsc (_, zs.take k) _ (fun a w hs => res1 hs Tryz.results83 rfl) rfl (by rw [take_ints, ← ht]; exact (tzl_stop (by omega) (by first | (left; omega) | (right; exact takeD_ne (k := k) (by omega) (by assumption)))).symm) rfl (give_same 1 rfl rfl rfl give_nil)
theorem rp_nums (v : Value) (l : List Int) (hl : ∀ x ∈ l, inI x) (hlen : l.length ≤ 1000) : Cal Tryz.prog 33 #[v] [slp 1 encZ v l] true (G := Value × List (Int × SL)) (fun r => ints r.2 = tzl l) (fun r => r.1) (fun r => [pp r.1 r.2]) := by
 refine cal_in Tryz.func33 rfl Tryz.ntmps33 rfl ⟨rfl, trivial⟩ ?_
 intro w0 sc hw hsc
 simp only [enumEnv, enumPre]
 have hsz := sz_ints hl
 refine e_seq (e_reg (as_ rfl rfl (l_nil (x_then (e_seq (e_reg (as_ rfl rfl (l_nil (x_then (e_seq (e_seq (e_reg (as_ rfl rfl (l_nil (x_then (e_block (e_imp (s_nil 70 2 39 encI) ?_)))))))))))))))))
 refine e_imp (s_many_nil qI 71) ?_
 refine e_lp [(0, _)] [(0, _), (1, _)] (fun (q : Nat × Value × List (Int × SL)) => [(4, .int .i64 (q.1 : Int)), (3, q.2.1)]) (fun (q : Nat × Value × List (Int × SL)) => [(70, osl 2 39 encI q.2.1 q.2.2), (71, many qI q.2.2)]) (fun (q : Nat × Value × List (Int × SL)) => (q.1 ≤ l.length) ∧ (ints q.2.2 = mk q.1 (cf l)) ∧ (q.2.2.length = q.1)) (fun (q : Nat × Value × List (Int × SL)) => l.length - q.1) (0, .slice none 0 0, []) ⟨by first | omega | (dsimp only <;> omega), rfl, rfl⟩ ⟨rfl, rfl, rfl, trivial⟩ ⟨rfl, rfl, rfl, rfl, trivial⟩ ?_
 rintro ⟨i, vo, ws⟩ ⟨hi, hz, hzl⟩
 dsimp only at hi hz hzl
 simp only [List.cons_append, List.nil_append]
 refine e_seq (e_seq (e_reg (mv rfl rfl (mv rfl rfl (dt (d_len rfl rfl (i := 1) rfl rd_slp Tryz.underlying37) rfl ?_)))))
 refine dt (d_lss rfl rfl rfl) rfl ?_
 refine l_nil (x_then (e_cond rfl (fun h59 => ?_) (fun h59 => ?_)))
 ·refine e_skip ?_
  refine x_then (e_seq (e_block (e_reg (mv rfl rfl (mv rfl rfl (mv rfl rfl (dt (d_ixa (ii := 1) rfl rfl rfl rfl rd_slp Tryz.underlying37 Tryz.sizeOf3 rfl (by first | omega | (simp only [List.length_set]; omega))) rfl ?_)))))))
  refine dt (d_lde (ii := 1) 0 rfl rfl rfl rd_slp pZ (by first | omega | (simp only [List.length_set]; omega))) rfl ?_
  refine tt (t_call (n := 2) (r_num _ (hl _ (getD_mem (by omega)))) rfl rfl rfl ⟨rfl, trivial⟩ Tryz.call43 pre_nil rfl hw) rfl (fun v _ => ?_)
  refine l_ex (f_slice 2 rfl rd_slp) (fun sl hsl => ?_)
  subst hsl
  refine tt (t_bsg (i := 3) (ivs := [(0, _)]) (enc := encI) [(l.getD i 0, sl)] rfl rfl rfl ⟨rfl, rfl, trivial⟩ Tryz.underlying33 Tryz.ti39 rfl rfl rfl rfl rfl rfl pI.cells rfl rfl hw) rfl (fun v_2 _ => ?_)
  refine tt (t_appa (i := 70) (j := 3) (by_ := 32) rfl rfl rfl rfl rfl rfl (by decide) rfl (rd_osl pI) Tryz.underlying33 Tryz.ti39 rfl pI rfl rfl rfl (by simp; omega) (by decide) rfl hw) rfl (fun v_3 _ => ?_)
  refine as_ rfl rfl (l_nil (x_bn ?_))
  refine x_then (e_reg (mv rfl rfl (dt (d_add rfl rfl rfl ⟨by omega, by omega⟩) rfl ?_)))
  refine as_ rfl rfl (l_nil (x_imp (s_many_snoc (q := qI) (z := (l.getD i 0, sl)) 71 2 71 rfl rfl rfl rfl rfl) ?_))
  exact x_rnd (i + 1, _, ws ++ [(l.getD i 0, sl)]) ⟨by first | omega | (dsimp only <;> omega), by rw [ints_snoc, mk_succ, hz]; dsimp only; rfl, by simp [hzl]⟩ (by first | omega | (dsimp only <;> omega)) ⟨rfl, rfl, rfl, trivial⟩ ⟨rfl, rfl, rfl, rfl, trivial⟩
 ·refine e_exit ?_
  refine x_exit (x_exit (x_be ?_))
  refine x_then (e_seq (e_imp (s_pub 70 rfl rfl pI) ?_))
  refine e_imp (s_mkdeep 70 71 72 rfl rfl rfl rfl) ?_
  refine e_reg (mv rfl rfl (tt (t_call (n := 4) (rp_trim _ _ (by rw [hz]; exact mk_sz fun t ht => by have := hsz t; omega)) rfl rfl rfl ⟨rfl, trivial⟩ Tryz.call83 (pre_same 72 rfl rfl rfl pre_nil) rfl hw) rfl (fun g hg => ?_)))
  refine as_ rfl rfl (l_nil (x_then (e_ret ?_)))
  exact x_end (.inl rfl) hsc _ _ (fun a w hs => res1 hs Tryz.results33 rfl) rfl (by rw [hg, hz, show i = l.length by omega, mk_self]) rfl (give_same 4 rfl rfl rfl give_nil)
theorem rp_at (v : Value) (zs : List (Int × SL)) (j : Int) (i : Nat) (hj : j = (i : Int)) (hi : i ≤ 1000000) : Cal Tryz.prog 84 #[v, .int .i64 j] [pp v zs] true (G := Value) (fun r => True) (fun r => .agg #[.bool (decide (cf (ints zs) i < 0)), r]) (fun r => [d9p r (cf (ints zs) i).natAbs]) := by
 refine cal_in Tryz.func84 rfl Tryz.ntmps84 rfl ⟨rfl, trivial⟩ ?_
 intro w0 sc hw hsc
 simp only [enumEnv, enumPre]
 have hli := length_ints zs
 refine e_fact (f_len (i := 1) rfl rd_deep) (fun hlen => ?_)
 refine e_imp (s_nil 60 1 3 encN) ?_
 refine e_imp (s_pub 60 rfl rfl pN) ?_
 refine e_seq (e_reg (tt (t_alloc (i := 2) rfl rfl rfl Tryz.zeroValue39 rfl rfl hw) rfl (fun b _ => ?_)))
 refine l_nil (x_then (e_seq (e_seq (e_reg (mv rfl rfl (dt (d_lss rfl rfl rfl) rfl ?_))))))
 refine mv rfl rfl (l_split (d := 7) rfl (fun s91 => ?_) (fun s91 => ?_))
 ·exfalso; omega
 ·refine gdt (d_mv rfl rfl) rfl rfl rfl rfl ?_
  refine gdt (d_mv rfl rfl) rfl rfl rfl rfl ?_
  refine gdt (d_len rfl rfl (i := 1) rfl rd_deep Tryz.underlying33) rfl rfl rfl rfl ?_
  refine gdt (d_geq rfl rfl rfl) rfl rfl rfl rfl ?_
  refine dt (d_pickf rfl rfl rfl) rfl ?_
  refine l_nil (x_then (e_cond rfl (fun h91 => ?_) (fun h91 => ?_)))
  ·refine e_seq (e_reg (dt (d_bld (ivs := []) rfl trivial (fun a w hs => b39_)) rfl ?_))
   refine tt (t_stw (i := 2) rfl rfl rfl rfl rfl (by decide) rfl Tryz.sizeOf39 rfl rfl ⟨(one_rfl rfl), (one_rfl rfl), trivial⟩ rfl hw trivial) rfl (fun _ _ => ?_)
   refine l_nil (x_then (e_ret (x_ret ?_)))
   have hz0 : cf (ints zs) i = 0 := cf_ge (by omega)
   exact x_end (.inl rfl) hsc (.slice none 0 0) _ (fun a w hs => res1 hs Tryz.results84 (rv_cell (i := 2) rfl rfl Tryz.isAgg39 Tryz.sizeOf39 rfl)) (by rw [hz0] <;> rfl) trivial rfl (give_none (by rw [hz0]; rfl) give_nil)
  ·refine e_skip ?_
   refine x_then (e_seq (e_reg (mv rfl rfl (mv rfl rfl (dt (d_ixa (ii := 1) (i := i) rfl rfl rfl rfl rd_deep Tryz.underlying33 Tryz.sizeOf39 hj (by omega)) rfl ?_)))))
   refine dt (d_lde (ii := 1) I0 rfl rfl rfl rd_deep pI (by omega)) rfl ?_
   refine tt (t_stw (i := 2) rfl rfl rfl rfl rfl (by decide) rfl Tryz.sizeOf39 rfl rfl ⟨(one_rfl rfl), (one_rfl rfl), trivial⟩ rfl hw trivial) rfl (fun _ _ => ?_)
   refine l_nil (x_then (e_ret ?_))
   exact x_end (.inl rfl) hsc _ _ (fun a w hs => res1 hs Tryz.results84 (rv_cell (i := 2) rfl rfl Tryz.isAgg39 Tryz.sizeOf39 rfl)) (by rw [← cf_ints] <;> rfl) trivial rfl (give_dI 1 rfl rfl (getD_mem (i := i) (by omega)) (by rw [← cf_ints] <;> rfl) give_nil)
theorem rp_scale (v w : Value) (zs : List (Int × SL)) (y : Int) (hs : Sz 1000000 (ints zs)) (hl : zs.length ≤ 1000) (hy : bl y.natAbs ≤ 1000000) : Cal Tryz.prog 47 #[v, .agg #[.bool (decide (y < 0)), w]] [pp v zs, d9p w y.natAbs] true (G := Value × List (Int × SL)) (fun r => ints r.2 = pscale (ints zs) y) (fun r => r.1) (fun r => [pp r.1 r.2]) := by
 refine cal_in Tryz.func47 rfl Tryz.ntmps47 rfl ⟨rfl, rfl, trivial⟩ ?_
 intro w0 sc hw hsc
 simp only [enumEnv, enumPre]
 have hli := length_ints zs
 refine e_seq (e_reg (tt (t_box (i := 3) rfl rfl rfl rfl rfl rfl hw) rfl (fun b _ => ?_)))
 refine as_ rfl rfl (l_nil (x_then (e_seq (e_reg (as_ rfl rfl (l_nil (x_then (e_seq (e_seq (e_reg (as_ rfl rfl (l_nil (x_then (e_block (e_imp (s_nil 70 2 39 encI) ?_)))))))))))))))
 refine e_imp (s_many_nil qI 71) ?_
 refine e_lp [(0, _), (3, _)] [(0, _), (1, _), (2, _), (3, _)] (fun (q : Nat × Value × List (Int × SL)) => [(6, .int .i64 (q.1 : Int)), (5, q.2.1)]) (fun (q : Nat × Value × List (Int × SL)) => [(70, osl 2 39 encI q.2.1 q.2.2), (71, many qI q.2.2)]) (fun (q : Nat × Value × List (Int × SL)) => (q.1 ≤ zs.length) ∧ (ints q.2.2 = mk q.1 (fun t => cf (ints zs) t * y)) ∧ (q.2.2.length = q.1)) (fun (q : Nat × Value × List (Int × SL)) => zs.length - q.1) (0, .slice none 0 0, []) ⟨by first | omega | (dsimp only <;> omega), rfl, rfl⟩ ⟨rfl, rfl, rfl, rfl, trivial⟩ ⟨rfl, rfl, rfl, rfl, rfl, rfl, trivial⟩ ?_
 rintro ⟨i, vo, ws⟩ ⟨hi, hz, hzl⟩
 dsimp only at hi hz hzl
 simp only [List.cons_append, List.nil_append]
 have hci := cf_ints zs i
 refine e_seq (e_seq (e_reg (mv rfl rfl (mv rfl rfl (dt (d_len rfl rfl (i := 1) rfl rd_deep Tryz.underlying33) rfl ?_)))))
 refine dt (d_lss rfl rfl rfl) rfl ?_
 refine l_nil (x_then (e_cond rfl (fun h109 => ?_) (fun h109 => ?_)))
 ·refine e_skip ?_
  refine x_then (e_seq (e_block (e_dregf [1, 3] [9] (by kernel_rfl) ?_)))
  refine a_lin' (n := 3) [(0, 0), (1, 0), (2, 0), (3, 0), (4, 0), (5, 0), (6, 1)] (by kernel_rfl) ?_
  refine r0' rfl rfl rfl rfl (stf (d_mv rfl rfl) ⟨rfl, rfl, trivial⟩) ?_
  refine r0' rfl rfl rfl rfl (stf (d_mv rfl rfl) ⟨rfl, rfl, trivial⟩) ?_
  refine r0' rfl rfl rfl rfl (stf (d_mv rfl rfl) ⟨rfl, rfl, trivial⟩) ?_
  refine r0' rfl rfl rfl rfl (stf (d_ixa (ii := 1) rfl rfl rfl rfl rd_deep Tryz.underlying33 Tryz.sizeOf39 rfl (by first | omega | (simp only [List.length_set]; omega))) ⟨rfl, rfl, trivial⟩) ?_
  refine r0' rfl rfl rfl rfl (stf (d_lde (ii := 1) I0 rfl rfl rfl rd_deep pI (by first | omega | (simp only [List.length_set]; omega))) ⟨rfl, rfl, trivial⟩) ?_
  refine r0' rfl rfl rfl rfl (stf (d_lb2 (i := 3) rfl rfl rfl Tryz.isAgg39 Tryz.sizeOf39 rfl rfl) ⟨rfl, rfl, trivial⟩) ?_
  refine r1' rfl rfl (t_call (n := 4) (r_mul _ _ _ _ (by rw [hci]; have := hs i; omega) (by omega)) rfl rfl rfl ⟨rfl, rfl, trivial⟩ Tryz.call44 (pre_dI 1 rfl rfl (getD_mem (by omega)) (pre_same 2 rfl rfl rfl pre_nil)) rfl hw) (fun v _ => ?_)
  refine r_fin ?_
  refine a_ex (f_slice 4 rfl rd_slp) (fun sl hsl => ?_)
  subst hsl
  refine a_lin' (n := 0) [(7, 1), (8, 1), (9, 3)] (by kernel_rfl) ?_
  refine r1' rfl rfl (t_bsg (i := 73) (ivs := [(0, _)]) (enc := encI) [((zs.getD i I0).1 * y, sl)] rfl rfl rfl ⟨rfl, rfl, trivial⟩ Tryz.underlying33 Tryz.ti39 rfl rfl rfl rfl rfl rfl pI.cells rfl rfl hw) (fun v_2 _ => ?_)
  refine r1' rfl rfl (t_offr 70 rfl rfl rfl ⟨rfl, rfl, trivial⟩ (fun hoffr => (t_appaM (xs := ws) (ys := [_]) (i := 70) (j := 73) (by_ := 32) rfl rfl rfl rfl rfl rfl (by decide) rfl (rd_osl pI) Tryz.underlying33 Tryz.ti39 rfl pI rfl rfl rfl (by simp; omega) (by decide) rfl hw hoffr))) (fun v_3 _ => ?_)
  refine r3' rfl rfl (t_det (d_as rfl rfl) rfl rfl) (fun _ _ => ?_)
  refine r_fin ?_
  refine a_done (by kernel_rfl) ?_
  refine x_bn ?_
  refine x_then (e_reg (mv rfl rfl (dt (d_add rfl rfl rfl ⟨by omega, by omega⟩) rfl ?_)))
  refine as_ rfl rfl (l_nil (x_imp (s_many_snoc (q := qI) (z := ((zs.getD i I0).1 * y, sl)) 71 4 71 rfl rfl rfl rfl rfl) ?_))
  exact x_rnd (i + 1, _, ws ++ [((zs.getD i I0).1 * y, sl)]) ⟨by first | omega | (dsimp only <;> omega), by rw [ints_snoc, mk_succ, hz]; dsimp only; rw [cf_ints], by simp [hzl]⟩ (by first | omega | (dsimp only <;> omega)) ⟨rfl, rfl, rfl, rfl, trivial⟩ ⟨rfl, rfl, rfl, rfl, rfl, rfl, trivial⟩
 ·refine e_exit ?_
  refine x_exit (x_exit (x_be ?_))
  refine x_then (e_seq (e_imp (s_pub 70 rfl rfl pI) ?_))
  refine e_imp (s_mkdeep 70 71 72 rfl rfl rfl rfl) ?_
  refine e_reg (mv rfl rfl (tt (t_call (n := 5) (rp_trim _ _ (by rw [hz]; exact mk_sz fun t ht => by have := bl_imul (cf (ints zs) t) y; have := hs t; omega)) rfl rfl rfl ⟨rfl, trivial⟩ Tryz.call83 (pre_same 72 rfl rfl rfl pre_nil) rfl hw) rfl (fun g hg => ?_)))
  refine as_ rfl rfl (l_nil (x_then (e_ret ?_)))
  exact x_end (.inl rfl) hsc _ _ (fun a w hs => res1 hs Tryz.results47 rfl) rfl (by rw [hg, hz, show i = (ints zs).length by omega, pscale_mk2]) rfl (give_same 5 rfl rfl rfl give_nil)
theorem rp_neg (v : Value) (zs : List (Int × SL)) (hs : Sz 1000000 (ints zs)) (hl : zs.length ≤ 1000) : Cal Tryz.prog 72 #[v] [pp v zs] true (G := Value × List (Int × SL)) (fun r => ints r.2 = pscale (ints zs) (-1)) (fun r => r.1) (fun r => [pp r.1 r.2]) := by
 refine cal_in Tryz.func72 rfl Tryz.ntmps72 rfl ⟨rfl, trivial⟩ ?_
 intro w0 sc hw hsc
 simp only [enumEnv, enumPre]
 refine e_seq (e_reg (as_ rfl rfl (l_nil (x_then (e_seq (e_reg (mv rfl rfl (tt (t_call (n := 2) (r_num (-1) ⟨by omega, by omega⟩) rfl rfl rfl ⟨rfl, trivial⟩ Tryz.call43 pre_nil rfl hw) rfl (fun v _ => ?_)))))))))
 refine tt (t_call (n := 3) (rp_scale _ _ _ _ hs hl (by decide)) rfl rfl rfl ⟨rfl, rfl, trivial⟩ Tryz.call47 (pre_same 1 rfl rfl rfl (pre_same 2 rfl rfl rfl pre_nil)) rfl hw) rfl (fun g hg => ?_)
 refine as_ rfl rfl (l_nil (x_then (e_ret ?_)))
 exact x_end (.inl rfl) hsc _ _ (fun a w hs => res1 hs Tryz.results72 rfl) rfl hg rfl (give_same 3 rfl rfl rfl give_nil)
theorem rp_add (v u : Value) (zs ys : List (Int × SL)) (hs : Sz 1000000 (ints zs)) (hl : zs.length ≤ 1000) (ht : Sz 1000000 (ints ys)) (hk : ys.length ≤ 1000) : Cal Tryz.prog 148 #[v, u] [pp v zs, pp u ys] true (G := Value × List (Int × SL)) (fun r => ints r.2 = padd (ints zs) (ints ys)) (fun r => r.1) (fun r => [pp r.1 r.2]) := by
 refine cal_in Tryz.func148 rfl Tryz.ntmps148 rfl ⟨rfl, rfl, trivial⟩ ?_
 intro w0 sc hw hsc
 simp only [enumEnv, enumPre]
 have hli := length_ints zs
 have hli2 := length_ints ys
 refine e_fact (f_len (i := 1) rfl rd_deep) (fun hlen => ?_)
 refine e_fact (f_len (i := 2) rfl rd_deep) (fun hlen2 => ?_)
 refine e_seq (e_reg (as_ rfl rfl (l_nil (x_then (e_seq (e_reg (as_ rfl rfl (l_nil (x_then (e_seq (e_seq (e_reg (as_ rfl rfl (l_nil (x_then (e_block (e_imp (s_nil 70 2 39 encI) ?_)))))))))))))))))
 refine e_imp (s_many_nil qI 71) ?_
 refine e_lp [(0, _), (1, _)] [(0, _), (1, _), (2, _)] (fun (q : Nat × Value × List (Int × SL)) => [(6, .int .i64 (q.1 : Int)), (5, q.2.1)]) (fun (q : Nat × Value × List (Int × SL)) => [(70, osl 2 39 encI q.2.1 q.2.2), (71, many qI q.2.2)]) (fun (q : Nat × Value × List (Int × SL)) => (q.1 ≤ (max zs.length ys.length)) ∧ (ints q.2.2 = mk q.1 (fun t => cf (ints zs) t + cf (ints ys) t)) ∧ (q.2.2.length = q.1)) (fun (q : Nat × Value × List (Int × SL)) => (max zs.length ys.length) - q.1) (0, .slice none 0 0, []) ⟨by first | omega | (dsimp only <;> omega), rfl, rfl⟩ ⟨rfl, rfl, rfl, rfl, trivial⟩ ⟨rfl, rfl, rfl, rfl, rfl, trivial⟩ ?_
 rintro ⟨i, vo, ws⟩ ⟨hi, hz, hzl⟩
 dsimp only at hi hz hzl
 simp only [List.cons_append, List.nil_append]
 refine e_seq (e_jn [(0, _), (1, _), (5, _), (6, _)] [(0, _), (70, _), (71, _), (1, _), (2, _)] (fun (_ : Unit) => [(16, .bool (decide (i < max zs.length ys.length)))]) (fun (_ : Unit) => []) (fun (_ : Unit) => True) ⟨rfl, rfl, rfl, rfl, trivial⟩ ⟨rfl, rfl, rfl, rfl, rfl, trivial⟩ ?_ ?_)
 ·refine e_reg (mv rfl rfl (mv rfl rfl (dt (d_len rfl rfl (i := 1) rfl rd_deep Tryz.underlying33) rfl ?_)))
  refine dt (d_lss rfl rfl rfl) rfl ?_
  refine mv rfl rfl (l_split (d := 11) rfl (fun s100 => ?_) (fun s100 => ?_))
  ·refine gsk rfl rfl rfl rfl rfl (gsk rfl rfl rfl rfl rfl (gsk rfl rfl rfl rfl rfl (gsk rfl rfl rfl rfl rfl (dt (d_pickt rfl rfl rfl) rfl ?_))))
   refine l_nil ?_
   exact x_jn () trivial ⟨by first | exact congrArg some (congrArg Value.bool (decide_eq_decide.2 (by omega))) | exact congrArg some (congrArg Value.bool (decide_eq_true (by omega)).symm), rfl, rfl, rfl, rfl, trivial⟩ ⟨rfl, rfl, rfl, rfl, rfl, trivial⟩
  ·refine gdt (d_mv rfl rfl) rfl rfl rfl rfl ?_
   refine gdt (d_mv rfl rfl) rfl rfl rfl rfl ?_
   refine gdt (d_len rfl rfl (i := 2) rfl rd_deep Tryz.underlying33) rfl rfl rfl rfl ?_
   refine gdt (d_lss rfl rfl rfl) rfl rfl rfl rfl ?_
   refine dt (d_pickf rfl rfl rfl) rfl ?_
   refine l_nil ?_
   exact x_jn () trivial ⟨by first | exact congrArg some (congrArg Value.bool (decide_eq_decide.2 (by omega))) | exact congrArg some (congrArg Value.bool (decide_eq_true (by omega)).symm), rfl, rfl, rfl, rfl, trivial⟩ ⟨rfl, rfl, rfl, rfl, rfl, trivial⟩
 ·rintro _ -
  simp only [List.cons_append, List.nil_append]
  refine e_cond rfl (fun h100 => ?_) (fun h100 => ?_)
  ·refine e_skip ?_
   refine x_then (e_seq (e_block (e_reg (mv rfl rfl (mv rfl rfl (mv rfl rfl (tt (t_call (n := 3) (rp_at _ _ _ i rfl (by omega)) rfl rfl rfl ⟨rfl, rfl, trivial⟩ Tryz.call84 (pre_same 1 rfl rfl rfl pre_nil) rfl hw) rfl (fun v _ => ?_))))))))
   refine mv rfl rfl (mv rfl rfl (tt (t_call (n := 4) (rp_at _ _ _ i rfl (by omega)) rfl rfl rfl ⟨rfl, rfl, trivial⟩ Tryz.call84 (pre_same 2 rfl rfl rfl pre_nil) rfl hw) rfl (fun v_2 _ => ?_)))
   refine tt (t_call (n := 5) (r_add _ _ _ _ (by have := hs i; omega) (by have := ht i; omega)) rfl rfl rfl ⟨rfl, rfl, trivial⟩ Tryz.call42 (pre_same 3 rfl rfl rfl (pre_same 4 rfl rfl rfl pre_nil)) rfl hw) rfl (fun v_3 _ => ?_)
   refine l_ex (f_slice 5 rfl rd_slp) (fun sl hsl => ?_)
   subst hsl
   refine tt (t_bsg (i := 6) (ivs := [(0, _)]) (enc := encI) [(cf (ints zs) i + cf (ints ys) i, sl)] rfl rfl rfl ⟨rfl, rfl, trivial⟩ Tryz.underlying33 Tryz.ti39 rfl rfl rfl rfl rfl rfl pI.cells rfl rfl hw) rfl (fun v_4 _ => ?_)
   refine tt (t_appa (i := 70) (j := 6) (by_ := 32) rfl rfl rfl rfl rfl rfl (by decide) rfl (rd_osl pI) Tryz.underlying33 Tryz.ti39 rfl pI rfl rfl rfl (by simp; omega) (by decide) rfl hw) rfl (fun v_5 _ => ?_)
   refine as_ rfl rfl (l_nil (x_bn ?_))
   refine x_then (e_reg (mv rfl rfl (dt (d_add rfl rfl rfl ⟨by omega, by omega⟩) rfl ?_)))
   refine as_ rfl rfl (l_nil (x_imp (s_many_snoc (q := qI) (z := (cf (ints zs) i + cf (ints ys) i, sl)) 71 5 71 rfl rfl rfl rfl rfl) ?_))
   exact x_rnd (i + 1, _, ws ++ [(cf (ints zs) i + cf (ints ys) i, sl)]) ⟨by first | omega | (dsimp only <;> omega), by rw [ints_snoc, mk_succ, hz], by simp [hzl]⟩ (by first | omega | (dsimp only <;> omega)) ⟨rfl, rfl, rfl, rfl, trivial⟩ ⟨rfl, rfl, rfl, rfl, rfl, trivial⟩
  ·refine e_exit ?_
   refine x_exit (x_exit (x_be ?_))
   refine x_then (e_seq (e_imp (s_pub 70 rfl rfl pI) ?_))
   refine e_imp (s_mkdeep 70 71 72 rfl rfl rfl rfl) ?_
   refine e_reg (mv rfl rfl (tt (t_call (n := 7) (rp_trim _ _ (by rw [hz]; exact mk_sz fun t h => by have := bl_iadd (cf (ints zs) t) (cf (ints ys) t); have := hs t; have := ht t; omega)) rfl rfl rfl ⟨rfl, trivial⟩ Tryz.call83 (pre_same 72 rfl rfl rfl pre_nil) rfl hw) rfl (fun g hg => ?_)))
   refine as_ rfl rfl (l_nil (x_then (e_ret ?_)))
   exact x_end (.inl rfl) hsc _ _ (fun a w hs => res1 hs Tryz.results148 rfl) rfl (by rw [hg, hz, show i = max (ints zs).length (ints ys).length by omega, padd_mk]) rfl (give_same 7 rfl rfl rfl give_nil)
theorem rp_sub (v u : Value) (zs ys : List (Int × SL)) (hs : Sz 1000000 (ints zs)) (hl : zs.length ≤ 1000) (ht : Sz 1000000 (ints ys)) (hk : ys.length ≤ 1000) : Cal Tryz.prog 124 #[v, u] [pp v zs, pp u ys] true (G := Value × List (Int × SL)) (fun r => ints r.2 = psub (ints zs) (ints ys)) (fun r => r.1) (fun r => [pp r.1 r.2]) := by
 refine cal_in Tryz.func124 rfl Tryz.ntmps124 rfl ⟨rfl, rfl, trivial⟩ ?_
 intro w0 sc hw hsc
 simp only [enumEnv, enumPre]
 refine e_seq (e_reg (as_ rfl rfl (l_nil (x_then (e_seq (e_reg (mv rfl rfl (mv rfl rfl (tt (t_call (n := 3) (rp_neg _ _ ht hk) rfl rfl rfl ⟨rfl, trivial⟩ Tryz.call72 (pre_same 2 rfl rfl rfl pre_nil) rfl hw) rfl (fun g hg => ?_))))))))))
 refine tt (t_call (n := 4) (rp_add _ _ _ _ hs hl (by rw [hg]; intro t; rw [cf_pscale]; have h1 := ht t; rw [Int.mul_neg, Int.mul_one, bl_neg]; exact h1) (by rw [← length_ints, hg]; have := pscale_len (ints ys) (-1); rw [length_ints] at this; omega)) rfl rfl rfl ⟨rfl, rfl, trivial⟩ Tryz.call148 (pre_same 1 rfl rfl rfl (pre_same 3 rfl rfl rfl pre_nil)) rfl hw) rfl (fun g_2 hg_2 => ?_)
 refine as_ rfl rfl (l_nil (x_then (e_ret ?_)))
 exact x_end (.inl rfl) hsc _ _ (fun a w hs => res1 hs Tryz.results124 rfl) rfl (by rw [hg_2, hg, psub_eq]) rfl (give_same 4 rfl rfl rfl give_nil)
theorem rp_derive (v : Value) (zs : List (Int × SL)) (hs : Sz 1000000 (ints zs)) (hl : zs.length ≤ 1000) : Cal Tryz.prog 71 #[v] [pp v zs] true (G := Value × List (Int × SL)) (fun r => ints r.2 = pder (ints zs)) (fun r => r.1) (fun r => [pp r.1 r.2]) := by
 refine cal_in Tryz.func71 rfl Tryz.ntmps71 rfl ⟨rfl, trivial⟩ ?_
 intro w0 sc hw hsc
 simp only [enumEnv, enumPre]
 have hli := length_ints zs
 refine e_seq (e_reg (as_ rfl rfl (l_nil (x_then (e_seq (e_reg (as_ rfl rfl (l_nil (x_then (e_seq (e_seq (e_reg (as_ rfl rfl (l_nil (x_then (e_block (e_imp (s_nil 70 2 39 encI) ?_)))))))))))))))))
 refine e_imp (s_many_nil qI 71) ?_
 refine e_lp [(0, _)] [(0, _), (1, _)] (fun (q : Nat × Value × List (Int × SL)) => [(4, .int .i64 ((q.1 : Int) + 1)), (3, q.2.1)]) (fun (q : Nat × Value × List (Int × SL)) => [(70, osl 2 39 encI q.2.1 q.2.2), (71, many qI q.2.2)]) (fun (q : Nat × Value × List (Int × SL)) => (q.1 ≤ (zs.length - 1)) ∧ (ints q.2.2 = mk q.1 (fun t => cf (ints zs) (t + 1) * ((t : Int) + 1))) ∧ (q.2.2.length = q.1)) (fun (q : Nat × Value × List (Int × SL)) => (zs.length - 1) - q.1) (0, .slice none 0 0, []) ⟨by first | omega | (dsimp only <;> omega), rfl, rfl⟩ ⟨rfl, rfl, rfl, trivial⟩ ⟨rfl, rfl, rfl, rfl, trivial⟩ ?_
 rintro ⟨i, vo, ws⟩ ⟨hi, hz, hzl⟩
 dsimp only at hi hz hzl
 simp only [List.cons_append, List.nil_append]
 have hci := cf_ints zs (i + 1)
 refine e_seq (e_seq (e_reg (mv rfl rfl (mv rfl rfl (dt (d_len rfl rfl (i := 1) rfl rd_deep Tryz.underlying33) rfl ?_)))))
 refine dt (d_lss rfl rfl rfl) rfl ?_
 refine l_nil (x_then (e_cond rfl (fun h140 => ?_) (fun h140 => ?_)))
 ·refine e_skip ?_
  refine x_then (e_seq (e_block (e_dregf [1] [10] (by kernel_rfl) ?_)))
  refine a_lin' (n := 3) [(0, 0), (1, 0), (2, 0), (3, 0), (4, 0), (5, 0), (6, 1), (7, 1)] (by kernel_rfl) ?_
  refine r0' rfl rfl rfl rfl (stf (d_mv rfl rfl) ⟨rfl, trivial⟩) ?_
  refine r0' rfl rfl rfl rfl (stf (d_mv rfl rfl) ⟨rfl, trivial⟩) ?_
  refine r0' rfl rfl rfl rfl (stf (d_mv rfl rfl) ⟨rfl, trivial⟩) ?_
  refine r0' rfl rfl rfl rfl (stf (d_ixa (ii := 1) (i := (i + 1)) rfl rfl rfl rfl rd_deep Tryz.underlying33 Tryz.sizeOf39 (by omega) (by omega)) ⟨rfl, trivial⟩) ?_
  refine r0' rfl rfl rfl rfl (stf (d_lde (ii := 1) I0 rfl rfl rfl rd_deep pI (by omega)) ⟨rfl, trivial⟩) ?_
  refine r0' rfl rfl rfl rfl (stf (d_mv rfl rfl) ⟨rfl, trivial⟩) ?_
  refine r1' rfl rfl (t_call (n := 2) (r_num ((i : Int) + 1) ⟨by omega, by omega⟩) rfl rfl rfl ⟨rfl, trivial⟩ Tryz.call43 pre_nil rfl hw) (fun v _ => ?_)
  refine r1' rfl rfl (t_call (n := 3) (r_mul _ _ _ _ (by rw [hci]; have := hs (i + 1); omega) (bl_i1 (by omega))) rfl rfl rfl ⟨rfl, rfl, trivial⟩ Tryz.call44 (pre_dI 1 rfl rfl (getD_mem (i := i + 1) (by omega)) (pre_same 2 rfl rfl rfl pre_nil)) rfl hw) (fun v_2 _ => ?_)
  refine r_fin ?_
  refine a_ex (f_slice 3 rfl rd_slp) (fun sl hsl => ?_)
  subst hsl
  refine a_lin' (n := 0) [(8, 1), (9, 1), (10, 3)] (by kernel_rfl) ?_
  refine r1' rfl rfl (t_bsg (i := 73) (ivs := [(0, _)]) (enc := encI) [((zs.getD (i + 1) I0).1 * ((i : Int) + 1), sl)] rfl rfl rfl ⟨rfl, rfl, trivial⟩ Tryz.underlying33 Tryz.ti39 rfl rfl rfl rfl rfl rfl pI.cells rfl rfl hw) (fun v_3 _ => ?_)
  refine r1' rfl rfl (t_offr 70 rfl rfl rfl ⟨rfl, trivial⟩ (fun hoffr => (t_appaM (xs := ws) (ys := [_]) (i := 70) (j := 73) (by_ := 32) rfl rfl rfl rfl rfl rfl (by decide) rfl (rd_osl pI) Tryz.underlying33 Tryz.ti39 rfl pI rfl rfl rfl (by simp; omega) (by decide) rfl hw hoffr))) (fun v_4 _ => ?_)
  refine r3' rfl rfl (t_det (d_as rfl rfl) rfl rfl) (fun _ _ => ?_)
  refine r_fin ?_
  refine a_done (by kernel_rfl) ?_
  refine x_bn ?_
  refine x_then (e_reg (mv rfl rfl (dt (d_add rfl rfl rfl ⟨by omega, by omega⟩) rfl ?_)))
  refine as_ rfl rfl (l_nil (x_imp (s_many_snoc (q := qI) (z := ((zs.getD (i + 1) I0).1 * ((i : Int) + 1), sl)) 71 3 71 rfl rfl rfl rfl rfl) ?_))
  exact x_rnd (i + 1, _, ws ++ [((zs.getD (i + 1) I0).1 * ((i : Int) + 1), sl)]) ⟨by first | omega | (dsimp only <;> omega), by rw [ints_snoc, mk_succ, hz]; dsimp only; rw [cf_ints], by simp [hzl]⟩ (by first | omega | (dsimp only <;> omega)) ⟨rfl, rfl, rfl, trivial⟩ ⟨rfl, rfl, rfl, rfl, trivial⟩
 ·refine e_exit ?_
  refine x_exit (x_exit (x_be ?_))
  refine x_then (e_seq (e_imp (s_pub 70 rfl rfl pI) ?_))
  refine e_imp (s_mkdeep 70 71 72 rfl rfl rfl rfl) ?_
  refine e_reg (mv rfl rfl (as_ rfl rfl (l_nil (x_then (e_ret ?_)))))
  exact x_end (.inl rfl) hsc (_, ws) _ (fun a w hs => res1 hs Tryz.results71 rfl) rfl (by rw [hz, show i = (ints zs).length - 1 by omega] <;> rfl) rfl (give_same 72 rfl rfl rfl give_nil)
theorem rp_power (v : Value) (x : Int) (j : Int) (n : Nat) (hj : j = (n : Int)) (hn : n ≤ 100) (hx : bl x.natAbs ≤ 1000000) : Cal Tryz.prog 149 #[.agg #[.bool (decide (x < 0)), v], .int .i64 j] [d9p v x.natAbs] true (G := Value) (fun r => True) (fun r => .agg #[.bool (decide (x ^ n < 0)), r]) (fun r => [d9p r (x ^ n).natAbs]) := by
 refine cal_in Tryz.func149 rfl Tryz.ntmps149 rfl ⟨rfl, trivial⟩ ?_
 intro w0 sc hw hsc
 simp only [enumEnv, enumPre]
 have hpb := fun k => sz_ipow hx k
 refine e_seq (e_reg (tt (t_box (i := 2) rfl rfl rfl rfl rfl rfl hw) rfl (fun b _ => ?_)))
 refine tt (t_alloc (i := 3) rfl rfl rfl Tryz.zeroValue39 rfl rfl hw) rfl (fun b_2 _ => ?_)
 refine l_nil (x_then (e_seq (e_reg (tt (t_call (n := 98) (r_num 1 ⟨by omega, by omega⟩) rfl rfl rfl ⟨rfl, trivial⟩ Tryz.call43 pre_nil rfl hw) rfl (fun v _ => ?_)))))
 refine tt (t_alloc (i := 97) rfl rfl rfl Tryz.zeroValue39 rfl rfl hw) rfl (fun b_3 _ => ?_)
 refine tt (t_stw (i := 97) rfl rfl rfl rfl rfl (by decide) rfl Tryz.sizeOf39 rfl rfl ⟨(one_rfl rfl), (one_rd (i := 98) rfl rd_slp), trivial⟩ rfl hw trivial) rfl (fun _ _ => ?_)
 refine l_nil (x_then (e_seq (e_seq (e_reg (as_ rfl rfl (l_nil (x_then (e_block (e_lp [(1, _), (2, _), (4, _), (5, _)] [(0, _), (1, _), (2, _), (3, _)] (fun (q : Nat × Value) => [(6, .int .i64 (q.1 : Int))]) (fun (q : Nat × Value) => [(97, box b_3 39 #[.bool (decide (x ^ q.1 < 0)), q.2]), (98, d9p q.2 (x ^ q.1).natAbs)]) (fun (q : Nat × Value) => (q.1 ≤ n)) (fun (q : Nat × Value) => n - q.1) (0, _) (by first | omega | (dsimp only <;> omega)) ⟨rfl, rfl, rfl, rfl, rfl, trivial⟩ ⟨by rw [Int.pow_zero]; rfl, by rw [Int.pow_zero]; rfl, rfl, rfl, rfl, rfl, trivial⟩ ?_)))))))))
 rintro ⟨i, vs⟩ hi
 dsimp only at hi
 simp only [List.cons_append, List.nil_append]
 have hp1 := hpb i
 have hp2 : i * 1000000 ≤ 100 * 1000000 := Nat.mul_le_mul_right _ (by omega)
 refine e_seq (e_seq (e_reg (mv rfl rfl (mv rfl rfl (dt (d_lss rfl rfl rfl) rfl ?_)))))
 refine l_nil (x_then (e_cond rfl (fun h149 => ?_) (fun h149 => ?_)))
 ·refine e_skip ?_
  refine x_then (e_seq (e_block (e_reg (dt (d_lb2 (i := 97) rfl rfl rfl Tryz.isAgg39 Tryz.sizeOf39 rfl rfl) rfl ?_))))
  refine dt (d_lb2 (i := 2) rfl rfl rfl Tryz.isAgg39 Tryz.sizeOf39 rfl rfl) rfl ?_
  refine tt (t_call (n := 4) (r_mul _ _ _ _ (by omega) (by omega)) rfl rfl rfl ⟨rfl, rfl, trivial⟩ Tryz.call44 (pre_same 98 rfl rfl rfl (pre_same 1 rfl rfl rfl pre_nil)) rfl hw) rfl (fun v_2 _ => ?_)
  refine tt (t_stw (i := 97) rfl rfl rfl rfl rfl (by decide) rfl Tryz.sizeOf39 rfl rfl ⟨(one_rfl rfl), (one_rd (i := 4) rfl rd_slp), trivial⟩ rfl hw trivial) rfl (fun _ _ => ?_)
  refine l_nil (x_bn ?_)
  refine x_then (e_reg (mv rfl rfl (dt (d_add rfl rfl rfl ⟨by omega, by omega⟩) rfl ?_)))
  refine as_ rfl rfl (l_nil (x_imp (s_dup 4 98 rfl rfl rfl) ?_))
  exact x_rnd (i + 1, v_2) (by first | omega | (dsimp only <;> omega)) (by first | omega | (dsimp only <;> omega)) ⟨rfl, rfl, rfl, rfl, rfl, trivial⟩ ⟨by rw [Int.pow_succ]; rfl, by rw [Int.pow_succ]; rfl, rfl, rfl, rfl, rfl, trivial⟩
 ·refine e_exit ?_
  refine x_exit (x_exit (x_be ?_))
  refine x_then (e_seq ?_)
  obtain rfl : i = n := by omega
  refine e_reg (dt (d_lb2 (i := 97) rfl rfl rfl Tryz.isAgg39 Tryz.sizeOf39 rfl rfl) rfl ?_)
  refine tt (t_stw (i := 3) rfl rfl rfl rfl rfl (by decide) rfl Tryz.sizeOf39 rfl rfl ⟨(one_rfl rfl), (one_rd (i := 98) rfl rd_slp), trivial⟩ rfl hw trivial) rfl (fun _ _ => ?_)
  refine l_nil (x_then (e_ret ?_))
  exact x_end (.inl rfl) hsc _ _ (fun a w hs => res1 hs Tryz.results149 (rv_cell (i := 3) rfl rfl Tryz.isAgg39 Tryz.sizeOf39 rfl)) rfl trivial rfl (give_same 98 rfl rfl rfl give_nil)
theorem rp_content (v : Value) (zs : List (Int × SL)) (hs : Sz 1000000 (ints zs)) (hl : zs.length ≤ 1000) : Cal Tryz.prog 123 #[v] [pp v zs] true (G := Value) (fun r => True) (fun r => .agg #[.bool (decide (pcont (ints zs) < 0)), r]) (fun r => [d9p r (pcont (ints zs)).natAbs]) := by
 refine cal_in Tryz.func123 rfl Tryz.ntmps123 rfl ⟨rfl, trivial⟩ ?_
 intro w0 sc hw hsc
 simp only [enumEnv, enumPre]
 have hli := length_ints zs
 have hcb : ∀ k, bl (pcont ((ints zs).take k)).natAbs ≤ 1000000 := fun k => pcont_bl _ (hs.take k)
 refine e_seq (e_reg (tt (t_alloc (i := 2) rfl rfl rfl Tryz.zeroValue39 rfl rfl hw) rfl (fun b _ => ?_)))
 refine l_nil (x_then (e_seq (e_reg (dt (d_bld (ivs := []) rfl trivial (fun a w hs => b39_)) rfl ?_))))
 refine tt (t_alloc (i := 97) rfl rfl rfl Tryz.zeroValue39 rfl rfl hw) rfl (fun b_2 _ => ?_)
 refine tt (t_stw (i := 97) rfl rfl rfl rfl rfl (by decide) rfl Tryz.sizeOf39 rfl rfl ⟨(one_rfl rfl), (one_rfl rfl), trivial⟩ rfl hw trivial) rfl (fun _ _ => ?_)
 refine l_nil (x_then (e_seq (e_seq (e_reg (as_ rfl rfl (l_nil (x_then (e_block (e_imp (s_nil 98 1 3 encN) ?_)))))))))
 refine e_imp (s_pub 98 rfl rfl pN) ?_
 refine e_lp [(0, _), (2, _), (3, _)] [(0, _), (1, _), (2, _)] (fun (q : Nat × Value) => [(4, .int .i64 (q.1 : Int))]) (fun (q : Nat × Value) => [(97, box b_2 39 #[.bool (decide (pcont ((ints zs).take q.1) < 0)), q.2]), (98, d9p q.2 (pcont ((ints zs).take q.1)).natAbs)]) (fun (q : Nat × Value) => (q.1 ≤ zs.length)) (fun (q : Nat × Value) => zs.length - q.1) (0, .slice none 0 0) (by first | omega | (dsimp only <;> omega)) ⟨rfl, rfl, rfl, rfl, trivial⟩ ⟨rfl, rfl, rfl, rfl, rfl, trivial⟩ ?_
 rintro ⟨i, vs⟩ hi
 dsimp only at hi
 simp only [List.cons_append, List.nil_append]
 have hci := cf_ints zs i
 have hgc := fun h => pcont_take_succ (p := ints zs) (k := i) h
 have h1 := hcb i
 have h2 := hs i
 refine e_seq (e_seq (e_reg (mv rfl rfl (mv rfl rfl (dt (d_len rfl rfl (i := 1) rfl rd_deep Tryz.underlying33) rfl ?_)))))
 refine dt (d_lss rfl rfl rfl) rfl ?_
 refine l_nil (x_then (e_cond rfl (fun h186 => ?_) (fun h186 => ?_)))
 ·refine e_skip ?_
  refine x_then (e_seq (e_block (e_dreg (fun _ => False) [(0, 0), (1, 0), (2, 0), (3, 0), (4, 0), (5, 1), (6, 3)] (by kernel_rfl) ?_ ?_)))
  ·kernel_rfl
  refine r0' rfl rfl rfl rfl (st0 (d_lb2 (i := 97) rfl rfl rfl Tryz.isAgg39 Tryz.sizeOf39 rfl rfl)) ?_
  refine r0' rfl rfl rfl rfl (st0 (d_mv rfl rfl)) ?_
  refine r0' rfl rfl rfl rfl (st0 (d_mv rfl rfl)) ?_
  refine r0' rfl rfl rfl rfl (st0 (d_ixa (ii := 1) rfl rfl rfl rfl rd_deep Tryz.underlying33 Tryz.sizeOf39 rfl (by first | omega | (simp only [List.length_set]; omega)))) ?_
  refine r0' rfl rfl rfl rfl (st0 (d_lde (ii := 1) I0 rfl rfl rfl rd_deep pI (by first | omega | (simp only [List.length_set]; omega)))) ?_
  refine r1' rfl rfl (t_call (n := 3) (r_gcd _ _ _ _ (by omega) (by rw [hci]; omega)) rfl rfl rfl ⟨rfl, rfl, trivial⟩ Tryz.call134 (pre_same 98 rfl rfl rfl (pre_dI 1 rfl rfl (getD_mem (by omega)) pre_nil)) rfl hw) (fun v _ => ?_)
  refine r3' rfl rfl (t_stw (i := 97) rfl rfl rfl rfl rfl (by decide) rfl Tryz.sizeOf39 rfl rfl ⟨(one_rfl rfl), (one_rd (i := 3) rfl rd_slp), trivial⟩ rfl hw trivial) (fun _ _ => ?_)
  refine r_end ?_
  refine x_bn ?_
  refine x_then (e_reg (mv rfl rfl (dt (d_add rfl rfl rfl ⟨by omega, by omega⟩) rfl ?_)))
  refine as_ rfl rfl (l_nil (x_imp (s_dup 3 98 rfl rfl rfl) ?_))
  exact x_rnd (i + 1, v) (by first | omega | (dsimp only <;> omega)) (by first | omega | (dsimp only <;> omega)) ⟨rfl, rfl, rfl, rfl, trivial⟩ ⟨by rw [hgc (by omega), show (ints zs).getD i 0 = (zs.getD i I0).1 from hci.symm]; rfl, by rw [hgc (by omega), show (ints zs).getD i 0 = (zs.getD i I0).1 from hci.symm]; rfl, rfl, rfl, rfl, trivial⟩
 ·refine e_exit ?_
  refine x_exit (x_exit (x_be ?_))
  refine x_then (e_seq ?_)
  obtain rfl : i = zs.length := by omega
  rw [List.take_of_length_le (by omega : (ints zs).length ≤ zs.length)]
  refine e_reg (dt (d_lb2 (i := 97) rfl rfl rfl Tryz.isAgg39 Tryz.sizeOf39 rfl rfl) rfl ?_)
  refine tt (t_stw (i := 2) rfl rfl rfl rfl rfl (by decide) rfl Tryz.sizeOf39 rfl rfl ⟨(one_rfl rfl), (one_rd (i := 98) rfl rd_slp), trivial⟩ rfl hw trivial) rfl (fun _ _ => ?_)
  refine l_nil (x_then (e_ret ?_))
  exact x_end (.inl rfl) hsc _ _ (fun a w hs => res1 hs Tryz.results123 (rv_cell (i := 2) rfl rfl Tryz.isAgg39 Tryz.sizeOf39 rfl)) rfl trivial rfl (give_same 98 rfl rfl rfl give_nil)
theorem rp_primitive (v : Value) (zs : List (Int × SL)) (hs : Sz 1000000 (ints zs)) (hl : zs.length ≤ 1000) (hc : zs.length ≠ 0 → pcont (ints zs) ≠ 0) : Cal Tryz.prog 70 #[v] [pp v zs] true (G := Value × List (Int × SL)) (fun r => ints r.2 = pprim (ints zs)) (fun r => r.1) (fun r => [pp r.1 r.2]) := by
 refine cal_in Tryz.func70 rfl Tryz.ntmps70 rfl ⟨rfl, trivial⟩ ?_
 intro w0 sc hw hsc
 simp only [enumEnv, enumPre]
 have hli := length_ints zs
 have hcb : bl (pcont (ints zs)).natAbs ≤ 1000000 := pcont_bl _ hs
 refine e_seq (e_reg (as_ rfl rfl (l_nil (x_then (e_seq (e_reg (mv rfl rfl (tt (t_call (n := 2) (rp_content _ _ hs hl) rfl rfl rfl ⟨rfl, trivial⟩ Tryz.call123 (pre_same 1 rfl rfl rfl pre_nil) rfl hw) rfl (fun v _ => ?_)))))))))
 refine tt (t_alloc (i := 3) rfl rfl rfl Tryz.zeroValue39 rfl rfl hw) rfl (fun b _ => ?_)
 refine tt (t_stw (i := 3) rfl rfl rfl rfl rfl (by decide) rfl Tryz.sizeOf39 rfl rfl ⟨(one_rfl rfl), (one_rd (i := 2) rfl rd_slp), trivial⟩ rfl hw trivial) rfl (fun _ _ => ?_)
 refine l_nil (x_then (e_seq (e_reg (as_ rfl rfl (l_nil (x_then (e_seq (e_seq (e_reg (as_ rfl rfl (l_nil (x_then (e_block (e_imp (s_nil 70 2 39 encI) ?_))))))))))))))
 refine e_imp (s_many_nil qI 71) ?_
 refine e_lp [(0, _), (3, _)] [(0, _), (1, _), (2, _), (3, _)] (fun (q : Nat × Value × List (Int × SL)) => [(5, .int .i64 (q.1 : Int)), (4, q.2.1)]) (fun (q : Nat × Value × List (Int × SL)) => [(70, osl 2 39 encI q.2.1 q.2.2), (71, many qI q.2.2)]) (fun (q : Nat × Value × List (Int × SL)) => (q.1 ≤ zs.length) ∧ (ints q.2.2 = mk q.1 (fun t => cf (ints zs) t / pcont (ints zs))) ∧ (q.2.2.length = q.1)) (fun (q : Nat × Value × List (Int × SL)) => zs.length - q.1) (0, .slice none 0 0, []) ⟨by first | omega | (dsimp only <;> omega), rfl, rfl⟩ ⟨rfl, rfl, rfl, rfl, trivial⟩ ⟨rfl, rfl, rfl, rfl, rfl, rfl, trivial⟩ ?_
 rintro ⟨i, vo, ws⟩ ⟨hi, hz, hzl⟩
 dsimp only at hi hz hzl
 simp only [List.cons_append, List.nil_append]
 have hci := cf_ints zs i
 refine e_seq (e_seq (e_reg (mv rfl rfl (mv rfl rfl (dt (d_len rfl rfl (i := 1) rfl rd_deep Tryz.underlying33) rfl ?_)))))
 refine dt (d_lss rfl rfl rfl) rfl ?_
 refine l_nil (x_then (e_cond rfl (fun h196 => ?_) (fun h196 => ?_)))
 ·refine e_skip ?_
  refine x_then (e_seq (e_block (e_jn [(0, _), (3, _), (4, _), (5, _)] [(0, _), (70, _), (71, _), (1, _), (2, _), (3, _)] (fun (q : Value × Nat) => [(6, .pointer (some ⟨q.2, 0, none⟩))]) (fun (q : Value × Nat) => [(83, d9p q.1 ((zs.getD i I0).1 / pcont (ints zs)).natAbs), (97, box q.2 39 #[.bool (decide ((zs.getD i I0).1 / pcont (ints zs) < 0)), q.1])]) (fun (q : Value × Nat) => True) ⟨rfl, rfl, rfl, rfl, trivial⟩ ⟨rfl, rfl, rfl, rfl, rfl, rfl, trivial⟩ ?_ ?_)))
  ·refine e_dregf [1, 3] [12] (by kernel_rfl) ?_
   refine a_lin' (n := 8) [(0, 0), (1, 0), (2, 0), (3, 0), (4, 0)] (by kernel_rfl) ?_
   refine r0' rfl rfl rfl rfl (stf (d_mv rfl rfl) ⟨rfl, rfl, trivial⟩) ?_
   refine r0' rfl rfl rfl rfl (stf (d_mv rfl rfl) ⟨rfl, rfl, trivial⟩) ?_
   refine r0' rfl rfl rfl rfl (stf (d_ixa (ii := 1) rfl rfl rfl rfl rd_deep Tryz.underlying33 Tryz.sizeOf39 rfl (by first | omega | (simp only [List.length_set]; omega))) ⟨rfl, rfl, trivial⟩) ?_
   refine r0' rfl rfl rfl rfl (stf (d_lde (ii := 1) I0 rfl rfl rfl rd_deep pI (by first | omega | (simp only [List.length_set]; omega))) ⟨rfl, rfl, trivial⟩) ?_
   refine r0' rfl rfl rfl rfl (stf (d_lb2 (i := 3) rfl rfl rfl Tryz.isAgg39 Tryz.sizeOf39 rfl rfl) ⟨rfl, rfl, trivial⟩) ?_
   refine r_fin ?_
   refine a_br3 (n := 7) 5 9 10 (by kernel_rfl) ?_ ?_ ?_
   ·refine aact' rfl rfl (t_call (n := 83) (r_quo _ _ _ _ (by rw [hci]; have := hs i; omega) (by omega) (hc (by omega))) rfl rfl rfl ⟨rfl, rfl, trivial⟩ Tryz.call63 (pre_dI 1 rfl rfl (getD_mem (by omega)) (pre_same 2 rfl rfl rfl pre_nil)) rfl hw) (fun g _ => ?_)
    refine a_lin' (n := 4) [(6, 0), (7, 0), (8, 0)] (by kernel_rfl) ?_
    refine r0' rfl rfl rfl rfl (stf (d_mv rfl rfl) ⟨rfl, rfl, trivial⟩) ?_
    refine r0' rfl rfl rfl rfl (stf (d_ex rfl rfl rfl) ⟨rfl, rfl, trivial⟩) ?_
    refine r0' rfl rfl rfl rfl (stf (d_ex rfl rfl rfl) ⟨rfl, rfl, trivial⟩) ?_
    refine r_fin ?_
    refine a_br2 (n := 3) 9 10 (by kernel_rfl) ?_ ?_
    ·refine aact' rfl rfl (t_allocf (i := 97) rfl rfl rfl Tryz.zeroValue39 rfl rfl hw ⟨rfl, rfl, trivial⟩) (fun b_2 hoff => ?_)
     refine a_lin' (n := 0) [(10, 1), (11, 1), (12, 3)] (by kernel_rfl) ?_
     refine r1' rfl rfl (t_allocf (i := 99) rfl rfl rfl Tryz.zeroValue39 rfl rfl hw ⟨rfl, rfl, trivial⟩) (fun b_3 hoff_2 => ?_)
     refine r1' rfl rfl (t_stw (i := 97) rfl rfl rfl rfl rfl (by decide) rfl Tryz.sizeOf39 rfl rfl ⟨(one_rfl rfl), (one_rd (i := 83) rfl rd_slp), trivial⟩ rfl hw hoff) (fun _ _ => ?_)
     refine r3' rfl rfl (t_stw (i := 99) rfl rfl rfl rfl rfl (by decide) rfl Tryz.sizeOf39 rfl rfl ⟨(one_rfl rfl), (one_rd (i := 84) rfl rd_slp), trivial⟩ rfl hw trivial) (fun _ _ => ?_)
     refine r_fin ?_
     refine a_done (by kernel_rfl) ?_
     exact x_jn (_, _) trivial ⟨rfl, rfl, rfl, rfl, rfl, trivial⟩ ⟨rfl, rfl, rfl, rfl, rfl, rfl, rfl, rfl, trivial⟩
    ·refine aact' rfl rfl (t_allocf (i := 99) rfl rfl rfl Tryz.zeroValue39 rfl rfl hw ⟨rfl, rfl, trivial⟩) (fun b_4 hoff_3 => ?_)
     refine a_lin' (n := 0) [(9, 1), (11, 1), (12, 3)] (by kernel_rfl) ?_
     refine r1' rfl rfl (t_allocf (i := 97) rfl rfl rfl Tryz.zeroValue39 rfl rfl hw ⟨rfl, rfl, trivial⟩) (fun b_5 hoff_4 => ?_)
     refine r1' rfl rfl (t_stw (i := 97) rfl rfl rfl rfl rfl (by decide) rfl Tryz.sizeOf39 rfl rfl ⟨(one_rfl rfl), (one_rd (i := 83) rfl rd_slp), trivial⟩ rfl hw hoff_4) (fun _ _ => ?_)
     refine r3' rfl rfl (t_stw (i := 99) rfl rfl rfl rfl rfl (by decide) rfl Tryz.sizeOf39 rfl rfl ⟨(one_rfl rfl), (one_rd (i := 84) rfl rd_slp), trivial⟩ rfl hw trivial) (fun _ _ => ?_)
     refine r_fin ?_
     refine a_done (by kernel_rfl) ?_
     exact x_jn (_, _) trivial ⟨rfl, rfl, rfl, rfl, rfl, trivial⟩ ⟨rfl, rfl, rfl, rfl, rfl, rfl, rfl, rfl, trivial⟩
   ·refine aact' rfl rfl (t_allocf (i := 97) rfl rfl rfl Tryz.zeroValue39 rfl rfl hw ⟨rfl, rfl, trivial⟩) (fun b_6 hoff_5 => ?_)
    refine a_br2 (n := 6) 5 10 (by kernel_rfl) ?_ ?_
    ·refine aact' rfl rfl (t_call (n := 83) (r_quo _ _ _ _ (by rw [hci]; have := hs i; omega) (by omega) (hc (by omega))) rfl rfl rfl ⟨rfl, rfl, trivial⟩ Tryz.call63 (pre_dI 1 rfl rfl (getD_mem (by omega)) (pre_same 2 rfl rfl rfl pre_nil)) rfl hw) (fun g_2 _ => ?_)
     refine a_lin' (n := 0) [(6, 0), (7, 0), (8, 0), (10, 1), (11, 1), (12, 3)] (by kernel_rfl) ?_
     refine r0' rfl rfl rfl rfl (stf (d_mv rfl rfl) ⟨rfl, rfl, trivial⟩) ?_
     refine r0' rfl rfl rfl rfl (stf (d_ex rfl rfl rfl) ⟨rfl, rfl, trivial⟩) ?_
     refine r0' rfl rfl rfl rfl (stf (d_ex rfl rfl rfl) ⟨rfl, rfl, trivial⟩) ?_
     refine r1' rfl rfl (t_allocf (i := 99) rfl rfl rfl Tryz.zeroValue39 rfl rfl hw ⟨rfl, rfl, trivial⟩) (fun b_7 hoff_6 => ?_)
     refine r1' rfl rfl (t_stw (i := 97) rfl rfl rfl rfl rfl (by decide) rfl Tryz.sizeOf39 rfl rfl ⟨(one_rfl rfl), (one_rd (i := 83) rfl rd_slp), trivial⟩ rfl hw hoff_5) (fun _ _ => ?_)
     refine r3' rfl rfl (t_stw (i := 99) rfl rfl rfl rfl rfl (by decide) rfl Tryz.sizeOf39 rfl rfl ⟨(one_rfl rfl), (one_rd (i := 84) rfl rd_slp), trivial⟩ rfl hw trivial) (fun _ _ => ?_)
     refine r_fin ?_
     refine a_done (by kernel_rfl) ?_
     exact x_jn (_, _) trivial ⟨rfl, rfl, rfl, rfl, rfl, trivial⟩ ⟨rfl, rfl, rfl, rfl, rfl, rfl, rfl, rfl, trivial⟩
    ·refine aact' rfl rfl (t_allocf (i := 99) rfl rfl rfl Tryz.zeroValue39 rfl rfl hw ⟨rfl, rfl, trivial⟩) (fun b_8 hoff_7 => ?_)
     refine a_lin' (n := 0) [(5, 1), (6, 0), (7, 0), (8, 0), (11, 1), (12, 3)] (by kernel_rfl) ?_
     refine r1' rfl rfl (t_call (n := 83) (r_quo _ _ _ _ (by rw [hci]; have := hs i; omega) (by omega) (hc (by omega))) rfl rfl rfl ⟨rfl, rfl, trivial⟩ Tryz.call63 (pre_dI 1 rfl rfl (getD_mem (by omega)) (pre_same 2 rfl rfl rfl pre_nil)) rfl hw) (fun g_3 _ => ?_)
     refine r0' rfl rfl rfl rfl (stf (d_mv rfl rfl) ⟨rfl, rfl, trivial⟩) ?_
     refine r0' rfl rfl rfl rfl (stf (d_ex rfl rfl rfl) ⟨rfl, rfl, trivial⟩) ?_
     refine r0' rfl rfl rfl rfl (stf (d_ex rfl rfl rfl) ⟨rfl, rfl, trivial⟩) ?_
     refine r1' rfl rfl (t_stw (i := 97) rfl rfl rfl rfl rfl (by decide) rfl Tryz.sizeOf39 rfl rfl ⟨(one_rfl rfl), (one_rd (i := 83) rfl rd_slp), trivial⟩ rfl hw hoff_5) (fun _ _ => ?_)
     refine r3' rfl rfl (t_stw (i := 99) rfl rfl rfl rfl rfl (by decide) rfl Tryz.sizeOf39 rfl rfl ⟨(one_rfl rfl), (one_rd (i := 84) rfl rd_slp), trivial⟩ rfl hw trivial) (fun _ _ => ?_)
     refine r_fin ?_
     refine a_done (by kernel_rfl) ?_
     exact x_jn (_, _) trivial ⟨rfl, rfl, rfl, rfl, rfl, trivial⟩ ⟨rfl, rfl, rfl, rfl, rfl, rfl, rfl, rfl, trivial⟩
   ·refine aact' rfl rfl (t_allocf (i := 99) rfl rfl rfl Tryz.zeroValue39 rfl rfl hw ⟨rfl, rfl, trivial⟩) (fun b_9 hoff_8 => ?_)
    refine a_br2 (n := 6) 5 9 (by kernel_rfl) ?_ ?_
    ·refine aact' rfl rfl (t_call (n := 83) (r_quo _ _ _ _ (by rw [hci]; have := hs i; omega) (by omega) (hc (by omega))) rfl rfl rfl ⟨rfl, rfl, trivial⟩ Tryz.call63 (pre_dI 1 rfl rfl (getD_mem (by omega)) (pre_same 2 rfl rfl rfl pre_nil)) rfl hw) (fun g_4 _ => ?_)
     refine a_lin' (n := 0) [(6, 0), (7, 0), (8, 0), (9, 1), (11, 1), (12, 3)] (by kernel_rfl) ?_
     refine r0' rfl rfl rfl rfl (stf (d_mv rfl rfl) ⟨rfl, rfl, trivial⟩) ?_
     refine r0' rfl rfl rfl rfl (stf (d_ex rfl rfl rfl) ⟨rfl, rfl, trivial⟩) ?_
     refine r0' rfl rfl rfl rfl (stf (d_ex rfl rfl rfl) ⟨rfl, rfl, trivial⟩) ?_
     refine r1' rfl rfl (t_allocf (i := 97) rfl rfl rfl Tryz.zeroValue39 rfl rfl hw ⟨rfl, rfl, trivial⟩) (fun b_10 hoff_9 => ?_)
     refine r1' rfl rfl (t_stw (i := 97) rfl rfl rfl rfl rfl (by decide) rfl Tryz.sizeOf39 rfl rfl ⟨(one_rfl rfl), (one_rd (i := 83) rfl rd_slp), trivial⟩ rfl hw hoff_9) (fun _ _ => ?_)
     refine r3' rfl rfl (t_stw (i := 99) rfl rfl rfl rfl rfl (by decide) rfl Tryz.sizeOf39 rfl rfl ⟨(one_rfl rfl), (one_rd (i := 84) rfl rd_slp), trivial⟩ rfl hw trivial) (fun _ _ => ?_)
     refine r_fin ?_
     refine a_done (by kernel_rfl) ?_
     exact x_jn (_, _) trivial ⟨rfl, rfl, rfl, rfl, rfl, trivial⟩ ⟨rfl, rfl, rfl, rfl, rfl, rfl, rfl, rfl, trivial⟩
    ·refine aact' rfl rfl (t_allocf (i := 97) rfl rfl rfl Tryz.zeroValue39 rfl rfl hw ⟨rfl, rfl, trivial⟩) (fun b_11 hoff_10 => ?_)
     refine a_lin' (n := 0) [(5, 1), (6, 0), (7, 0), (8, 0), (11, 1), (12, 3)] (by kernel_rfl) ?_
     refine r1' rfl rfl (t_call (n := 83) (r_quo _ _ _ _ (by rw [hci]; have := hs i; omega) (by omega) (hc (by omega))) rfl rfl rfl ⟨rfl, rfl, trivial⟩ Tryz.call63 (pre_dI 1 rfl rfl (getD_mem (by omega)) (pre_same 2 rfl rfl rfl pre_nil)) rfl hw) (fun g_5 _ => ?_)
     refine r0' rfl rfl rfl rfl (stf (d_mv rfl rfl) ⟨rfl, rfl, trivial⟩) ?_
     refine r0' rfl rfl rfl rfl (stf (d_ex rfl rfl rfl) ⟨rfl, rfl, trivial⟩) ?_
     refine r0' rfl rfl rfl rfl (stf (d_ex rfl rfl rfl) ⟨rfl, rfl, trivial⟩) ?_
     refine r1' rfl rfl (t_stw (i := 97) rfl rfl rfl rfl rfl (by decide) rfl Tryz.sizeOf39 rfl rfl ⟨(one_rfl rfl), (one_rd (i := 83) rfl rd_slp), trivial⟩ rfl hw hoff_10) (fun _ _ => ?_)
     refine r3' rfl rfl (t_stw (i := 99) rfl rfl rfl rfl rfl (by decide) rfl Tryz.sizeOf39 rfl rfl ⟨(one_rfl rfl), (one_rd (i := 84) rfl rd_slp), trivial⟩ rfl hw trivial) (fun _ _ => ?_)
     refine r_fin ?_
     refine a_done (by kernel_rfl) ?_
     exact x_jn (_, _) trivial ⟨rfl, rfl, rfl, rfl, rfl, trivial⟩ ⟨rfl, rfl, rfl, rfl, rfl, rfl, rfl, rfl, trivial⟩
  ·rintro ⟨qv, b6⟩ -
   simp only [List.cons_append, List.nil_append]
   refine e_ex (f_slice 83 rfl rd_slp) (fun sl hsl => ?_)
   subst hsl
   refine e_reg (mv rfl rfl (dt (d_lb2 (i := 97) rfl rfl rfl Tryz.isAgg39 Tryz.sizeOf39 rfl rfl) rfl ?_))
   refine tt (t_bsg (i := 4) (ivs := [(0, _)]) (enc := encI) [((zs.getD i I0).1 / pcont (ints zs), sl)] rfl rfl rfl ⟨rfl, rfl, trivial⟩ Tryz.underlying33 Tryz.ti39 rfl rfl rfl rfl rfl rfl pI.cells rfl rfl hw) rfl (fun v_2 _ => ?_)
   refine tt (t_appa (i := 70) (j := 4) (by_ := 32) rfl rfl rfl rfl rfl rfl (by decide) rfl (rd_osl pI) Tryz.underlying33 Tryz.ti39 rfl pI rfl rfl rfl (by simp; omega) (by decide) rfl hw) rfl (fun v_3 _ => ?_)
   refine as_ rfl rfl (l_nil (x_bn ?_))
   refine x_then (e_reg (mv rfl rfl (dt (d_add rfl rfl rfl ⟨by omega, by omega⟩) rfl ?_)))
   refine as_ rfl rfl (l_nil (x_imp (s_many_snoc (q := qI) (z := ((zs.getD i I0).1 / pcont (ints zs), sl)) 71 83 71 rfl rfl rfl rfl rfl) ?_))
   exact x_rnd (i + 1, _, ws ++ [((zs.getD i I0).1 / pcont (ints zs), sl)]) ⟨by first | omega | (dsimp only <;> omega), by rw [ints_snoc, mk_succ, hz]; dsimp only; rw [cf_ints], by simp [hzl]⟩ (by first | omega | (dsimp only <;> omega)) ⟨rfl, rfl, rfl, rfl, trivial⟩ ⟨rfl, rfl, rfl, rfl, rfl, rfl, trivial⟩
 ·refine e_exit ?_
  refine x_exit (x_exit (x_be ?_))
  refine x_then (e_seq (e_imp (s_pub 70 rfl rfl pI) ?_))
  refine e_imp (s_mkdeep 70 71 72 rfl rfl rfl rfl) ?_
  refine e_reg (mv rfl rfl (as_ rfl rfl (l_nil (x_then (e_ret ?_)))))
  exact x_end (.inl rfl) hsc (_, ws) _ (fun a w hs => res1 hs Tryz.results70 rfl) rfl (by rw [hz, show i = (ints zs).length by omega, mk_map (ints zs) (· / pcont (ints zs))] <;> rfl) rfl (give_same 72 rfl rfl rfl give_nil)
theorem r_same (v u : Value) (r t : List (Bool × ByteArray)) : Cal Tryz.prog 24 #[v, u] [slp 2 encW v r, slp 2 encW u t] false (G := Unit) (fun _ => True) (fun _ => .bool (decide (r = t))) (fun _ => []) := by
 refine cal_in Tryz.func24 rfl Tryz.ntmps24 rfl ⟨rfl, rfl, trivial⟩ ?_
 intro w0 sc hw hsc
 simp only [enumEnv, enumPre]
 refine e_fact (f_len (i := 1) rfl rd_slp) (fun hlr => ?_)
 refine e_fact (f_len (i := 2) rfl rd_slp) (fun hlt => ?_)
 refine e_seq (e_reg (as_ rfl rfl (l_nil (x_then (e_seq (e_seq (e_reg (mv rfl rfl (dt (d_len rfl rfl (i := 1) rfl rd_slp Tryz.underlying23) rfl ?_)))))))))
 refine mv rfl rfl (dt (d_len rfl rfl (i := 2) rfl rd_slp Tryz.underlying23) rfl ?_)
 refine dt (d_neq rfl rfl rfl) rfl ?_
 refine l_nil (x_then (e_cond rfl (fun h78 => ?_) (fun h78 => ?_)))
 ·refine e_seq (e_reg (as_ rfl rfl (l_nil (x_then (e_ret (x_ret ?_))))))
  exact x_end (.inl rfl) hsc () _ (fun a w hs => res1 hs Tryz.results24 rfl) (by rw [decide_eq_false (fun e => by subst e; exact h78 rfl)]) trivial rfl give_nil
 ·have hle : r.length = t.length := by omega
  refine e_skip ?_
  refine x_then (e_seq (e_seq (e_reg (as_ rfl rfl (l_nil (x_then (e_block (e_lp [(0, _), (1, _)] [(0, _), (1, _), (2, _)] (fun (k : Nat) => [(5, .int .i64 (k : Int))]) (fun (k : Nat) => []) (fun (k : Nat) => (k ≤ r.length) ∧ (r.take k = t.take k)) (fun (k : Nat) => r.length - k) 0 ⟨by first | omega | (dsimp only <;> omega), by simp⟩ ⟨rfl, rfl, rfl, trivial⟩ ⟨rfl, rfl, rfl, trivial⟩ ?_))))))))
  rintro k ⟨hk, ht⟩
  simp only [List.cons_append, List.nil_append]
  refine e_seq (e_seq (e_reg (mv rfl rfl (mv rfl rfl (dt (d_len rfl rfl (i := 1) rfl rd_slp Tryz.underlying23) rfl ?_)))))
  refine dt (d_lss rfl rfl rfl) rfl ?_
  refine l_nil (x_then (e_cond rfl (fun h81 => ?_) (fun h81 => ?_)))
  ·refine e_skip ?_
   refine x_then (e_seq (e_block (e_seq (e_dreg (fun _ => False) [(0, 0), (1, 0), (2, 0), (3, 0), (4, 0), (5, 0), (6, 0), (7, 0), (8, 0)] (by kernel_rfl) ?_ ?_))))
   ·kernel_rfl
   refine r0' rfl rfl rfl rfl (st0 (d_mv rfl rfl)) ?_
   refine r0' rfl rfl rfl rfl (st0 (d_mv rfl rfl)) ?_
   refine r0' rfl rfl rfl rfl (st0 (d_ixa (ii := 1) rfl rfl rfl rfl rd_slp Tryz.underlying23 Tryz.sizeOf28 rfl (by first | omega | (simp only [List.length_set]; omega)))) ?_
   refine r0' rfl rfl rfl rfl (st0 (d_lde (ii := 1) (false, ⟨#[]⟩) rfl rfl rfl rd_slp pW (by first | omega | (simp only [List.length_set]; omega)))) ?_
   refine r0' rfl rfl rfl rfl (st0 (d_mv rfl rfl)) ?_
   refine r0' rfl rfl rfl rfl (st0 (d_mv rfl rfl)) ?_
   refine r0' rfl rfl rfl rfl (st0 (d_ixa (ii := 2) rfl rfl rfl rfl rd_slp Tryz.underlying23 Tryz.sizeOf28 rfl (by first | omega | (simp only [List.length_set]; omega)))) ?_
   refine r0' rfl rfl rfl rfl (st0 (d_lde (ii := 2) (false, ⟨#[]⟩) rfl rfl rfl rd_slp pW (by first | omega | (simp only [List.length_set]; omega)))) ?_
   refine r0' rfl rfl rfl rfl (st0 (d_eqg rfl rfl rfl eg28 (fun w => neq28 w _ _ _ _))) ?_
   refine r_end ?_
   refine x_then (e_condb rfl (fun h82 => ?_) (fun h82 => ?_))
   ·refine e_seq (e_reg (as_ rfl rfl (l_nil (x_then (e_ret (x_br ?_))))))
    refine x_ret ?_
    refine x_ret ?_
    refine x_br ?_
    refine x_ret ?_
    exact x_end (.inl rfl) hsc () _ (fun a w hs => res1 hs Tryz.results24 rfl) (by rw [decide_eq_false (fun e => by rw [e] at h82; simp [eqW_refl] at h82)]) trivial rfl give_nil
   ·refine e_skip ?_
    refine x_bn ?_
    refine x_then (e_reg (mv rfl rfl (dt (d_add rfl rfl rfl ⟨by omega, by omega⟩) rfl ?_)))
    refine as_ rfl rfl (l_nil ?_)
    exact x_rnd (k + 1) ⟨by first | omega | (dsimp only <;> omega), by rw [take_snoc (false, ⟨#[]⟩) _ _ (by omega), take_snoc (false, ⟨#[]⟩) _ _ (by omega), ht, eqW_pair (x := r.getD k (false, ⟨#[]⟩)) (y := t.getD k (false, ⟨#[]⟩)) (by simpa using h82)]⟩ (by first | omega | (dsimp only <;> omega)) ⟨rfl, rfl, rfl, trivial⟩ ⟨rfl, rfl, rfl, trivial⟩
  ·refine e_exit ?_
   refine x_exit (x_exit (x_be ?_))
   refine x_then (e_seq (e_reg (as_ rfl rfl (l_nil (x_then (e_ret ?_))))))
   exact x_end (.inl rfl) hsc () _ (fun a w hs => res1 hs Tryz.results24 rfl) (by rw [decide_eq_true (by rw [show k = r.length by omega, List.take_length, hle, List.take_length] at ht; exact ht)]) trivial rfl give_nil
theorem r_same_ii (v u : Value) (xs ys : List Int) : Cal Tryz.prog 24 #[v, u] [slp 2 wv v xs, slp 2 wv u ys] false (G := Unit) (fun _ => True) (fun _ => .bool (decide (xs = ys))) (fun _ => []) := by
 have h := ((r_same v u (xs.map wr) (ys.map wr)).imp (slp_wr v xs) (fun _ h => h)).imp2 (slp_wr u ys) (fun _ h => h)
 rw [decide_eq_decide.2 (map_wr_iff xs ys)] at h; exact h
theorem rp_valid (v : Value) (r : List (Bool × ByteArray)) : Cal Tryz.prog 13 #[v] [slp 2 encW v r] false (G := Unit) (fun _ => True) (fun _ => .bool (okP r)) (fun _ => []) := by
 refine cal_in Tryz.func13 rfl Tryz.ntmps13 rfl ⟨rfl, trivial⟩ ?_
 intro w0 sc hw hsc
 simp only [enumEnv, enumPre]
 refine e_fact (f_len (i := 1) rfl rd_slp) (fun hlen => ?_)
 refine e_seq (e_reg (as_ rfl rfl (l_nil (x_then (e_seq (e_seq (e_reg (as_ rfl rfl (l_nil (x_then (e_block (e_lp [(0, _)] [(0, _), (1, _)] (fun (k : Nat) => [(3, .int .i64 (k : Int))]) (fun (k : Nat) => []) (fun (k : Nat) => (k ≤ r.length) ∧ ((r.take k).all (fun w => okW w.1 w.2) = true)) (fun (k : Nat) => r.length - k) 0 ⟨by first | omega | (dsimp only <;> omega), by simp⟩ ⟨rfl, rfl, trivial⟩ ⟨rfl, rfl, trivial⟩ ?_))))))))))))
 rintro k ⟨hk, ha⟩
 simp only [List.cons_append, List.nil_append]
 refine e_seq (e_seq (e_reg (mv rfl rfl (mv rfl rfl (dt (d_len rfl rfl (i := 1) rfl rd_slp Tryz.underlying23) rfl ?_)))))
 refine dt (d_lss rfl rfl rfl) rfl ?_
 refine l_nil (x_then (e_cond rfl (fun h30 => ?_) (fun h30 => ?_)))
 ·refine e_skip ?_
  refine x_then (e_seq (e_block (e_seq (e_reg (mv rfl rfl (mv rfl rfl (dt (d_ixa (ii := 1) rfl rfl rfl rfl rd_slp Tryz.underlying23 Tryz.sizeOf28 rfl (by first | omega | (simp only [List.length_set]; omega))) rfl ?_)))))))
  refine dt (d_lde (ii := 1) (false, ⟨#[]⟩) rfl rfl rfl rd_slp pW (by first | omega | (simp only [List.length_set]; omega))) rfl ?_
  refine tt (t_call (n := 1) (r_valid _ _) rfl rfl rfl ⟨rfl, trivial⟩ Tryz.call48 pre_nil rfl hw) rfl (fun _ _ => ?_)
  refine dt (d_notb rfl rfl) rfl ?_
  refine l_nil (x_then (e_condb rfl (fun h31 => ?_) (fun h31 => ?_)))
  ·refine e_seq (e_reg (as_ rfl rfl (l_nil (x_then (e_ret (x_br ?_))))))
   refine x_ret ?_
   refine x_ret ?_
   refine x_br ?_
   refine x_ret ?_
   exact x_end (.inl rfl) hsc () _ (fun a w hs => res1 hs Tryz.results13 rfl) (by rw [okP_bad (getD_mem (i := k) (d := (false, ⟨#[]⟩)) (by omega)) (by simpa using h31)]) trivial rfl give_nil
  ·refine e_skip ?_
   refine x_bn ?_
   refine x_then (e_reg (mv rfl rfl (dt (d_add rfl rfl rfl ⟨by omega, by omega⟩) rfl ?_)))
   refine as_ rfl rfl (l_nil ?_)
   exact x_rnd (k + 1) ⟨by first | omega | (dsimp only <;> omega), by rw [take_snoc (false, ⟨#[]⟩) _ _ (by omega), List.all_append, ha]; simpa using h31⟩ (by first | omega | (dsimp only <;> omega)) ⟨rfl, rfl, trivial⟩ ⟨rfl, rfl, trivial⟩
 ·refine e_exit ?_
  refine x_exit (x_exit (x_be ?_))
  refine x_then (e_seq ?_)
  obtain rfl : k = r.length := by omega
  rw [List.take_length] at ha
  refine e_reg (mv rfl rfl (dt (d_len rfl rfl (i := 1) rfl rd_slp Tryz.underlying23) rfl ?_))
  refine dt (d_leq rfl rfl rfl) rfl ?_
  refine mv rfl rfl (l_split (d := 19) rfl (fun s35 => ?_) (fun s35 => ?_))
  ·refine gdt (d_mv rfl rfl) rfl rfl rfl rfl ?_
   refine gdt (d_len rfl rfl (i := 1) rfl rd_slp Tryz.underlying23) rfl rfl rfl rfl ?_
   refine gdt (d_eql rfl rfl rfl) rfl rfl rfl rfl ?_
   refine gdt (d_mv rfl rfl) rfl rfl rfl rfl ?_
   refine l_split (d := 23) rfl (fun s35_2 => ?_) (fun s35_2 => ?_)
   ·refine gsk rfl rfl rfl rfl rfl (gsk rfl rfl rfl rfl rfl (gsk rfl rfl rfl rfl rfl (gsk rfl rfl rfl rfl rfl (gsk rfl rfl rfl rfl rfl (gsk rfl rfl rfl rfl rfl (gsk rfl rfl rfl rfl rfl (gsk rfl rfl rfl rfl rfl (gsk rfl rfl rfl rfl rfl (gdt (d_pickt rfl rfl rfl) rfl rfl rfl rfl ?_)))))))))
    refine dt (d_pickt rfl rfl rfl) rfl ?_
    refine as_ rfl rfl (l_nil (x_then (e_ret ?_)))
    exact x_end (.inl rfl) hsc () _ (fun a w hs => res1 hs Tryz.results13 rfl) (by rw [okP_fin2 ha]; first | (rw [decide_eq_false (show ¬ r.length ≤ 25 by omega)]; rfl) | (rw [decide_eq_true (show r.length ≤ 25 by omega), decide_eq_true (show r.length = 0 by omega)]; rfl) | (rw [decide_eq_true (show r.length ≤ 25 by omega), decide_eq_false (show ¬ r.length = 0 by omega)]; rfl)) trivial rfl give_nil
   ·refine gdt (d_mv rfl rfl) rfl rfl rfl rfl ?_
    refine gdt (d_mv rfl rfl) rfl rfl rfl rfl ?_
    refine gdt (d_len rfl rfl (i := 1) rfl rd_slp Tryz.underlying23) rfl rfl rfl rfl ?_
    refine gdt (d_sub rfl rfl rfl ⟨by omega, by omega⟩) rfl rfl rfl rfl ?_
    refine gdt (d_ixa (ii := 1) (i := (r.length - 1)) rfl rfl rfl rfl rd_slp Tryz.underlying23 Tryz.sizeOf28 (by omega) (by omega)) rfl rfl rfl rfl ?_
    refine gdt (d_fae (ii := 1) rfl rfl rfl rd_slp (by omega) Tryz.underlying28 rfl Tryz.sizeOf9 rfl) rfl rfl rfl rfl ?_
    refine gdt (d_ldf (ii := 1) (false, ⟨#[]⟩) rfl rfl rfl rd_slp (by omega) Tryz.isAgg9 rfl) rfl rfl rfl rfl ?_
    refine gdt (d_lens rfl rfl Tryz.underlying9) rfl rfl rfl rfl ?_
    refine gdt (d_gtr rfl rfl rfl) rfl rfl rfl rfl ?_
    refine gdt (d_pickf rfl rfl rfl) rfl rfl rfl rfl ?_
    refine dt (d_pickt rfl rfl rfl) rfl ?_
    refine as_ rfl rfl (l_nil (x_then (e_ret ?_)))
    exact x_end (.inl rfl) hsc () _ (fun a w hs => res1 hs Tryz.results13 rfl) (by rw [okP_fin2 ha]; first | (rw [decide_eq_false (show ¬ r.length ≤ 25 by omega)]; rfl) | (rw [decide_eq_true (show r.length ≤ 25 by omega), decide_eq_true (show r.length = 0 by omega)]; rfl) | (rw [decide_eq_true (show r.length ≤ 25 by omega), decide_eq_false (show ¬ r.length = 0 by omega)]; rfl)) trivial rfl give_nil
  ·refine gsk rfl rfl rfl rfl rfl (gsk rfl rfl rfl rfl rfl (gsk rfl rfl rfl rfl rfl (gsk rfl rfl rfl rfl rfl (gsku rfl rfl rfl ?_))))
   refine gsku rfl rfl rfl ?_
   refine gsku rfl rfl rfl ?_
   refine gsku rfl rfl rfl ?_
   refine gsku rfl rfl rfl ?_
   refine gsku rfl rfl rfl ?_
   refine gsku rfl rfl rfl ?_
   refine gsku rfl rfl rfl ?_
   refine gsku rfl rfl rfl ?_
   refine gsk rfl rfl rfl rfl rfl (dt (d_pickf rfl rfl rfl) rfl ?_)
   refine as_ rfl rfl (l_nil (x_then (e_ret ?_)))
   exact x_end (.inl rfl) hsc () _ (fun a w hs => res1 hs Tryz.results13 rfl) (by rw [okP_fin2 ha]; first | (rw [decide_eq_false (show ¬ r.length ≤ 25 by omega)]; rfl) | (rw [decide_eq_true (show r.length ≤ 25 by omega), decide_eq_true (show r.length = 0 by omega)]; rfl) | (rw [decide_eq_true (show r.length ≤ 25 by omega), decide_eq_false (show ¬ r.length = 0 by omega)]; rfl)) trivial rfl give_nil
set_option maxHeartbeats 4000000 in
theorem rp_rest (v u : Value) (zs ys : List (Int × SL)) (hl : zs.length ≤ 30) (hk : ys.length ≤ 30) (hy0 : 0 < ys.length) (ht : Tr (ints ys)) (hF : ys.length ≤ zs.length → msz (ints zs) + (zs.length - ys.length + 1) * (msz (ints ys) + 1) ≤ 900000) : Cal Tryz.prog 125 #[v, u] [pp v zs, pp u ys] true (G := Value × List (Int × SL)) (fun r => ints r.2 = prest (ints zs) (ints ys)) (fun r => r.1) (fun r => [pp r.1 r.2]) := by
 refine cal_in Tryz.func125 rfl Tryz.ntmps125 rfl ⟨rfl, rfl, trivial⟩ ?_
 intro w0 sc hw hsc
 simp only [enumEnv, enumPre]
 have hli := length_ints zs
 have hli2 := length_ints ys
 have hlead : (cf (ints ys) ((ints ys).length - 1)) ≠ 0 := ht.mem (fun e => by rw [← hli2, e] at hy0; simp at hy0)
 refine e_fact (f_len (i := 1) rfl rd_deep) (fun hlen => ?_)
 refine e_fact (f_len (i := 2) rfl rd_deep) (fun hlen2 => ?_)
 refine e_seq (e_reg (as_ rfl rfl (l_nil (x_then (e_seq (e_seq (e_reg (mv rfl rfl (dt (d_len rfl rfl (i := 1) rfl rd_deep Tryz.underlying33) rfl ?_)))))))))
 refine mv rfl rfl (dt (d_len rfl rfl (i := 2) rfl rd_deep Tryz.underlying33) rfl ?_)
 refine dt (d_lss rfl rfl rfl) rfl ?_
 refine l_nil (x_then (e_cond rfl (fun h205 => ?_) (fun h205 => ?_)))
 ·refine e_seq (e_reg (mv rfl rfl (as_ rfl rfl (l_nil (x_then (e_ret (x_ret ?_)))))))
  exact x_end (.inl rfl) hsc (_, zs) _ (fun a w hs => res1 hs Tryz.results125 rfl) rfl (by unfold prest; rw [if_pos (by omega)]) rfl (give_same 1 rfl rfl rfl give_nil)
 ·have hF2 := hF (by omega)
  have hF3 : msz (ints zs) + ((ints zs).length - (ints ys).length + 1) * (msz (ints ys) + 1) ≤ 900000 := by rw [hli, hli2]; exact hF2
  have hN : 1 ≤ zs.length - ys.length + 1 := by omega
  have hB := Nat.mul_le_mul_right (msz (ints ys) + 1) hN
  rw [Nat.one_mul] at hB
  have hcl := cf_ints ys (ys.length - 1)
  have hci2 : (ys.getD (ys.length - 1) I0).1 = (cf (ints ys) ((ints ys).length - 1)) := by rw [hcl, hli2]
  have hsy := msz_sz (ints ys)
  have hlq := hsy ((ints ys).length - 1)
  have hpw := sz_ipow hlq (zs.length - ys.length + 1)
  have hpw2 : (zs.length - ys.length + 1) * msz (ints ys) ≤ (zs.length - ys.length + 1) * (msz (ints ys) + 1) := Nat.mul_le_mul_left _ (by omega)
  refine e_skip ?_
  refine x_then (e_seq (e_reg (mv rfl rfl (mv rfl rfl (dt (d_len rfl rfl (i := 2) rfl rd_deep Tryz.underlying33) rfl ?_)))))
  refine dt (d_sub rfl rfl rfl ⟨by omega, by omega⟩) rfl ?_
  refine dt (d_ixa (ii := 2) (i := (ys.length - 1)) rfl rfl rfl rfl rd_deep Tryz.underlying33 Tryz.sizeOf39 (by omega) (by omega)) rfl ?_
  refine dt (d_lde (ii := 2) I0 rfl rfl rfl rd_deep pI (by omega)) rfl ?_
  refine tt (t_alloc (i := 96) rfl rfl rfl Tryz.zeroValue39 rfl rfl hw) rfl (fun b _ => ?_)
  refine tt (t_stw (i := 96) rfl rfl rfl rfl rfl (by decide) rfl Tryz.sizeOf39 rfl rfl ⟨(one_rfl rfl), (one_rfl rfl), trivial⟩ rfl hw trivial) rfl (fun _ _ => ?_)
  refine l_nil (x_then (e_seq (e_reg (mv rfl rfl (dt (d_lb2 (i := 96) rfl rfl rfl Tryz.isAgg39 Tryz.sizeOf39 rfl rfl) rfl ?_)))))
  refine mv rfl rfl (dt (d_len rfl rfl (i := 1) rfl rd_deep Tryz.underlying33) rfl ?_)
  refine mv rfl rfl (dt (d_len rfl rfl (i := 2) rfl rd_deep Tryz.underlying33) rfl ?_)
  refine dt (d_sub rfl rfl rfl ⟨by omega, by omega⟩) rfl ?_
  refine dt (d_add rfl rfl rfl ⟨by omega, by omega⟩) rfl ?_
  refine tt (t_call (n := 3) (rp_power _ _ _ (zs.length - ys.length + 1) (by omega) (by omega) (by rw [hci2]; omega)) rfl rfl rfl ⟨rfl, rfl, trivial⟩ Tryz.call149 (pre_dI 2 rfl rfl (getD_mem (i := ys.length - 1) (by omega)) pre_nil) rfl hw) rfl (fun v _ => ?_)
  refine tt (t_call (n := 80) (rp_scale _ _ _ _ ((msz_sz _).mono (by omega)) (by omega) (by rw [hci2]; omega)) rfl rfl rfl ⟨rfl, rfl, trivial⟩ Tryz.call47 (pre_same 1 rfl rfl rfl (pre_same 3 rfl rfl rfl pre_nil)) rfl hw) rfl (fun g hg => ?_)
  refine as_ rfl rfl (l_nil (x_then (e_seq (e_block (e_lp [(1, _), (5, _)] [(0, _), (1, _), (2, _), (96, _), (3, _)] (fun (q : Nat × List (Int × SL) × Value) => [(6, q.2.2)]) (fun (q : Nat × List (Int × SL) × Value) => [(80, pp q.2.2 q.2.1)]) (fun (q : Nat × List (Int × SL) × Value) => (q.1 ≤ zs.length - ys.length + 1) ∧ (RestInv (ints zs) (ints ys) (ints q.2.1) q.1)) (fun (q : Nat × List (Int × SL) × Value) => zs.length - ys.length + 1 - q.1) (0, _, _) ⟨Nat.zero_le _, by dsimp only; rw [hg, hci2, ← hli, ← hli2]; exact restInv_zero⟩ ⟨rfl, rfl, rfl, trivial⟩ ⟨rfl, rfl, rfl, rfl, rfl, rfl, trivial⟩ ?_)))))
  rintro ⟨j, ws, vr⟩ ⟨hj, hI⟩
  dsimp only at hj hI
  simp only [List.cons_append, List.nil_append]
  have hlw := length_ints ws
  have hwl := restInv_len hI
  refine e_seq (e_seq (e_reg (mv rfl rfl (dt (d_len rfl rfl (i := 80) rfl rd_deep Tryz.underlying33) rfl ?_))))
  refine mv rfl rfl (dt (d_len rfl rfl (i := 2) rfl rd_deep Tryz.underlying33) rfl ?_)
  refine dt (d_geq rfl rfl rfl) rfl ?_
  refine l_nil (x_then (e_cond rfl (fun h210 => ?_) (fun h210 => ?_)))
  ·have hR0 : (ints ys).length ≤ (ints ws).length := by omega
   obtain ⟨g1, g2, g3, hI2⟩ := restInv_to (by omega) (by omega) hlead (by omega) hI hR0
   have hst := restInv_step hlead hI2 (by omega) hR0 g3
   have hqe := restInv_quo hlead hI2 (by omega) hR0 g3
   have hsR := restInv_sz (by omega) hI
   have hsw : Sz 1000000 (ints ws) := hsR.mono (by omega)
   have hcw := cf_ints ws (ws.length - 1)
   have hcqb : bl (cf (ints ws) ((ints ws).length - 1) / (cf (ints ys) ((ints ys).length - 1))).natAbs ≤ 900001 := by have := bl_quoR hqe (sz_rsteps (ints zs) (ints ys) _ _) hlq; have h7 := restq_b (p := ints zs) (q := ints ys) (R := ints ws) (by omega) (by omega) g3; omega
   have hcqa : (ws.getD (ws.length - 1) I0).1 / (ys.getD (ys.length - 1) I0).1 = (cf (ints ws) ((ints ws).length - 1) / (cf (ints ys) ((ints ys).length - 1))) := by rw [hci2, hcw, hlw]
   refine e_skip ?_
   refine x_then (e_block (e_jn [(1, _), (5, _), (6, _)] [(0, _), (80, _), (1, _), (2, _), (96, _), (3, _)] (fun (q : Value × Nat) => [(7, .pointer (some ⟨q.2, 0, none⟩))]) (fun (q : Value × Nat) => [(83, d9p q.1 (cf (ints ws) ((ints ws).length - 1) / (cf (ints ys) ((ints ys).length - 1))).natAbs), (97, box q.2 39 #[.bool (decide ((cf (ints ws) ((ints ws).length - 1) / (cf (ints ys) ((ints ys).length - 1))) < 0)), q.1])]) (fun (q : Value × Nat) => True) ⟨rfl, rfl, rfl, trivial⟩ ⟨rfl, rfl, rfl, rfl, rfl, rfl, trivial⟩ ?_ ?_))
   ·refine e_dregf [80, 96] [14] (by kernel_rfl) ?_
    refine a_lin' (n := 8) [(0, 0), (1, 0), (2, 0), (3, 0), (4, 0), (5, 0), (6, 0)] (by kernel_rfl) ?_
    refine r0' rfl rfl rfl rfl (stf (d_mv rfl rfl) ⟨rfl, rfl, trivial⟩) ?_
    refine r0' rfl rfl rfl rfl (stf (d_mv rfl rfl) ⟨rfl, rfl, trivial⟩) ?_
    refine r0' rfl rfl rfl rfl (stf (d_len rfl rfl (i := 80) rfl rd_deep Tryz.underlying33) ⟨rfl, rfl, trivial⟩) ?_
    refine r0' rfl rfl rfl rfl (stf (d_sub rfl rfl rfl ⟨by omega, by omega⟩) ⟨rfl, rfl, trivial⟩) ?_
    refine r0' rfl rfl rfl rfl (stf (d_ixa (ii := 80) (i := (ws.length - 1)) rfl rfl rfl rfl rd_deep Tryz.underlying33 Tryz.sizeOf39 (by omega) (by omega)) ⟨rfl, rfl, trivial⟩) ?_
    refine r0' rfl rfl rfl rfl (stf (d_lde (ii := 80) I0 rfl rfl rfl rd_deep pI (by omega)) ⟨rfl, rfl, trivial⟩) ?_
    refine r0' rfl rfl rfl rfl (stf (d_lb2 (i := 96) rfl rfl rfl Tryz.isAgg39 Tryz.sizeOf39 rfl rfl) ⟨rfl, rfl, trivial⟩) ?_
    refine r_fin ?_
    refine a_br3 (n := 7) 7 11 12 (by kernel_rfl) ?_ ?_ ?_
    ·refine aact' rfl rfl (t_call (n := 83) (r_quo _ _ _ _ (by rw [hcw]; have := hsw (ws.length - 1); omega) (by rw [hci2]; omega) (by rw [hci2]; exact hlead)) rfl rfl rfl ⟨rfl, rfl, trivial⟩ Tryz.call63 (pre_dI 80 rfl rfl (getD_mem (zs := ws) (i := ws.length - 1) (d := I0) (by omega)) (pre_dI 2 rfl rfl (getD_mem (zs := ys) (i := ys.length - 1) (d := I0) (by omega)) pre_nil)) rfl hw) (fun g_2 _ => ?_)
     refine a_lin' (n := 4) [(8, 0), (9, 0), (10, 0)] (by kernel_rfl) ?_
     refine r0' rfl rfl rfl rfl (stf (d_mv rfl rfl) ⟨rfl, rfl, trivial⟩) ?_
     refine r0' rfl rfl rfl rfl (stf (d_ex rfl rfl rfl) ⟨rfl, rfl, trivial⟩) ?_
     refine r0' rfl rfl rfl rfl (stf (d_ex rfl rfl rfl) ⟨rfl, rfl, trivial⟩) ?_
     refine r_fin ?_
     refine a_br2 (n := 3) 11 12 (by kernel_rfl) ?_ ?_
     ·refine aact' rfl rfl (t_allocf (i := 97) rfl rfl rfl Tryz.zeroValue39 rfl rfl hw ⟨rfl, rfl, trivial⟩) (fun b_2 hoff => ?_)
      refine a_lin' (n := 0) [(12, 1), (13, 1), (14, 3)] (by kernel_rfl) ?_
      refine r1' rfl rfl (t_allocf (i := 99) rfl rfl rfl Tryz.zeroValue39 rfl rfl hw ⟨rfl, rfl, trivial⟩) (fun b_3 hoff_2 => ?_)
      refine r1' rfl rfl (t_stw (i := 97) rfl rfl rfl rfl rfl (by decide) rfl Tryz.sizeOf39 rfl rfl ⟨(one_rfl rfl), (one_rd (i := 83) rfl rd_slp), trivial⟩ rfl hw hoff) (fun _ _ => ?_)
      refine r3' rfl rfl (t_stw (i := 99) rfl rfl rfl rfl rfl (by decide) rfl Tryz.sizeOf39 rfl rfl ⟨(one_rfl rfl), (one_rd (i := 84) rfl rd_slp), trivial⟩ rfl hw trivial) (fun _ _ => ?_)
      refine r_fin ?_
      refine a_done (by kernel_rfl) ?_
      exact x_jn (_, _) trivial ⟨rfl, rfl, rfl, rfl, trivial⟩ ⟨by rw [← hcqa]; rfl, by rw [← hcqa]; rfl, rfl, rfl, rfl, rfl, rfl, rfl, trivial⟩
     ·refine aact' rfl rfl (t_allocf (i := 99) rfl rfl rfl Tryz.zeroValue39 rfl rfl hw ⟨rfl, rfl, trivial⟩) (fun b_4 hoff_3 => ?_)
      refine a_lin' (n := 0) [(11, 1), (13, 1), (14, 3)] (by kernel_rfl) ?_
      refine r1' rfl rfl (t_allocf (i := 97) rfl rfl rfl Tryz.zeroValue39 rfl rfl hw ⟨rfl, rfl, trivial⟩) (fun b_5 hoff_4 => ?_)
      refine r1' rfl rfl (t_stw (i := 97) rfl rfl rfl rfl rfl (by decide) rfl Tryz.sizeOf39 rfl rfl ⟨(one_rfl rfl), (one_rd (i := 83) rfl rd_slp), trivial⟩ rfl hw hoff_4) (fun _ _ => ?_)
      refine r3' rfl rfl (t_stw (i := 99) rfl rfl rfl rfl rfl (by decide) rfl Tryz.sizeOf39 rfl rfl ⟨(one_rfl rfl), (one_rd (i := 84) rfl rd_slp), trivial⟩ rfl hw trivial) (fun _ _ => ?_)
      refine r_fin ?_
      refine a_done (by kernel_rfl) ?_
      exact x_jn (_, _) trivial ⟨rfl, rfl, rfl, rfl, trivial⟩ ⟨by rw [← hcqa]; rfl, by rw [← hcqa]; rfl, rfl, rfl, rfl, rfl, rfl, rfl, trivial⟩
    ·refine aact' rfl rfl (t_allocf (i := 97) rfl rfl rfl Tryz.zeroValue39 rfl rfl hw ⟨rfl, rfl, trivial⟩) (fun b_6 hoff_5 => ?_)
     refine a_br2 (n := 6) 7 12 (by kernel_rfl) ?_ ?_
     ·refine aact' rfl rfl (t_call (n := 83) (r_quo _ _ _ _ (by rw [hcw]; have := hsw (ws.length - 1); omega) (by rw [hci2]; omega) (by rw [hci2]; exact hlead)) rfl rfl rfl ⟨rfl, rfl, trivial⟩ Tryz.call63 (pre_dI 80 rfl rfl (getD_mem (zs := ws) (i := ws.length - 1) (d := I0) (by omega)) (pre_dI 2 rfl rfl (getD_mem (zs := ys) (i := ys.length - 1) (d := I0) (by omega)) pre_nil)) rfl hw) (fun g_3 _ => ?_)
      refine a_lin' (n := 0) [(8, 0), (9, 0), (10, 0), (12, 1), (13, 1), (14, 3)] (by kernel_rfl) ?_
      refine r0' rfl rfl rfl rfl (stf (d_mv rfl rfl) ⟨rfl, rfl, trivial⟩) ?_
      refine r0' rfl rfl rfl rfl (stf (d_ex rfl rfl rfl) ⟨rfl, rfl, trivial⟩) ?_
      refine r0' rfl rfl rfl rfl (stf (d_ex rfl rfl rfl) ⟨rfl, rfl, trivial⟩) ?_
      refine r1' rfl rfl (t_allocf (i := 99) rfl rfl rfl Tryz.zeroValue39 rfl rfl hw ⟨rfl, rfl, trivial⟩) (fun b_7 hoff_6 => ?_)
      refine r1' rfl rfl (t_stw (i := 97) rfl rfl rfl rfl rfl (by decide) rfl Tryz.sizeOf39 rfl rfl ⟨(one_rfl rfl), (one_rd (i := 83) rfl rd_slp), trivial⟩ rfl hw hoff_5) (fun _ _ => ?_)
      refine r3' rfl rfl (t_stw (i := 99) rfl rfl rfl rfl rfl (by decide) rfl Tryz.sizeOf39 rfl rfl ⟨(one_rfl rfl), (one_rd (i := 84) rfl rd_slp), trivial⟩ rfl hw trivial) (fun _ _ => ?_)
      refine r_fin ?_
      refine a_done (by kernel_rfl) ?_
      exact x_jn (_, _) trivial ⟨rfl, rfl, rfl, rfl, trivial⟩ ⟨by rw [← hcqa]; rfl, by rw [← hcqa]; rfl, rfl, rfl, rfl, rfl, rfl, rfl, trivial⟩
     ·refine aact' rfl rfl (t_allocf (i := 99) rfl rfl rfl Tryz.zeroValue39 rfl rfl hw ⟨rfl, rfl, trivial⟩) (fun b_8 hoff_7 => ?_)
      refine a_lin' (n := 0) [(7, 1), (8, 0), (9, 0), (10, 0), (13, 1), (14, 3)] (by kernel_rfl) ?_
      refine r1' rfl rfl (t_call (n := 83) (r_quo _ _ _ _ (by rw [hcw]; have := hsw (ws.length - 1); omega) (by rw [hci2]; omega) (by rw [hci2]; exact hlead)) rfl rfl rfl ⟨rfl, rfl, trivial⟩ Tryz.call63 (pre_dI 80 rfl rfl (getD_mem (zs := ws) (i := ws.length - 1) (d := I0) (by omega)) (pre_dI 2 rfl rfl (getD_mem (zs := ys) (i := ys.length - 1) (d := I0) (by omega)) pre_nil)) rfl hw) (fun g_4 _ => ?_)
      refine r0' rfl rfl rfl rfl (stf (d_mv rfl rfl) ⟨rfl, rfl, trivial⟩) ?_
      refine r0' rfl rfl rfl rfl (stf (d_ex rfl rfl rfl) ⟨rfl, rfl, trivial⟩) ?_
      refine r0' rfl rfl rfl rfl (stf (d_ex rfl rfl rfl) ⟨rfl, rfl, trivial⟩) ?_
      refine r1' rfl rfl (t_stw (i := 97) rfl rfl rfl rfl rfl (by decide) rfl Tryz.sizeOf39 rfl rfl ⟨(one_rfl rfl), (one_rd (i := 83) rfl rd_slp), trivial⟩ rfl hw hoff_5) (fun _ _ => ?_)
      refine r3' rfl rfl (t_stw (i := 99) rfl rfl rfl rfl rfl (by decide) rfl Tryz.sizeOf39 rfl rfl ⟨(one_rfl rfl), (one_rd (i := 84) rfl rd_slp), trivial⟩ rfl hw trivial) (fun _ _ => ?_)
      refine r_fin ?_
      refine a_done (by kernel_rfl) ?_
      exact x_jn (_, _) trivial ⟨rfl, rfl, rfl, rfl, trivial⟩ ⟨by rw [← hcqa]; rfl, by rw [← hcqa]; rfl, rfl, rfl, rfl, rfl, rfl, rfl, trivial⟩
    ·refine aact' rfl rfl (t_allocf (i := 99) rfl rfl rfl Tryz.zeroValue39 rfl rfl hw ⟨rfl, rfl, trivial⟩) (fun b_9 hoff_8 => ?_)
     refine a_br2 (n := 6) 7 11 (by kernel_rfl) ?_ ?_
     ·refine aact' rfl rfl (t_call (n := 83) (r_quo _ _ _ _ (by rw [hcw]; have := hsw (ws.length - 1); omega) (by rw [hci2]; omega) (by rw [hci2]; exact hlead)) rfl rfl rfl ⟨rfl, rfl, trivial⟩ Tryz.call63 (pre_dI 80 rfl rfl (getD_mem (zs := ws) (i := ws.length - 1) (d := I0) (by omega)) (pre_dI 2 rfl rfl (getD_mem (zs := ys) (i := ys.length - 1) (d := I0) (by omega)) pre_nil)) rfl hw) (fun g_5 _ => ?_)
      refine a_lin' (n := 0) [(8, 0), (9, 0), (10, 0), (11, 1), (13, 1), (14, 3)] (by kernel_rfl) ?_
      refine r0' rfl rfl rfl rfl (stf (d_mv rfl rfl) ⟨rfl, rfl, trivial⟩) ?_
      refine r0' rfl rfl rfl rfl (stf (d_ex rfl rfl rfl) ⟨rfl, rfl, trivial⟩) ?_
      refine r0' rfl rfl rfl rfl (stf (d_ex rfl rfl rfl) ⟨rfl, rfl, trivial⟩) ?_
      refine r1' rfl rfl (t_allocf (i := 97) rfl rfl rfl Tryz.zeroValue39 rfl rfl hw ⟨rfl, rfl, trivial⟩) (fun b_10 hoff_9 => ?_)
      refine r1' rfl rfl (t_stw (i := 97) rfl rfl rfl rfl rfl (by decide) rfl Tryz.sizeOf39 rfl rfl ⟨(one_rfl rfl), (one_rd (i := 83) rfl rd_slp), trivial⟩ rfl hw hoff_9) (fun _ _ => ?_)
      refine r3' rfl rfl (t_stw (i := 99) rfl rfl rfl rfl rfl (by decide) rfl Tryz.sizeOf39 rfl rfl ⟨(one_rfl rfl), (one_rd (i := 84) rfl rd_slp), trivial⟩ rfl hw trivial) (fun _ _ => ?_)
      refine r_fin ?_
      refine a_done (by kernel_rfl) ?_
      exact x_jn (_, _) trivial ⟨rfl, rfl, rfl, rfl, trivial⟩ ⟨by rw [← hcqa]; rfl, by rw [← hcqa]; rfl, rfl, rfl, rfl, rfl, rfl, rfl, trivial⟩
     ·refine aact' rfl rfl (t_allocf (i := 97) rfl rfl rfl Tryz.zeroValue39 rfl rfl hw ⟨rfl, rfl, trivial⟩) (fun b_11 hoff_10 => ?_)
      refine a_lin' (n := 0) [(7, 1), (8, 0), (9, 0), (10, 0), (13, 1), (14, 3)] (by kernel_rfl) ?_
      refine r1' rfl rfl (t_call (n := 83) (r_quo _ _ _ _ (by rw [hcw]; have := hsw (ws.length - 1); omega) (by rw [hci2]; omega) (by rw [hci2]; exact hlead)) rfl rfl rfl ⟨rfl, rfl, trivial⟩ Tryz.call63 (pre_dI 80 rfl rfl (getD_mem (zs := ws) (i := ws.length - 1) (d := I0) (by omega)) (pre_dI 2 rfl rfl (getD_mem (zs := ys) (i := ys.length - 1) (d := I0) (by omega)) pre_nil)) rfl hw) (fun g_6 _ => ?_)
      refine r0' rfl rfl rfl rfl (stf (d_mv rfl rfl) ⟨rfl, rfl, trivial⟩) ?_
      refine r0' rfl rfl rfl rfl (stf (d_ex rfl rfl rfl) ⟨rfl, rfl, trivial⟩) ?_
      refine r0' rfl rfl rfl rfl (stf (d_ex rfl rfl rfl) ⟨rfl, rfl, trivial⟩) ?_
      refine r1' rfl rfl (t_stw (i := 97) rfl rfl rfl rfl rfl (by decide) rfl Tryz.sizeOf39 rfl rfl ⟨(one_rfl rfl), (one_rd (i := 83) rfl rd_slp), trivial⟩ rfl hw hoff_10) (fun _ _ => ?_)
      refine r3' rfl rfl (t_stw (i := 99) rfl rfl rfl rfl rfl (by decide) rfl Tryz.sizeOf39 rfl rfl ⟨(one_rfl rfl), (one_rd (i := 84) rfl rd_slp), trivial⟩ rfl hw trivial) (fun _ _ => ?_)
      refine r_fin ?_
      refine a_done (by kernel_rfl) ?_
      exact x_jn (_, _) trivial ⟨rfl, rfl, rfl, rfl, trivial⟩ ⟨by rw [← hcqa]; rfl, by rw [← hcqa]; rfl, rfl, rfl, rfl, rfl, rfl, rfl, trivial⟩
   ·rintro ⟨qv, b7⟩ -
    simp only [List.cons_append, List.nil_append]
    refine e_seq (e_reg (mv rfl rfl (dt (d_len rfl rfl (i := 80) rfl rd_deep Tryz.underlying33) rfl ?_)))
    refine mv rfl rfl (dt (d_len rfl rfl (i := 2) rfl rd_deep Tryz.underlying33) rfl ?_)
    refine dt (d_sub rfl rfl rfl ⟨by omega, by omega⟩) rfl ?_
    refine tt (t_mkn (i := 70) (n := (ws.length - ys.length)) (by_ := 32) (enc := encI) I0 rfl rfl rfl rfl rfl (by omega) Tryz.underlying33 Tryz.ti39 rfl pI.cells pI.pos rfl rfl (by omega) (by decide) rfl hw) rfl (fun v_2 _ => ?_)
    refine as_ rfl rfl (l_nil (x_then (e_seq (e_seq (e_reg (as_ rfl rfl (l_nil (x_then (e_block (e_imp (s_many_rep 71 (ws.length - ys.length)) ?_))))))))))
    refine e_lp [(1, _), (5, _), (6, _), (7, _)] [(0, _), (83, _), (97, _), (80, _), (1, _), (2, _), (96, _), (3, _)] (fun (q : Nat × Value × List (Int × SL)) => [(10, .int .i64 (q.1 : Int)), (9, q.2.1)]) (fun (q : Nat × Value × List (Int × SL)) => [(70, osl 2 39 encI q.2.1 q.2.2), (71, many qI q.2.2)]) (fun (q : Nat × Value × List (Int × SL)) => (q.1 ≤ ys.length) ∧ (ints q.2.2 = shm (ints ys) (cf (ints ws) ((ints ws).length - 1) / (cf (ints ys) ((ints ys).length - 1))) ((ints ws).length - (ints ys).length) q.1) ∧ (q.2.2.length = ((ints ws).length - (ints ys).length) + q.1)) (fun (q : Nat × Value × List (Int × SL)) => ys.length - q.1) (0, _, List.replicate (ws.length - ys.length) I0) ⟨by first | omega | (dsimp only <;> omega), by rw [← shm_zero, ← hlw, ← hli2]; simp [ints], by simp <;> omega⟩ ⟨rfl, rfl, rfl, rfl, rfl, rfl, trivial⟩ ⟨rfl, rfl, rfl, rfl, rfl, rfl, rfl, rfl, rfl, rfl, trivial⟩ ?_
    rintro ⟨i, vo, ms⟩ ⟨hi, hms, hml⟩
    dsimp only at hi hms hml
    simp only [List.cons_append, List.nil_append]
    have hci := cf_ints ys i
    refine e_seq (e_seq (e_reg (mv rfl rfl (mv rfl rfl (dt (d_len rfl rfl (i := 2) rfl rd_deep Tryz.underlying33) rfl ?_)))))
    refine dt (d_lss rfl rfl rfl) rfl ?_
    refine l_nil (x_then (e_cond rfl (fun h214 => ?_) (fun h214 => ?_)))
    ·refine e_skip ?_
     refine x_then (e_seq (e_block (e_dregf [2, 97] [9] (by kernel_rfl) ?_)))
     refine a_lin' (n := 3) [(0, 0), (1, 0), (2, 0), (3, 0), (4, 0), (5, 0), (6, 1)] (by kernel_rfl) ?_
     refine r0' rfl rfl rfl rfl (stf (d_mv rfl rfl) ⟨rfl, rfl, trivial⟩) ?_
     refine r0' rfl rfl rfl rfl (stf (d_lb2 (i := 97) rfl rfl rfl Tryz.isAgg39 Tryz.sizeOf39 rfl rfl) ⟨rfl, rfl, trivial⟩) ?_
     refine r0' rfl rfl rfl rfl (stf (d_mv rfl rfl) ⟨rfl, rfl, trivial⟩) ?_
     refine r0' rfl rfl rfl rfl (stf (d_mv rfl rfl) ⟨rfl, rfl, trivial⟩) ?_
     refine r0' rfl rfl rfl rfl (stf (d_ixa (ii := 2) rfl rfl rfl rfl rd_deep Tryz.underlying33 Tryz.sizeOf39 rfl (by first | omega | (simp only [List.length_set]; omega))) ⟨rfl, rfl, trivial⟩) ?_
     refine r0' rfl rfl rfl rfl (stf (d_lde (ii := 2) I0 rfl rfl rfl rd_deep pI (by first | omega | (simp only [List.length_set]; omega))) ⟨rfl, rfl, trivial⟩) ?_
     refine r1' rfl rfl (t_call (n := 86) (r_mul _ _ _ _ (by omega) (by rw [hci]; have := hsy i; omega)) rfl rfl rfl ⟨rfl, rfl, trivial⟩ Tryz.call44 (pre_same 83 rfl rfl rfl (pre_dI 2 rfl rfl (getD_mem (i := i) (by omega)) pre_nil)) rfl hw) (fun v_3 _ => ?_)
     refine r_fin ?_
     refine a_ex (f_slice 86 rfl rd_slp) (fun sl hsl => ?_)
     subst hsl
     refine a_lin' (n := 0) [(7, 1), (8, 1), (9, 3)] (by kernel_rfl) ?_
     refine r1' rfl rfl (t_bsg (i := 87) (ivs := [(0, _)]) (enc := encI) [((cf (ints ws) ((ints ws).length - 1) / (cf (ints ys) ((ints ys).length - 1))) * (ys.getD i I0).1, sl)] rfl rfl rfl ⟨rfl, rfl, trivial⟩ Tryz.underlying33 Tryz.ti39 rfl rfl rfl rfl rfl rfl pI.cells rfl rfl hw) (fun v_4 _ => ?_)
     refine r1' rfl rfl (t_offr 70 rfl rfl rfl ⟨rfl, rfl, trivial⟩ (fun hoffr => (t_appaM (xs := ms) (ys := [_]) (i := 70) (j := 87) (by_ := 32) rfl rfl rfl rfl rfl rfl (by decide) rfl (rd_osl pI) Tryz.underlying33 Tryz.ti39 rfl pI rfl rfl rfl (by simp; omega) (by decide) rfl hw hoffr))) (fun v_5 _ => ?_)
     refine r3' rfl rfl (t_det (d_as rfl rfl) rfl rfl) (fun _ _ => ?_)
     refine r_fin ?_
     refine a_done (by kernel_rfl) ?_
     refine x_bn ?_
     refine x_then (e_reg (mv rfl rfl (dt (d_add rfl rfl rfl ⟨by omega, by omega⟩) rfl ?_)))
     refine as_ rfl rfl (l_nil (x_imp (s_many_snoc (q := qI) (z := ((cf (ints ws) ((ints ws).length - 1) / (cf (ints ys) ((ints ys).length - 1))) * (ys.getD i I0).1, sl)) 71 86 71 rfl rfl rfl rfl rfl) ?_))
     exact x_rnd (i + 1, _, ms ++ [((cf (ints ws) ((ints ws).length - 1) / (cf (ints ys) ((ints ys).length - 1))) * (ys.getD i I0).1, sl)]) ⟨by first | omega | (dsimp only <;> omega), by rw [ints_snoc, hms, ← shm_succ]; dsimp only; rw [hci], by simp; omega⟩ (by first | omega | (dsimp only <;> omega)) ⟨rfl, rfl, rfl, rfl, rfl, rfl, trivial⟩ ⟨rfl, rfl, rfl, rfl, rfl, rfl, rfl, rfl, rfl, rfl, trivial⟩
    ·refine e_exit ?_
     refine x_exit (x_exit (x_be ?_))
     refine x_then (e_imp (s_pub 70 rfl rfl pI) ?_)
     refine e_imp (s_mkdeep 70 71 72 rfl rfl rfl rfl) ?_
     refine e_reg (mv rfl rfl (mv rfl rfl (tt (t_call (n := 4) (rp_sub _ _ _ _ hsw (by omega) (by rw [hms]; exact shm_sz (fun t => by have h8 := bl_imul (cf (ints ws) ((ints ws).length - 1) / (cf (ints ys) ((ints ys).length - 1))) (cf (ints ys) t); have h9 := hsy t; have h10 := restq_mb (p := ints zs) (q := ints ys) (R := ints ws) hqe (sz_rsteps (ints zs) (ints ys) _ _) hsy (by omega) (by omega) g3 t; omega)) (by omega)) rfl rfl rfl ⟨rfl, rfl, trivial⟩ Tryz.call124 (pre_same 80 rfl rfl rfl (pre_same 72 rfl rfl rfl pre_nil)) rfl hw) rfl (fun g_7 hg_2 => ?_))))
     refine as_ rfl rfl (l_nil (x_bn ?_))
     refine x_imp (s_dup 4 80 rfl rfl rfl) ?_
     exact x_rnd ((ints zs).length - (ints ws).length + 1, _, _) ⟨by dsimp only; omega, by dsimp only; rw [hg_2, hms, show i = (ints ys).length by omega]; exact hst⟩ (by dsimp only; omega) ⟨rfl, rfl, rfl, trivial⟩ ⟨rfl, rfl, rfl, rfl, rfl, rfl, trivial⟩
  ·refine e_exit ?_
   refine x_exit (x_exit (x_be ?_))
   refine x_then (e_seq (e_reg (mv rfl rfl (as_ rfl rfl (l_nil (x_then (e_ret ?_)))))))
   exact x_end (.inl rfl) hsc (_, ws) _ (fun a w hs => res1 hs Tryz.results125 rfl) rfl (restInv_end (R := ints ws) (by omega) (by omega) hlead (by omega) hI (by have := length_ints ws; omega)) rfl (give_same 80 rfl rfl rfl give_nil)
set_option maxHeartbeats 4000000 in
theorem rp_divide (v u : Value) (zs ys : List (Int × SL)) (hl : zs.length ≤ 30) (hk : ys.length ≤ 30) (hy0 : 0 < ys.length) (htz : Tr (ints zs)) (ht : Tr (ints ys)) (hF : ys.length ≤ zs.length → msz (ints zs) + (zs.length - ys.length + 1) * (msz (ints ys) + 1) ≤ 900000) : Cal Tryz.prog 75 #[v, u] [pp v zs, pp u ys] true (G := Value × List (Int × SL)) (fun r => pdv (ints zs) (ints ys) → ints r.2 = pquoz (ints zs) (ints ys)) (fun r => .tuple #[r.1, .bool (decide (pdv (ints zs) (ints ys)))]) (fun r => [pp r.1 r.2]) := by
 refine cal_in Tryz.func75 rfl Tryz.ntmps75 rfl ⟨rfl, rfl, trivial⟩ ?_
 intro w0 sc hw hsc
 simp only [enumEnv, enumPre]
 have hli := length_ints zs
 have hli2 := length_ints ys
 have hlead : (cf (ints ys) ((ints ys).length - 1)) ≠ 0 := ht.mem (fun e => by rw [← hli2, e] at hy0; simp at hy0)
 refine e_fact (f_len (i := 1) rfl rd_deep) (fun hlen => ?_)
 refine e_fact (f_len (i := 2) rfl rd_deep) (fun hlen2 => ?_)
 refine e_seq (e_reg (as_ rfl rfl (as_ rfl rfl (l_nil (x_then (e_seq (e_seq (e_reg (mv rfl rfl (dt (d_len rfl rfl (i := 1) rfl rd_deep Tryz.underlying33) rfl ?_))))))))))
 refine dt (d_eql rfl rfl rfl) rfl ?_
 refine l_nil (x_then (e_cond rfl (fun h224 => ?_) (fun h224 => ?_)))
 ·refine e_seq (e_reg (as_ rfl rfl (as_ rfl rfl (l_nil (x_then (e_ret (x_ret ?_)))))))
  refine x_imp (s_deep_nil 62) ?_
  have hzn : ints zs = [] := List.eq_nil_of_length_eq_zero (by omega)
  exact x_end (.inl rfl) hsc (.slice none 0 0, []) _ (fun a w hs => res2 hs Tryz.results75 rfl rfl) (by rw [pdv_nil hzn]) (fun _ => by unfold pquoz; rw [if_pos hzn]; rfl) rfl (give_same 62 rfl rfl rfl give_nil)
 ·have hnz : ints zs ≠ [] := fun e => by have h7 := congrArg List.length e; simp only [List.length_nil] at h7; omega
  refine e_skip ?_
  refine x_then (e_seq (e_seq (e_reg (mv rfl rfl (dt (d_len rfl rfl (i := 1) rfl rd_deep Tryz.underlying33) rfl ?_)))))
  refine mv rfl rfl (dt (d_len rfl rfl (i := 2) rfl rd_deep Tryz.underlying33) rfl ?_)
  refine dt (d_lss rfl rfl rfl) rfl ?_
  refine l_nil (x_then (e_cond rfl (fun h227 => ?_) (fun h227 => ?_)))
  ·refine e_seq (e_reg (as_ rfl rfl (as_ rfl rfl (l_nil (x_then (e_ret (x_ret ?_)))))))
   refine x_imp (s_deep_nil 62) ?_
   have hno := pdv_low (p := ints zs) (q := ints ys) (fun e => by have h7 := congrArg List.length e; simp only [List.length_nil] at h7; omega) (by omega)
   exact x_end (.inl rfl) hsc (.slice none 0 0, []) _ (fun a w hs => res2 hs Tryz.results75 rfl rfl) (by rw [hno]) (fun h => absurd h (of_decide_eq_false hno)) rfl (give_same 62 rfl rfl rfl give_nil)
  ·have hF2 := hF (by omega)
   have hF3 : msz (ints zs) + ((ints zs).length - (ints ys).length + 1) * (msz (ints ys) + 1) ≤ 900000 := by rw [hli, hli2]; exact hF2
   have hcl := cf_ints ys (ys.length - 1)
   have hci2 : (ys.getD (ys.length - 1) I0).1 = (cf (ints ys) ((ints ys).length - 1)) := by rw [hcl, hli2]
   have hsy := msz_sz (ints ys)
   have hlq := hsy ((ints ys).length - 1)
   have hmy : msz (ints ys) ≤ 900000 := by have h7 := Nat.mul_le_mul_right (msz (ints ys) + 1) (show 1 ≤ (ints zs).length - (ints ys).length + 1 by omega); omega
   refine e_skip ?_
   refine x_then (e_seq (e_reg (mv rfl rfl (dt (d_len rfl rfl (i := 1) rfl rd_deep Tryz.underlying33) rfl ?_))))
   refine mv rfl rfl (dt (d_len rfl rfl (i := 2) rfl rd_deep Tryz.underlying33) rfl ?_)
   refine dt (d_sub rfl rfl rfl ⟨by omega, by omega⟩) rfl ?_
   refine dt (d_add rfl rfl rfl ⟨by omega, by omega⟩) rfl ?_
   refine tt (t_mkn (i := 60) (n := (zs.length - ys.length + 1)) (by_ := 32) (enc := encI) I0 rfl rfl rfl rfl rfl (by omega) Tryz.underlying33 Tryz.ti39 rfl pI.cells pI.pos rfl rfl (by omega) (by decide) rfl hw) rfl (fun v _ => ?_)
   refine as_ rfl rfl (l_nil (x_then (e_seq (e_reg (mv rfl rfl (as_ rfl rfl (l_nil (x_then (e_seq (e_seq (e_reg (mv rfl rfl (dt (d_len rfl rfl (i := 60) rfl (rd_osl pI) Tryz.underlying33) rfl ?_)))))))))))))
   refine dt (d_sub rfl rfl rfl ⟨by simp only [List.length_replicate]; omega, by simp only [List.length_replicate]; omega⟩) rfl ?_
   refine as_ rfl rfl (l_nil (x_then (e_block (e_imp (s_many_rep 61 (zs.length - ys.length + 1)) ?_))))
   refine e_imp (s_dup 1 80 rfl rfl rfl) ?_
   refine e_lp [(1, _), (6, _)] [(0, _), (1, _), (2, _)] (fun (q : Nat × List (Int × SL) × List (Int × SL) × Value) => [(7, q.2.2.2), (8, .int .i64 ((zs.length : Int) - (ys.length : Int) - (q.1 : Int)))]) (fun (q : Nat × List (Int × SL) × List (Int × SL) × Value) => [(60, osl 2 39 encI v q.2.1), (61, many qI q.2.1), (80, pp q.2.2.2 q.2.2.1)]) (fun (q : Nat × List (Int × SL) × List (Int × SL) × Value) => (q.1 ≤ (ints zs).length - (ints ys).length + 1) ∧ (∀ k, ((ints zs).length - (ints ys).length) < k + q.1 → k ≤ ((ints zs).length - (ints ys).length) → dexact (ints zs) (ints ys) k) ∧ (ints q.2.1 = dout (ints zs) (ints ys) q.1) ∧ (ints q.2.2.1 = tzl (dsteps (ints zs) (ints ys) q.1))) (fun (q : Nat × List (Int × SL) × List (Int × SL) × Value) => (ints zs).length - (ints ys).length + 1 - q.1) (0, List.replicate (zs.length - ys.length + 1) I0, zs, _) ⟨Nat.zero_le _, fun k h1 h2 => by omega, by rw [← dout_zero, hli, hli2]; simp [ints], (tzl_tr htz).symm⟩ ⟨rfl, by simp only [List.length_replicate]; exact congrArg some (i64_eq (by omega)), rfl, rfl, trivial⟩ ⟨rfl, rfl, rfl, rfl, rfl, rfl, trivial⟩ ?_
   rintro ⟨j, os, ws, vr⟩ ⟨hj, hx, hos, hws⟩
   dsimp only at hj hx hos hws
   simp only [List.cons_append, List.nil_append]
   have hlw := length_ints ws
   have hlo := length_ints os
   have hlo2 := congrArg List.length hos
   rw [length_dout] at hlo2
   have hwl : ws.length ≤ zs.length := by rw [← hlw, hws]; exact Nat.le_trans (tzl_le _) (by rw [length_dsteps]; omega)
   refine e_seq (e_seq (e_reg (mv rfl rfl (dt (d_geq rfl rfl rfl) rfl ?_))))
   refine l_nil (x_then (e_cond rfl (fun h232 => ?_) (fun h232 => ?_)))
   ·have hj2 : j ≤ (ints zs).length - (ints ys).length := by omega
    have hcw : cf (ints ws) (((ints zs).length - (ints ys).length - j) + (ints ys).length - 1) = (cf (dsteps (ints zs) (ints ys) j) (((ints zs).length - (ints ys).length - j) + (ints ys).length - 1)) := by rw [hws, cf_tzl]
    have hb1 := div_sz2 hj2 hx hF3
    have hb2 := hb1 (((ints zs).length - (ints ys).length - j) + (ints ys).length - 1)
    refine e_skip ?_
    refine x_then (e_seq (e_block (e_jn [(1, _), (6, _), (7, _), (8, _)] [(0, _), (60, _), (61, _), (80, _), (1, _), (2, _)] (fun (q : Value × Value × Nat × Nat) => [(9, .pointer (some ⟨q.2.2.1, 0, none⟩)), (10, .pointer (some ⟨q.2.2.2, 0, none⟩))]) (fun (q : Value × Value × Nat × Nat) => [(83, d9p q.1 ((cf (dsteps (ints zs) (ints ys) j) (((ints zs).length - (ints ys).length - j) + (ints ys).length - 1)) / (cf (ints ys) ((ints ys).length - 1))).natAbs), (84, d9p q.2.1 ((cf (dsteps (ints zs) (ints ys) j) (((ints zs).length - (ints ys).length - j) + (ints ys).length - 1)) % (cf (ints ys) ((ints ys).length - 1))).natAbs), (97, box q.2.2.1 39 #[.bool (decide (((cf (dsteps (ints zs) (ints ys) j) (((ints zs).length - (ints ys).length - j) + (ints ys).length - 1)) / (cf (ints ys) ((ints ys).length - 1))) < 0)), q.1]), (98, box q.2.2.2 39 #[.bool (decide (((cf (dsteps (ints zs) (ints ys) j) (((ints zs).length - (ints ys).length - j) + (ints ys).length - 1)) % (cf (ints ys) ((ints ys).length - 1))) < 0)), q.2.1])]) (fun (q : Value × Value × Nat × Nat) => True) ⟨rfl, rfl, rfl, rfl, trivial⟩ ⟨rfl, rfl, rfl, rfl, rfl, rfl, trivial⟩ ?_ ?_)))
    ·refine e_dregf [2] [20] (by kernel_rfl) ?_
     refine a_lin' (n := 9) [(0, 0), (1, 0), (2, 0), (3, 0), (4, 0), (5, 0), (7, 0), (8, 0), (9, 0), (10, 0), (11, 0), (12, 0)] (by kernel_rfl) ?_
     refine r0' rfl rfl rfl rfl (stf (d_mv rfl rfl) ⟨rfl, trivial⟩) ?_
     refine r0' rfl rfl rfl rfl (stf (d_mv rfl rfl) ⟨rfl, trivial⟩) ?_
     refine r0' rfl rfl rfl rfl (stf (d_mv rfl rfl) ⟨rfl, trivial⟩) ?_
     refine r0' rfl rfl rfl rfl (stf (d_len rfl rfl (i := 2) rfl rd_deep Tryz.underlying33) ⟨rfl, trivial⟩) ?_
     refine r0' rfl rfl rfl rfl (stf (d_add rfl rfl rfl ⟨by omega, by omega⟩) ⟨rfl, trivial⟩) ?_
     refine r0' rfl rfl rfl rfl (stf (d_sub rfl rfl rfl ⟨by omega, by omega⟩) ⟨rfl, trivial⟩) ?_
     refine r0' rfl rfl rfl rfl (stf (d_mv rfl rfl) ⟨rfl, trivial⟩) ?_
     refine r0' rfl rfl rfl rfl (stf (d_mv rfl rfl) ⟨rfl, trivial⟩) ?_
     refine r0' rfl rfl rfl rfl (stf (d_len rfl rfl (i := 2) rfl rd_deep Tryz.underlying33) ⟨rfl, trivial⟩) ?_
     refine r0' rfl rfl rfl rfl (stf (d_sub rfl rfl rfl ⟨by omega, by omega⟩) ⟨rfl, trivial⟩) ?_
     refine r0' rfl rfl rfl rfl (stf (d_ixa (ii := 2) (i := (ys.length - 1)) rfl rfl rfl rfl rd_deep Tryz.underlying33 Tryz.sizeOf39 (by omega) (by omega)) ⟨rfl, trivial⟩) ?_
     refine r0' rfl rfl rfl rfl (stf (d_lde (ii := 2) I0 rfl rfl rfl rd_deep pI (by omega)) ⟨rfl, trivial⟩) ?_
     refine r_fin ?_
     refine a_br3 (n := 8) 6 17 18 (by kernel_rfl) ?_ ?_ ?_
     ·refine aact' rfl rfl (t_call (n := 3) (rp_at _ _ _ (((ints zs).length - (ints ys).length - j) + (ints ys).length - 1) (by omega) (by omega)) rfl rfl rfl ⟨rfl, rfl, trivial⟩ Tryz.call84 (pre_same 80 rfl rfl rfl pre_nil) rfl hw) (fun v_2 _ => ?_)
      refine a_br3 (n := 7) 13 17 18 (by kernel_rfl) ?_ ?_ ?_
      ·refine aact' rfl rfl (t_call (n := 83) (r_quo _ _ _ _ (by rw [hcw]; omega) (by rw [hci2]; omega) (by rw [hci2]; exact hlead)) rfl rfl rfl ⟨rfl, rfl, trivial⟩ Tryz.call63 (pre_same 3 rfl rfl rfl (pre_dI 2 rfl rfl (getD_mem (zs := ys) (i := ys.length - 1) (d := I0) (by omega)) pre_nil)) rfl hw) (fun g _ => ?_)
       refine a_lin' (n := 4) [(14, 0), (15, 0), (16, 0)] (by kernel_rfl) ?_
       refine r0' rfl rfl rfl rfl (stf (d_mv rfl rfl) ⟨rfl, trivial⟩) ?_
       refine r0' rfl rfl rfl rfl (stf (d_ex rfl rfl rfl) ⟨rfl, trivial⟩) ?_
       refine r0' rfl rfl rfl rfl (stf (d_ex rfl rfl rfl) ⟨rfl, trivial⟩) ?_
       refine r_fin ?_
       refine a_br2 (n := 3) 17 18 (by kernel_rfl) ?_ ?_
       ·refine aact' rfl rfl (t_allocf (i := 97) rfl rfl rfl Tryz.zeroValue39 rfl rfl hw ⟨rfl, trivial⟩) (fun b hoff => ?_)
        refine a_lin' (n := 0) [(18, 1), (19, 1), (20, 3)] (by kernel_rfl) ?_
        refine r1' rfl rfl (t_allocf (i := 98) rfl rfl rfl Tryz.zeroValue39 rfl rfl hw ⟨rfl, trivial⟩) (fun b_2 hoff_2 => ?_)
        refine r1' rfl rfl (t_stw (i := 97) rfl rfl rfl rfl rfl (by decide) rfl Tryz.sizeOf39 rfl rfl ⟨(one_rfl rfl), (one_rd (i := 83) rfl rd_slp), trivial⟩ rfl hw hoff) (fun _ _ => ?_)
        refine r3' rfl rfl (t_stw (i := 98) rfl rfl rfl rfl rfl (by decide) rfl Tryz.sizeOf39 rfl rfl ⟨(one_rfl rfl), (one_rd (i := 84) rfl rd_slp), trivial⟩ rfl hw trivial) (fun _ _ => ?_)
        refine r_fin ?_
        refine a_done (by kernel_rfl) ?_
        exact x_jn (_, _, _, _) trivial ⟨rfl, rfl, rfl, rfl, rfl, rfl, trivial⟩ ⟨by rw [← hcw, ← hci2]; rfl, by rw [← hcw, ← hci2]; rfl, by rw [← hcw, ← hci2]; rfl, by rw [← hcw, ← hci2]; rfl, rfl, rfl, rfl, rfl, rfl, rfl, trivial⟩
       ·refine aact' rfl rfl (t_allocf (i := 98) rfl rfl rfl Tryz.zeroValue39 rfl rfl hw ⟨rfl, trivial⟩) (fun b_3 hoff_3 => ?_)
        refine a_lin' (n := 0) [(17, 1), (19, 1), (20, 3)] (by kernel_rfl) ?_
        refine r1' rfl rfl (t_allocf (i := 97) rfl rfl rfl Tryz.zeroValue39 rfl rfl hw ⟨rfl, trivial⟩) (fun b_4 hoff_4 => ?_)
        refine r1' rfl rfl (t_stw (i := 97) rfl rfl rfl rfl rfl (by decide) rfl Tryz.sizeOf39 rfl rfl ⟨(one_rfl rfl), (one_rd (i := 83) rfl rd_slp), trivial⟩ rfl hw hoff_4) (fun _ _ => ?_)
        refine r3' rfl rfl (t_stw (i := 98) rfl rfl rfl rfl rfl (by decide) rfl Tryz.sizeOf39 rfl rfl ⟨(one_rfl rfl), (one_rd (i := 84) rfl rd_slp), trivial⟩ rfl hw trivial) (fun _ _ => ?_)
        refine r_fin ?_
        refine a_done (by kernel_rfl) ?_
        exact x_jn (_, _, _, _) trivial ⟨rfl, rfl, rfl, rfl, rfl, rfl, trivial⟩ ⟨by rw [← hcw, ← hci2]; rfl, by rw [← hcw, ← hci2]; rfl, by rw [← hcw, ← hci2]; rfl, by rw [← hcw, ← hci2]; rfl, rfl, rfl, rfl, rfl, rfl, rfl, trivial⟩
      ·refine aact' rfl rfl (t_allocf (i := 97) rfl rfl rfl Tryz.zeroValue39 rfl rfl hw ⟨rfl, trivial⟩) (fun b_5 hoff_5 => ?_)
       refine a_br2 (n := 6) 13 18 (by kernel_rfl) ?_ ?_
       ·refine aact' rfl rfl (t_call (n := 83) (r_quo _ _ _ _ (by rw [hcw]; omega) (by rw [hci2]; omega) (by rw [hci2]; exact hlead)) rfl rfl rfl ⟨rfl, rfl, trivial⟩ Tryz.call63 (pre_same 3 rfl rfl rfl (pre_dI 2 rfl rfl (getD_mem (zs := ys) (i := ys.length - 1) (d := I0) (by omega)) pre_nil)) rfl hw) (fun g_2 _ => ?_)
        refine a_lin' (n := 0) [(14, 0), (15, 0), (16, 0), (18, 1), (19, 1), (20, 3)] (by kernel_rfl) ?_
        refine r0' rfl rfl rfl rfl (stf (d_mv rfl rfl) ⟨rfl, trivial⟩) ?_
        refine r0' rfl rfl rfl rfl (stf (d_ex rfl rfl rfl) ⟨rfl, trivial⟩) ?_
        refine r0' rfl rfl rfl rfl (stf (d_ex rfl rfl rfl) ⟨rfl, trivial⟩) ?_
        refine r1' rfl rfl (t_allocf (i := 98) rfl rfl rfl Tryz.zeroValue39 rfl rfl hw ⟨rfl, trivial⟩) (fun b_6 hoff_6 => ?_)
        refine r1' rfl rfl (t_stw (i := 97) rfl rfl rfl rfl rfl (by decide) rfl Tryz.sizeOf39 rfl rfl ⟨(one_rfl rfl), (one_rd (i := 83) rfl rd_slp), trivial⟩ rfl hw hoff_5) (fun _ _ => ?_)
        refine r3' rfl rfl (t_stw (i := 98) rfl rfl rfl rfl rfl (by decide) rfl Tryz.sizeOf39 rfl rfl ⟨(one_rfl rfl), (one_rd (i := 84) rfl rd_slp), trivial⟩ rfl hw trivial) (fun _ _ => ?_)
        refine r_fin ?_
        refine a_done (by kernel_rfl) ?_
        exact x_jn (_, _, _, _) trivial ⟨rfl, rfl, rfl, rfl, rfl, rfl, trivial⟩ ⟨by rw [← hcw, ← hci2]; rfl, by rw [← hcw, ← hci2]; rfl, by rw [← hcw, ← hci2]; rfl, by rw [← hcw, ← hci2]; rfl, rfl, rfl, rfl, rfl, rfl, rfl, trivial⟩
       ·refine aact' rfl rfl (t_allocf (i := 98) rfl rfl rfl Tryz.zeroValue39 rfl rfl hw ⟨rfl, trivial⟩) (fun b_7 hoff_7 => ?_)
        refine a_lin' (n := 0) [(13, 1), (14, 0), (15, 0), (16, 0), (19, 1), (20, 3)] (by kernel_rfl) ?_
        refine r1' rfl rfl (t_call (n := 83) (r_quo _ _ _ _ (by rw [hcw]; omega) (by rw [hci2]; omega) (by rw [hci2]; exact hlead)) rfl rfl rfl ⟨rfl, rfl, trivial⟩ Tryz.call63 (pre_same 3 rfl rfl rfl (pre_dI 2 rfl rfl (getD_mem (zs := ys) (i := ys.length - 1) (d := I0) (by omega)) pre_nil)) rfl hw) (fun g_3 _ => ?_)
        refine r0' rfl rfl rfl rfl (stf (d_mv rfl rfl) ⟨rfl, trivial⟩) ?_
        refine r0' rfl rfl rfl rfl (stf (d_ex rfl rfl rfl) ⟨rfl, trivial⟩) ?_
        refine r0' rfl rfl rfl rfl (stf (d_ex rfl rfl rfl) ⟨rfl, trivial⟩) ?_
        refine r1' rfl rfl (t_stw (i := 97) rfl rfl rfl rfl rfl (by decide) rfl Tryz.sizeOf39 rfl rfl ⟨(one_rfl rfl), (one_rd (i := 83) rfl rd_slp), trivial⟩ rfl hw hoff_5) (fun _ _ => ?_)
        refine r3' rfl rfl (t_stw (i := 98) rfl rfl rfl rfl rfl (by decide) rfl Tryz.sizeOf39 rfl rfl ⟨(one_rfl rfl), (one_rd (i := 84) rfl rd_slp), trivial⟩ rfl hw trivial) (fun _ _ => ?_)
        refine r_fin ?_
        refine a_done (by kernel_rfl) ?_
        exact x_jn (_, _, _, _) trivial ⟨rfl, rfl, rfl, rfl, rfl, rfl, trivial⟩ ⟨by rw [← hcw, ← hci2]; rfl, by rw [← hcw, ← hci2]; rfl, by rw [← hcw, ← hci2]; rfl, by rw [← hcw, ← hci2]; rfl, rfl, rfl, rfl, rfl, rfl, rfl, trivial⟩
      ·refine aact' rfl rfl (t_allocf (i := 98) rfl rfl rfl Tryz.zeroValue39 rfl rfl hw ⟨rfl, trivial⟩) (fun b_8 hoff_8 => ?_)
       refine a_br2 (n := 6) 13 17 (by kernel_rfl) ?_ ?_
       ·refine aact' rfl rfl (t_call (n := 83) (r_quo _ _ _ _ (by rw [hcw]; omega) (by rw [hci2]; omega) (by rw [hci2]; exact hlead)) rfl rfl rfl ⟨rfl, rfl, trivial⟩ Tryz.call63 (pre_same 3 rfl rfl rfl (pre_dI 2 rfl rfl (getD_mem (zs := ys) (i := ys.length - 1) (d := I0) (by omega)) pre_nil)) rfl hw) (fun g_4 _ => ?_)
        refine a_lin' (n := 0) [(14, 0), (15, 0), (16, 0), (17, 1), (19, 1), (20, 3)] (by kernel_rfl) ?_
        refine r0' rfl rfl rfl rfl (stf (d_mv rfl rfl) ⟨rfl, trivial⟩) ?_
        refine r0' rfl rfl rfl rfl (stf (d_ex rfl rfl rfl) ⟨rfl, trivial⟩) ?_
        refine r0' rfl rfl rfl rfl (stf (d_ex rfl rfl rfl) ⟨rfl, trivial⟩) ?_
        refine r1' rfl rfl (t_allocf (i := 97) rfl rfl rfl Tryz.zeroValue39 rfl rfl hw ⟨rfl, trivial⟩) (fun b_9 hoff_9 => ?_)
        refine r1' rfl rfl (t_stw (i := 97) rfl rfl rfl rfl rfl (by decide) rfl Tryz.sizeOf39 rfl rfl ⟨(one_rfl rfl), (one_rd (i := 83) rfl rd_slp), trivial⟩ rfl hw hoff_9) (fun _ _ => ?_)
        refine r3' rfl rfl (t_stw (i := 98) rfl rfl rfl rfl rfl (by decide) rfl Tryz.sizeOf39 rfl rfl ⟨(one_rfl rfl), (one_rd (i := 84) rfl rd_slp), trivial⟩ rfl hw trivial) (fun _ _ => ?_)
        refine r_fin ?_
        refine a_done (by kernel_rfl) ?_
        exact x_jn (_, _, _, _) trivial ⟨rfl, rfl, rfl, rfl, rfl, rfl, trivial⟩ ⟨by rw [← hcw, ← hci2]; rfl, by rw [← hcw, ← hci2]; rfl, by rw [← hcw, ← hci2]; rfl, by rw [← hcw, ← hci2]; rfl, rfl, rfl, rfl, rfl, rfl, rfl, trivial⟩
       ·refine aact' rfl rfl (t_allocf (i := 97) rfl rfl rfl Tryz.zeroValue39 rfl rfl hw ⟨rfl, trivial⟩) (fun b_10 hoff_10 => ?_)
        refine a_lin' (n := 0) [(13, 1), (14, 0), (15, 0), (16, 0), (19, 1), (20, 3)] (by kernel_rfl) ?_
        refine r1' rfl rfl (t_call (n := 83) (r_quo _ _ _ _ (by rw [hcw]; omega) (by rw [hci2]; omega) (by rw [hci2]; exact hlead)) rfl rfl rfl ⟨rfl, rfl, trivial⟩ Tryz.call63 (pre_same 3 rfl rfl rfl (pre_dI 2 rfl rfl (getD_mem (zs := ys) (i := ys.length - 1) (d := I0) (by omega)) pre_nil)) rfl hw) (fun g_5 _ => ?_)
        refine r0' rfl rfl rfl rfl (stf (d_mv rfl rfl) ⟨rfl, trivial⟩) ?_
        refine r0' rfl rfl rfl rfl (stf (d_ex rfl rfl rfl) ⟨rfl, trivial⟩) ?_
        refine r0' rfl rfl rfl rfl (stf (d_ex rfl rfl rfl) ⟨rfl, trivial⟩) ?_
        refine r1' rfl rfl (t_stw (i := 97) rfl rfl rfl rfl rfl (by decide) rfl Tryz.sizeOf39 rfl rfl ⟨(one_rfl rfl), (one_rd (i := 83) rfl rd_slp), trivial⟩ rfl hw hoff_10) (fun _ _ => ?_)
        refine r3' rfl rfl (t_stw (i := 98) rfl rfl rfl rfl rfl (by decide) rfl Tryz.sizeOf39 rfl rfl ⟨(one_rfl rfl), (one_rd (i := 84) rfl rd_slp), trivial⟩ rfl hw trivial) (fun _ _ => ?_)
        refine r_fin ?_
        refine a_done (by kernel_rfl) ?_
        exact x_jn (_, _, _, _) trivial ⟨rfl, rfl, rfl, rfl, rfl, rfl, trivial⟩ ⟨by rw [← hcw, ← hci2]; rfl, by rw [← hcw, ← hci2]; rfl, by rw [← hcw, ← hci2]; rfl, by rw [← hcw, ← hci2]; rfl, rfl, rfl, rfl, rfl, rfl, rfl, trivial⟩
     ·refine aact' rfl rfl (t_allocf (i := 97) rfl rfl rfl Tryz.zeroValue39 rfl rfl hw ⟨rfl, trivial⟩) (fun b_11 hoff_11 => ?_)
      refine a_br2 (n := 7) 6 18 (by kernel_rfl) ?_ ?_
      ·refine aact' rfl rfl (t_call (n := 4) (rp_at _ _ _ (((ints zs).length - (ints ys).length - j) + (ints ys).length - 1) (by omega) (by omega)) rfl rfl rfl ⟨rfl, rfl, trivial⟩ Tryz.call84 (pre_same 80 rfl rfl rfl pre_nil) rfl hw) (fun v_3 _ => ?_)
       refine a_br2 (n := 6) 13 18 (by kernel_rfl) ?_ ?_
       ·refine aact' rfl rfl (t_call (n := 83) (r_quo _ _ _ _ (by rw [hcw]; omega) (by rw [hci2]; omega) (by rw [hci2]; exact hlead)) rfl rfl rfl ⟨rfl, rfl, trivial⟩ Tryz.call63 (pre_same 4 rfl rfl rfl (pre_dI 2 rfl rfl (getD_mem (zs := ys) (i := ys.length - 1) (d := I0) (by omega)) pre_nil)) rfl hw) (fun g_6 _ => ?_)
        refine a_lin' (n := 0) [(14, 0), (15, 0), (16, 0), (18, 1), (19, 1), (20, 3)] (by kernel_rfl) ?_
        refine r0' rfl rfl rfl rfl (stf (d_mv rfl rfl) ⟨rfl, trivial⟩) ?_
        refine r0' rfl rfl rfl rfl (stf (d_ex rfl rfl rfl) ⟨rfl, trivial⟩) ?_
        refine r0' rfl rfl rfl rfl (stf (d_ex rfl rfl rfl) ⟨rfl, trivial⟩) ?_
        refine r1' rfl rfl (t_allocf (i := 98) rfl rfl rfl Tryz.zeroValue39 rfl rfl hw ⟨rfl, trivial⟩) (fun b_12 hoff_12 => ?_)
        refine r1' rfl rfl (t_stw (i := 97) rfl rfl rfl rfl rfl (by decide) rfl Tryz.sizeOf39 rfl rfl ⟨(one_rfl rfl), (one_rd (i := 83) rfl rd_slp), trivial⟩ rfl hw hoff_11) (fun _ _ => ?_)
        refine r3' rfl rfl (t_stw (i := 98) rfl rfl rfl rfl rfl (by decide) rfl Tryz.sizeOf39 rfl rfl ⟨(one_rfl rfl), (one_rd (i := 84) rfl rd_slp), trivial⟩ rfl hw trivial) (fun _ _ => ?_)
        refine r_fin ?_
        refine a_done (by kernel_rfl) ?_
        exact x_jn (_, _, _, _) trivial ⟨rfl, rfl, rfl, rfl, rfl, rfl, trivial⟩ ⟨by rw [← hcw, ← hci2]; rfl, by rw [← hcw, ← hci2]; rfl, by rw [← hcw, ← hci2]; rfl, by rw [← hcw, ← hci2]; rfl, rfl, rfl, rfl, rfl, rfl, rfl, trivial⟩
       ·refine aact' rfl rfl (t_allocf (i := 98) rfl rfl rfl Tryz.zeroValue39 rfl rfl hw ⟨rfl, trivial⟩) (fun b_13 hoff_13 => ?_)
        refine a_lin' (n := 0) [(13, 1), (14, 0), (15, 0), (16, 0), (19, 1), (20, 3)] (by kernel_rfl) ?_
        refine r1' rfl rfl (t_call (n := 83) (r_quo _ _ _ _ (by rw [hcw]; omega) (by rw [hci2]; omega) (by rw [hci2]; exact hlead)) rfl rfl rfl ⟨rfl, rfl, trivial⟩ Tryz.call63 (pre_same 4 rfl rfl rfl (pre_dI 2 rfl rfl (getD_mem (zs := ys) (i := ys.length - 1) (d := I0) (by omega)) pre_nil)) rfl hw) (fun g_7 _ => ?_)
        refine r0' rfl rfl rfl rfl (stf (d_mv rfl rfl) ⟨rfl, trivial⟩) ?_
        refine r0' rfl rfl rfl rfl (stf (d_ex rfl rfl rfl) ⟨rfl, trivial⟩) ?_
        refine r0' rfl rfl rfl rfl (stf (d_ex rfl rfl rfl) ⟨rfl, trivial⟩) ?_
        refine r1' rfl rfl (t_stw (i := 97) rfl rfl rfl rfl rfl (by decide) rfl Tryz.sizeOf39 rfl rfl ⟨(one_rfl rfl), (one_rd (i := 83) rfl rd_slp), trivial⟩ rfl hw hoff_11) (fun _ _ => ?_)
        refine r3' rfl rfl (t_stw (i := 98) rfl rfl rfl rfl rfl (by decide) rfl Tryz.sizeOf39 rfl rfl ⟨(one_rfl rfl), (one_rd (i := 84) rfl rd_slp), trivial⟩ rfl hw trivial) (fun _ _ => ?_)
        refine r_fin ?_
        refine a_done (by kernel_rfl) ?_
        exact x_jn (_, _, _, _) trivial ⟨rfl, rfl, rfl, rfl, rfl, rfl, trivial⟩ ⟨by rw [← hcw, ← hci2]; rfl, by rw [← hcw, ← hci2]; rfl, by rw [← hcw, ← hci2]; rfl, by rw [← hcw, ← hci2]; rfl, rfl, rfl, rfl, rfl, rfl, rfl, trivial⟩
      ·refine aact' rfl rfl (t_allocf (i := 98) rfl rfl rfl Tryz.zeroValue39 rfl rfl hw ⟨rfl, trivial⟩) (fun b_14 hoff_14 => ?_)
       refine a_lin' (n := 0) [(6, 1), (13, 1), (14, 0), (15, 0), (16, 0), (19, 1), (20, 3)] (by kernel_rfl) ?_
       refine r1' rfl rfl (t_call (n := 5) (rp_at _ _ _ (((ints zs).length - (ints ys).length - j) + (ints ys).length - 1) (by omega) (by omega)) rfl rfl rfl ⟨rfl, rfl, trivial⟩ Tryz.call84 (pre_same 80 rfl rfl rfl pre_nil) rfl hw) (fun v_4 _ => ?_)
       refine r1' rfl rfl (t_call (n := 83) (r_quo _ _ _ _ (by rw [hcw]; omega) (by rw [hci2]; omega) (by rw [hci2]; exact hlead)) rfl rfl rfl ⟨rfl, rfl, trivial⟩ Tryz.call63 (pre_same 5 rfl rfl rfl (pre_dI 2 rfl rfl (getD_mem (zs := ys) (i := ys.length - 1) (d := I0) (by omega)) pre_nil)) rfl hw) (fun g_8 _ => ?_)
       refine r0' rfl rfl rfl rfl (stf (d_mv rfl rfl) ⟨rfl, trivial⟩) ?_
       refine r0' rfl rfl rfl rfl (stf (d_ex rfl rfl rfl) ⟨rfl, trivial⟩) ?_
       refine r0' rfl rfl rfl rfl (stf (d_ex rfl rfl rfl) ⟨rfl, trivial⟩) ?_
       refine r1' rfl rfl (t_stw (i := 97) rfl rfl rfl rfl rfl (by decide) rfl Tryz.sizeOf39 rfl rfl ⟨(one_rfl rfl), (one_rd (i := 83) rfl rd_slp), trivial⟩ rfl hw hoff_11) (fun _ _ => ?_)
       refine r3' rfl rfl (t_stw (i := 98) rfl rfl rfl rfl rfl (by decide) rfl Tryz.sizeOf39 rfl rfl ⟨(one_rfl rfl), (one_rd (i := 84) rfl rd_slp), trivial⟩ rfl hw trivial) (fun _ _ => ?_)
       refine r_fin ?_
       refine a_done (by kernel_rfl) ?_
       exact x_jn (_, _, _, _) trivial ⟨rfl, rfl, rfl, rfl, rfl, rfl, trivial⟩ ⟨by rw [← hcw, ← hci2]; rfl, by rw [← hcw, ← hci2]; rfl, by rw [← hcw, ← hci2]; rfl, by rw [← hcw, ← hci2]; rfl, rfl, rfl, rfl, rfl, rfl, rfl, trivial⟩
     ·refine aact' rfl rfl (t_allocf (i := 98) rfl rfl rfl Tryz.zeroValue39 rfl rfl hw ⟨rfl, trivial⟩) (fun b_15 hoff_15 => ?_)
      refine a_br2 (n := 7) 6 17 (by kernel_rfl) ?_ ?_
      ·refine aact' rfl rfl (t_call (n := 6) (rp_at _ _ _ (((ints zs).length - (ints ys).length - j) + (ints ys).length - 1) (by omega) (by omega)) rfl rfl rfl ⟨rfl, rfl, trivial⟩ Tryz.call84 (pre_same 80 rfl rfl rfl pre_nil) rfl hw) (fun v_5 _ => ?_)
       refine a_br2 (n := 6) 13 17 (by kernel_rfl) ?_ ?_
       ·refine aact' rfl rfl (t_call (n := 83) (r_quo _ _ _ _ (by rw [hcw]; omega) (by rw [hci2]; omega) (by rw [hci2]; exact hlead)) rfl rfl rfl ⟨rfl, rfl, trivial⟩ Tryz.call63 (pre_same 6 rfl rfl rfl (pre_dI 2 rfl rfl (getD_mem (zs := ys) (i := ys.length - 1) (d := I0) (by omega)) pre_nil)) rfl hw) (fun g_9 _ => ?_)
        refine a_lin' (n := 0) [(14, 0), (15, 0), (16, 0), (17, 1), (19, 1), (20, 3)] (by kernel_rfl) ?_
        refine r0' rfl rfl rfl rfl (stf (d_mv rfl rfl) ⟨rfl, trivial⟩) ?_
        refine r0' rfl rfl rfl rfl (stf (d_ex rfl rfl rfl) ⟨rfl, trivial⟩) ?_
        refine r0' rfl rfl rfl rfl (stf (d_ex rfl rfl rfl) ⟨rfl, trivial⟩) ?_
        refine r1' rfl rfl (t_allocf (i := 97) rfl rfl rfl Tryz.zeroValue39 rfl rfl hw ⟨rfl, trivial⟩) (fun b_16 hoff_16 => ?_)
        refine r1' rfl rfl (t_stw (i := 97) rfl rfl rfl rfl rfl (by decide) rfl Tryz.sizeOf39 rfl rfl ⟨(one_rfl rfl), (one_rd (i := 83) rfl rd_slp), trivial⟩ rfl hw hoff_16) (fun _ _ => ?_)
        refine r3' rfl rfl (t_stw (i := 98) rfl rfl rfl rfl rfl (by decide) rfl Tryz.sizeOf39 rfl rfl ⟨(one_rfl rfl), (one_rd (i := 84) rfl rd_slp), trivial⟩ rfl hw trivial) (fun _ _ => ?_)
        refine r_fin ?_
        refine a_done (by kernel_rfl) ?_
        exact x_jn (_, _, _, _) trivial ⟨rfl, rfl, rfl, rfl, rfl, rfl, trivial⟩ ⟨by rw [← hcw, ← hci2]; rfl, by rw [← hcw, ← hci2]; rfl, by rw [← hcw, ← hci2]; rfl, by rw [← hcw, ← hci2]; rfl, rfl, rfl, rfl, rfl, rfl, rfl, trivial⟩
       ·refine aact' rfl rfl (t_allocf (i := 97) rfl rfl rfl Tryz.zeroValue39 rfl rfl hw ⟨rfl, trivial⟩) (fun b_17 hoff_17 => ?_)
        refine a_lin' (n := 0) [(13, 1), (14, 0), (15, 0), (16, 0), (19, 1), (20, 3)] (by kernel_rfl) ?_
        refine r1' rfl rfl (t_call (n := 83) (r_quo _ _ _ _ (by rw [hcw]; omega) (by rw [hci2]; omega) (by rw [hci2]; exact hlead)) rfl rfl rfl ⟨rfl, rfl, trivial⟩ Tryz.call63 (pre_same 6 rfl rfl rfl (pre_dI 2 rfl rfl (getD_mem (zs := ys) (i := ys.length - 1) (d := I0) (by omega)) pre_nil)) rfl hw) (fun g_10 _ => ?_)
        refine r0' rfl rfl rfl rfl (stf (d_mv rfl rfl) ⟨rfl, trivial⟩) ?_
        refine r0' rfl rfl rfl rfl (stf (d_ex rfl rfl rfl) ⟨rfl, trivial⟩) ?_
        refine r0' rfl rfl rfl rfl (stf (d_ex rfl rfl rfl) ⟨rfl, trivial⟩) ?_
        refine r1' rfl rfl (t_stw (i := 97) rfl rfl rfl rfl rfl (by decide) rfl Tryz.sizeOf39 rfl rfl ⟨(one_rfl rfl), (one_rd (i := 83) rfl rd_slp), trivial⟩ rfl hw hoff_17) (fun _ _ => ?_)
        refine r3' rfl rfl (t_stw (i := 98) rfl rfl rfl rfl rfl (by decide) rfl Tryz.sizeOf39 rfl rfl ⟨(one_rfl rfl), (one_rd (i := 84) rfl rd_slp), trivial⟩ rfl hw trivial) (fun _ _ => ?_)
        refine r_fin ?_
        refine a_done (by kernel_rfl) ?_
        exact x_jn (_, _, _, _) trivial ⟨rfl, rfl, rfl, rfl, rfl, rfl, trivial⟩ ⟨by rw [← hcw, ← hci2]; rfl, by rw [← hcw, ← hci2]; rfl, by rw [← hcw, ← hci2]; rfl, by rw [← hcw, ← hci2]; rfl, rfl, rfl, rfl, rfl, rfl, rfl, trivial⟩
      ·refine aact' rfl rfl (t_allocf (i := 97) rfl rfl rfl Tryz.zeroValue39 rfl rfl hw ⟨rfl, trivial⟩) (fun b_18 hoff_18 => ?_)
       refine a_lin' (n := 0) [(6, 1), (13, 1), (14, 0), (15, 0), (16, 0), (19, 1), (20, 3)] (by kernel_rfl) ?_
       refine r1' rfl rfl (t_call (n := 7) (rp_at _ _ _ (((ints zs).length - (ints ys).length - j) + (ints ys).length - 1) (by omega) (by omega)) rfl rfl rfl ⟨rfl, rfl, trivial⟩ Tryz.call84 (pre_same 80 rfl rfl rfl pre_nil) rfl hw) (fun v_6 _ => ?_)
       refine r1' rfl rfl (t_call (n := 83) (r_quo _ _ _ _ (by rw [hcw]; omega) (by rw [hci2]; omega) (by rw [hci2]; exact hlead)) rfl rfl rfl ⟨rfl, rfl, trivial⟩ Tryz.call63 (pre_same 7 rfl rfl rfl (pre_dI 2 rfl rfl (getD_mem (zs := ys) (i := ys.length - 1) (d := I0) (by omega)) pre_nil)) rfl hw) (fun g_11 _ => ?_)
       refine r0' rfl rfl rfl rfl (stf (d_mv rfl rfl) ⟨rfl, trivial⟩) ?_
       refine r0' rfl rfl rfl rfl (stf (d_ex rfl rfl rfl) ⟨rfl, trivial⟩) ?_
       refine r0' rfl rfl rfl rfl (stf (d_ex rfl rfl rfl) ⟨rfl, trivial⟩) ?_
       refine r1' rfl rfl (t_stw (i := 97) rfl rfl rfl rfl rfl (by decide) rfl Tryz.sizeOf39 rfl rfl ⟨(one_rfl rfl), (one_rd (i := 83) rfl rd_slp), trivial⟩ rfl hw hoff_18) (fun _ _ => ?_)
       refine r3' rfl rfl (t_stw (i := 98) rfl rfl rfl rfl rfl (by decide) rfl Tryz.sizeOf39 rfl rfl ⟨(one_rfl rfl), (one_rd (i := 84) rfl rd_slp), trivial⟩ rfl hw trivial) (fun _ _ => ?_)
       refine r_fin ?_
       refine a_done (by kernel_rfl) ?_
       exact x_jn (_, _, _, _) trivial ⟨rfl, rfl, rfl, rfl, rfl, rfl, trivial⟩ ⟨by rw [← hcw, ← hci2]; rfl, by rw [← hcw, ← hci2]; rfl, by rw [← hcw, ← hci2]; rfl, by rw [← hcw, ← hci2]; rfl, rfl, rfl, rfl, rfl, rfl, rfl, trivial⟩
    ·rintro ⟨qv, rv, b7, b8⟩ -
     simp only [List.cons_append, List.nil_append]
     refine e_seq (e_seq (e_reg (dt (d_lb2 (i := 98) rfl rfl rfl Tryz.isAgg39 Tryz.sizeOf39 rfl rfl) rfl ?_)))
     refine tt (t_call (n := 7) (r_sign _ _ (by have := bl_imod (cf (dsteps (ints zs) (ints ys) j) (((ints zs).length - (ints ys).length - j) + (ints ys).length - 1)) (cf (ints ys) ((ints ys).length - 1)) hlead; omega)) rfl rfl rfl ⟨rfl, trivial⟩ Tryz.call61 (pre_same 84 rfl rfl rfl pre_nil) rfl hw) rfl (fun _ _ => ?_)
     refine dt (d_neq rfl rfl rfl) rfl ?_
     refine l_nil (x_then (e_cond rfl (fun h234 => ?_) (fun h234 => ?_)))
     ·have hne : ¬ dexact (ints zs) (ints ys) ((ints zs).length - (ints ys).length - j) := fun he => h234 (by rw [(dexact_j hj2).1 he]; rfl)
      refine e_seq (e_reg (as_ rfl rfl (as_ rfl rfl (l_nil (x_then (e_ret (x_ret ?_)))))))
      refine x_br ?_
      refine x_ret ?_
      refine x_ret ?_
      refine x_br ?_
      refine x_ret ?_
      refine x_imp (s_deep_nil 62) ?_
      have hno := pdv_no (p := ints zs) (q := ints ys) hnz (by omega) hne
      exact x_end (.inl rfl) hsc (.slice none 0 0, []) _ (fun a w hs => res2 hs Tryz.results75 rfl rfl) (by rw [hno]) (fun h => absurd h (of_decide_eq_false hno)) rfl (give_same 62 rfl rfl rfl give_nil)
     ·have hr0 : ((cf (dsteps (ints zs) (ints ys) j) (((ints zs).length - (ints ys).length - j) + (ints ys).length - 1)) % (cf (ints ys) ((ints ys).length - 1))) = 0 := Int.sign_eq_zero_iff_zero.1 (Decidable.byContradiction h234)
      have hde : dexact (ints zs) (ints ys) ((ints zs).length - (ints ys).length - j) := (dexact_j hj2).2 hr0
      have hcb := fun t => Nat.le_trans (div_c hlead hr0 (Nat.le_refl _) t) hb2
      have hcc := ediv_bl_le (Int.dvd_of_emod_eq_zero hr0) (Nat.le_trans (Nat.le_add_right _ _) hb2)
      refine e_skip ?_
      refine x_then (e_seq (e_ex (f_slice 83 rfl rd_slp) (fun sl hsl => ?_)))
      subst hsl
      refine e_reg (mv rfl rfl (mv rfl rfl (dt (d_lb2 (i := 97) rfl rfl rfl Tryz.isAgg39 Tryz.sizeOf39 rfl rfl) rfl ?_)))
      refine dt (d_ixa (ii := 60) (i := ((ints zs).length - (ints ys).length - j)) rfl rfl rfl rfl (rd_osl pI) Tryz.underlying33 Tryz.sizeOf39 (by omega) (by omega)) rfl ?_
      refine tt (t_ste (i := 60) (enc := encI) (((cf (dsteps (ints zs) (ints ys) j) (((ints zs).length - (ints ys).length - j) + (ints ys).length - 1)) / (cf (ints ys) ((ints ys).length - 1))), sl) rfl rfl rfl rfl rfl rfl (by decide) pI (by omega) rfl hw) rfl (fun _ _ => ?_)
      refine l_nil (x_then (e_seq (e_imp (s_many_snoc (q := qI) (z := (((cf (dsteps (ints zs) (ints ys) j) (((ints zs).length - (ints ys).length - j) + (ints ys).length - 1)) / (cf (ints ys) ((ints ys).length - 1))), sl)) 61 83 62 rfl rfl rfl rfl rfl) ?_)))
      refine e_imp (s_many_sub (ys := os.set ((ints zs).length - (ints ys).length - j) (((cf (dsteps (ints zs) (ints ys) j) (((ints zs).length - (ints ys).length - j) + (ints ys).length - 1)) / (cf (ints ys) ((ints ys).length - 1))), sl)) 62 61 rfl rfl (fun y hy => by rcases List.mem_or_eq_of_mem_set hy with h | h; exact List.mem_append_left _ h; rw [h]; exact List.mem_append_right _ (List.mem_singleton.2 rfl))) ?_
      refine e_reg (mv rfl rfl (tt (t_mkn (i := 70) (n := ((ints zs).length - (ints ys).length - j)) (by_ := 32) (enc := encI) I0 rfl rfl rfl rfl rfl (by omega) Tryz.underlying33 Tryz.ti39 rfl pI.cells pI.pos rfl rfl (by omega) (by decide) rfl hw) rfl (fun v_7 _ => ?_)))
      refine as_ rfl rfl (l_nil (x_then (e_seq (e_seq (e_reg (as_ rfl rfl (l_nil (x_then (e_block (e_imp (s_many_rep 71 ((ints zs).length - (ints ys).length - j)) ?_))))))))))
      refine e_lp [(1, _), (6, _), (7, _), (8, _), (9, _)] [(0, _), (83, _), (84, _), (97, _), (98, _), (60, _), (61, _), (80, _), (1, _), (2, _)] (fun (q : Nat × Value × List (Int × SL)) => [(12, .int .i64 (q.1 : Int)), (11, q.2.1)]) (fun (q : Nat × Value × List (Int × SL)) => [(70, osl 2 39 encI q.2.1 q.2.2), (71, many qI q.2.2)]) (fun (q : Nat × Value × List (Int × SL)) => (q.1 ≤ ys.length) ∧ (ints q.2.2 = shm (ints ys) ((cf (dsteps (ints zs) (ints ys) j) (((ints zs).length - (ints ys).length - j) + (ints ys).length - 1)) / (cf (ints ys) ((ints ys).length - 1))) ((ints zs).length - (ints ys).length - j) q.1) ∧ (q.2.2.length = ((ints zs).length - (ints ys).length - j) + q.1)) (fun (q : Nat × Value × List (Int × SL)) => ys.length - q.1) (0, _, List.replicate ((ints zs).length - (ints ys).length - j) I0) ⟨by first | omega | (dsimp only <;> omega), by rw [← shm_zero]; simp [ints], by simp⟩ ⟨rfl, rfl, rfl, rfl, rfl, rfl, rfl, trivial⟩ ⟨rfl, rfl, rfl, rfl, rfl, rfl, rfl, rfl, rfl, rfl, rfl, rfl, trivial⟩ ?_
      rintro ⟨i, vo, ms⟩ ⟨hi, hms, hml⟩
      dsimp only at hi hms hml
      simp only [List.cons_append, List.nil_append]
      have hci := cf_ints ys i
      refine e_seq (e_seq (e_reg (mv rfl rfl (mv rfl rfl (dt (d_len rfl rfl (i := 2) rfl rd_deep Tryz.underlying33) rfl ?_)))))
      refine dt (d_lss rfl rfl rfl) rfl ?_
      refine l_nil (x_then (e_cond rfl (fun h239 => ?_) (fun h239 => ?_)))
      ·refine e_skip ?_
       refine x_then (e_seq (e_block (e_dregf [2, 97] [9] (by kernel_rfl) ?_)))
       refine a_lin' (n := 3) [(0, 0), (1, 0), (2, 0), (3, 0), (4, 0), (5, 0), (6, 1)] (by kernel_rfl) ?_
       refine r0' rfl rfl rfl rfl (stf (d_mv rfl rfl) ⟨rfl, rfl, trivial⟩) ?_
       refine r0' rfl rfl rfl rfl (stf (d_lb2 (i := 97) rfl rfl rfl Tryz.isAgg39 Tryz.sizeOf39 rfl rfl) ⟨rfl, rfl, trivial⟩) ?_
       refine r0' rfl rfl rfl rfl (stf (d_mv rfl rfl) ⟨rfl, rfl, trivial⟩) ?_
       refine r0' rfl rfl rfl rfl (stf (d_mv rfl rfl) ⟨rfl, rfl, trivial⟩) ?_
       refine r0' rfl rfl rfl rfl (stf (d_ixa (ii := 2) rfl rfl rfl rfl rd_deep Tryz.underlying33 Tryz.sizeOf39 rfl (by first | omega | (simp only [List.length_set]; omega))) ⟨rfl, rfl, trivial⟩) ?_
       refine r0' rfl rfl rfl rfl (stf (d_lde (ii := 2) I0 rfl rfl rfl rd_deep pI (by first | omega | (simp only [List.length_set]; omega))) ⟨rfl, rfl, trivial⟩) ?_
       refine r1' rfl rfl (t_call (n := 86) (r_mul _ _ _ _ (by omega) (by rw [hci]; have := hsy i; omega)) rfl rfl rfl ⟨rfl, rfl, trivial⟩ Tryz.call44 (pre_same 83 rfl rfl rfl (pre_dI 2 rfl rfl (getD_mem (i := i) (by omega)) pre_nil)) rfl hw) (fun v_8 _ => ?_)
       refine r_fin ?_
       refine a_ex (f_slice 86 rfl rd_slp) (fun sl_2 hsl => ?_)
       subst hsl
       refine a_lin' (n := 0) [(7, 1), (8, 1), (9, 3)] (by kernel_rfl) ?_
       refine r1' rfl rfl (t_bsg (i := 87) (ivs := [(0, _)]) (enc := encI) [(((cf (dsteps (ints zs) (ints ys) j) (((ints zs).length - (ints ys).length - j) + (ints ys).length - 1)) / (cf (ints ys) ((ints ys).length - 1))) * (ys.getD i I0).1, sl_2)] rfl rfl rfl ⟨rfl, rfl, trivial⟩ Tryz.underlying33 Tryz.ti39 rfl rfl rfl rfl rfl rfl pI.cells rfl rfl hw) (fun v_9 _ => ?_)
       refine r1' rfl rfl (t_offr 70 rfl rfl rfl ⟨rfl, rfl, trivial⟩ (fun hoffr => (t_appaM (xs := ms) (ys := [_]) (i := 70) (j := 87) (by_ := 32) rfl rfl rfl rfl rfl rfl (by decide) rfl (rd_osl pI) Tryz.underlying33 Tryz.ti39 rfl pI rfl rfl rfl (by simp; omega) (by decide) rfl hw hoffr))) (fun v_10 _ => ?_)
       refine r3' rfl rfl (t_det (d_as rfl rfl) rfl rfl) (fun _ _ => ?_)
       refine r_fin ?_
       refine a_done (by kernel_rfl) ?_
       refine x_bn ?_
       refine x_then (e_reg (mv rfl rfl (dt (d_add rfl rfl rfl ⟨by omega, by omega⟩) rfl ?_)))
       refine as_ rfl rfl (l_nil (x_imp (s_many_snoc (q := qI) (z := (((cf (dsteps (ints zs) (ints ys) j) (((ints zs).length - (ints ys).length - j) + (ints ys).length - 1)) / (cf (ints ys) ((ints ys).length - 1))) * (ys.getD i I0).1, sl_2)) 71 86 71 rfl rfl rfl rfl rfl) ?_))
       exact x_rnd (i + 1, _, ms ++ [(((cf (dsteps (ints zs) (ints ys) j) (((ints zs).length - (ints ys).length - j) + (ints ys).length - 1)) / (cf (ints ys) ((ints ys).length - 1))) * (ys.getD i I0).1, sl_2)]) ⟨by first | omega | (dsimp only <;> omega), by rw [ints_snoc, hms, ← shm_succ]; dsimp only; rw [hci], by simp; omega⟩ (by first | omega | (dsimp only <;> omega)) ⟨rfl, rfl, rfl, rfl, rfl, rfl, rfl, trivial⟩ ⟨rfl, rfl, rfl, rfl, rfl, rfl, rfl, rfl, rfl, rfl, rfl, rfl, trivial⟩
      ·refine e_exit ?_
       refine x_exit (x_exit (x_be ?_))
       refine x_then (e_imp (s_pub 70 rfl rfl pI) ?_)
       refine e_imp (s_mkdeep 70 71 72 rfl rfl rfl rfl) ?_
       refine e_reg (mv rfl rfl (mv rfl rfl (tt (t_call (n := 8) (rp_trim _ _ (by rw [hms]; exact shm_sz fun t => by have := hcb t; omega)) rfl rfl rfl ⟨rfl, trivial⟩ Tryz.call83 (pre_same 72 rfl rfl rfl pre_nil) rfl hw) rfl (fun g_12 hg => ?_))))
       refine tt (t_call (n := 9) (rp_sub _ _ _ _ (by rw [hws]; exact Sz.tzl fun t => by have := hb1 t; omega) (by omega) (by rw [hg, hms]; exact Sz.tzl (shm_sz fun t => by have := hcb t; omega)) (by have h7 := congrArg List.length hg; have h8 := tzl_le (ints ms); have h9 := length_ints ms; have h10 := length_ints g_12.2; omega)) rfl rfl rfl ⟨rfl, rfl, trivial⟩ Tryz.call124 (pre_same 80 rfl rfl rfl (pre_same 8 rfl rfl rfl pre_nil)) rfl hw) rfl (fun g_13 hg_2 => ?_)
       refine as_ rfl rfl (l_nil (x_bn ?_))
       refine x_then (e_reg (mv rfl rfl (dt (d_sub rfl rfl rfl ⟨by omega, by omega⟩) rfl ?_)))
       refine as_ rfl rfl (l_nil ?_)
       obtain rfl : i = (ints ys).length := by omega
       refine x_imp (s_dup 9 80 rfl rfl rfl) ?_
       exact x_rnd (j + 1, os.set ((ints zs).length - (ints ys).length - j) (((cf (dsteps (ints zs) (ints ys) j) (((ints zs).length - (ints ys).length - j) + (ints ys).length - 1)) / (cf (ints ys) ((ints ys).length - 1))), sl), _, _) ⟨by dsimp only; omega, fun k h1 h2 => by dsimp only at h1 h2; rcases Nat.lt_or_ge ((ints zs).length - (ints ys).length) (k + j) with h3 | h3; (exact hx k h3 h2); (rw [show k = ((ints zs).length - (ints ys).length - j) by omega]; exact hde), by dsimp only; rw [ints_set, hos]; exact dout_next (by omega), by dsimp only; rw [hg_2, hg, hws, hms]; exact div_next (by omega) hj2⟩ (by first | omega | (dsimp only <;> omega)) ⟨rfl, by dsimp only; rw [show (zs.length : Int) - (ys.length : Int) - ((j + 1 : Nat) : Int) = (zs.length : Int) - (ys.length : Int) - (j : Int) - 1 by omega]; rfl, rfl, rfl, trivial⟩ ⟨rfl, rfl, rfl, rfl, rfl, rfl, trivial⟩
   ·refine e_exit ?_
    refine x_exit (x_exit (x_be ?_))
    refine x_then (e_seq ?_)
    have hall : ∀ k, k ≤ (ints zs).length - (ints ys).length → dexact (ints zs) (ints ys) k := fun k hk => hx k (by omega) hk
    refine e_imp (s_pub 60 rfl rfl pI) ?_
    refine e_imp (s_mkdeep 60 61 72 rfl rfl rfl rfl) ?_
    refine e_reg (mv rfl rfl (tt (t_call (n := 10) (rp_trim _ _ (by rw [hos]; exact (dout_sz hF3 hall _).mono (by omega))) rfl rfl rfl ⟨rfl, trivial⟩ Tryz.call83 (pre_same 72 rfl rfl rfl pre_nil) rfl hw) rfl (fun g_14 hg_3 => ?_)))
    refine mv rfl rfl (dt (d_len rfl rfl (i := 80) rfl rd_deep Tryz.underlying33) rfl ?_)
    refine dt (d_eql rfl rfl rfl) rfl ?_
    refine as_ rfl rfl (as_ rfl rfl (l_nil (x_then (e_ret ?_))))
    exact x_end (.inl rfl) hsc _ _ (fun a w hs => res2 hs Tryz.results75 rfl rfl) (by rw [← pdv_end hnz (by omega) hall (show ws.length = _ by rw [← hlw, hws, show j = (ints zs).length - (ints ys).length + 1 by omega]), show decide ((ws.length : Int) = 0) = decide (ws.length = 0) from decide_eq_decide.2 (by omega)] <;> rfl) (fun _ => by rw [hg_3, hos, show j = (ints zs).length - (ints ys).length + 1 by omega, dout_all, pquoz_eq hnz]) rfl (give_same 10 rfl rfl rfl give_nil)
set_option maxHeartbeats 4000000 in
theorem rp_gcd (v u : Value) (zs ys : List (Int × SL)) (F : Nat) (hv : Vp (ints zs)) (hu : Vp (ints ys)) (hok : eok F (ints zs) (ints ys)) : Cal Tryz.prog 76 #[v, u] [pp v zs, pp u ys] true (G := Value × List (Int × SL)) (fun r => ints r.2 = gnorm (pprim (eu F (ints zs) (ints ys)))) (fun r => r.1) (fun r => [pp r.1 r.2]) := by
 refine cal_in Tryz.func76 rfl Tryz.ntmps76 rfl ⟨rfl, rfl, trivial⟩ ?_
 intro w0 sc hw hsc
 simp only [enumEnv, enumPre]
 refine e_seq (e_reg (as_ rfl rfl (l_nil (x_then (e_seq (e_reg (mv rfl rfl (mv rfl rfl (as_ rfl rfl (as_ rfl rfl (l_nil (x_then (e_seq (e_block (e_imp (s_dup 1 80 rfl rfl rfl) ?_)))))))))))))))
 refine e_imp (s_dup 2 81 rfl rfl rfl) ?_
 refine e_lp [] [(0, _), (1, _), (2, _)] (fun (q : Value × Value × List (Int × SL) × List (Int × SL) × Nat) => [(5, q.1), (6, q.2.1)]) (fun (q : Value × Value × List (Int × SL) × List (Int × SL) × Nat) => [(80, pp q.1 q.2.2.1), (81, pp q.2.1 q.2.2.2.1)]) (fun (q : Value × Value × List (Int × SL) × List (Int × SL) × Nat) => (Vp (ints q.2.2.1)) ∧ (Vp (ints q.2.2.2.1)) ∧ (eok q.2.2.2.2 (ints q.2.2.1) (ints q.2.2.2.1)) ∧ (eu q.2.2.2.2 (ints q.2.2.1) (ints q.2.2.2.1) = eu F (ints zs) (ints ys))) (fun (q : Value × Value × List (Int × SL) × List (Int × SL) × Nat) => q.2.2.2.2) (_, _, zs, ys, F) ⟨hv, hu, hok, rfl⟩ ⟨rfl, rfl, trivial⟩ ⟨rfl, rfl, rfl, rfl, rfl, trivial⟩ ?_
 rintro ⟨va, vb, aa, bb, f⟩ ⟨hva, hvb, hok0, heu⟩
 dsimp only at hva hvb hok0 heu
 simp only [List.cons_append, List.nil_append]
 have hla := length_ints aa
 have hlb := length_ints bb
 have hna := hva.len
 have hnb := hvb.len
 refine e_seq (e_seq (e_reg (mv rfl rfl (dt (d_len rfl rfl (i := 81) rfl rd_deep Tryz.underlying33) rfl ?_))))
 refine dt (d_gtr rfl rfl rfl) rfl ?_
 refine l_nil (x_then (e_cond rfl (fun h250 => ?_) (fun h250 => ?_)))
 ·have hbn : ints bb ≠ [] := fun e => by have h7 := congrArg List.length e; simp only [List.length_nil] at h7; omega
  obtain ⟨f1, rfl, hde, hok1, heu1⟩ := eok_step hok0 hbn
  have hdo := (derr_ok hde).2
  have hvp := vp_prest hva hde
  refine e_skip ?_
  refine x_then (e_block (e_reg (mv rfl rfl (mv rfl rfl (mv rfl rfl (tt (t_call (n := 3) (rp_rest _ _ _ _ (by omega) (by omega) (by omega) hvb.tr (fun h => by have h7 := hdo (by omega); rw [hla, hlb] at h7; omega)) rfl rfl rfl ⟨rfl, rfl, trivial⟩ Tryz.call125 (pre_same 80 rfl rfl rfl (pre_same 81 rfl rfl rfl pre_nil)) rfl hw) rfl (fun g hg => ?_)))))))
  refine tt (t_call (n := 4) (rp_primitive _ _ (by rw [hg]; exact hvp.sz.mono (by omega)) (by have h7 := congrArg List.length hg; have h8 := hvp.len; have h9 := length_ints g.2; omega) (fun h => by rw [hg]; exact hvp.ne (fun e => by have h7 := congrArg List.length hg; rw [e, length_ints] at h7; exact h h7))) rfl rfl rfl ⟨rfl, trivial⟩ Tryz.call70 (pre_same 3 rfl rfl rfl pre_nil) rfl hw) rfl (fun g_2 hg_2 => ?_)
  refine as_ rfl rfl (as_ rfl rfl (l_nil (x_bn ?_)))
  refine x_imp (s_dup 81 80 rfl rfl rfl) ?_
  refine x_imp (s_dup 4 81 rfl rfl rfl) ?_
  exact x_rnd (_, _, bb, g_2.2, f1) ⟨hvb, by dsimp only; rw [hg_2, hg]; exact vp_pprim hvp, by dsimp only; rw [hg_2, hg]; exact hok1, by dsimp only; rw [hg_2, hg, ← heu1]; exact heu⟩ (Nat.lt_succ_self f1) ⟨rfl, rfl, trivial⟩ ⟨rfl, rfl, rfl, rfl, rfl, trivial⟩
 ·have hbn : ints bb = [] := List.eq_nil_of_length_eq_zero (by omega)
  rw [hbn, eu_nil] at heu
  have hpb := sz_pprim hva.sz
  have hpl := length_pprim (ints aa)
  refine e_exit ?_
  refine x_exit (x_exit (x_be ?_))
  refine x_then (e_seq (e_reg (mv rfl rfl (tt (t_call (n := 5) (rp_primitive _ _ (hva.sz.mono (by omega)) (by omega) (fun h => hva.ne (fun e => by have h7 := congrArg List.length e; simp only [List.length_nil] at h7; omega))) rfl rfl rfl ⟨rfl, trivial⟩ Tryz.call70 (pre_same 80 rfl rfl rfl pre_nil) rfl hw) rfl (fun g_3 hg_3 => ?_)))))
  refine as_ rfl rfl (l_nil (x_then (e_seq (e_seq ?_))))
  have hpz : g_3.2.length = aa.length := by rw [← length_ints g_3.2, hg_3, hpl]; exact hla
  refine e_reg (mv rfl rfl (dt (d_len rfl rfl (i := 5) rfl rd_deep Tryz.underlying33) rfl ?_))
  refine dt (d_gtr rfl rfl rfl) rfl ?_
  refine mv rfl rfl (l_split (d := 22) rfl (fun s254 => ?_) (fun s254 => ?_))
  ·refine gdt (d_mv rfl rfl) rfl rfl rfl rfl ?_
   refine gdt (d_mv rfl rfl) rfl rfl rfl rfl ?_
   refine gdt (d_len rfl rfl (i := 5) rfl rd_deep Tryz.underlying33) rfl rfl rfl rfl ?_
   refine gdt (d_sub rfl rfl rfl ⟨by omega, by omega⟩) rfl rfl rfl rfl ?_
   refine gdt (d_ixa (ii := 5) (i := (g_3.2.length - 1)) rfl rfl rfl rfl rd_deep Tryz.underlying33 Tryz.sizeOf39 (by omega) (by omega)) rfl rfl rfl rfl ?_
   refine gdt (d_lde (ii := 5) I0 rfl rfl rfl rd_deep pI (by omega)) rfl rfl rfl rfl ?_
   refine gtt (t_call (n := 5) (r_sign _ _ (by rw [cf_ints, hg_3]; have := hpb (g_3.2.length - 1); omega)) rfl rfl rfl ⟨rfl, trivial⟩ Tryz.call61 (pre_dI 5 rfl rfl (getD_mem (zs := g_3.2) (i := g_3.2.length - 1) (d := I0) (by omega)) pre_nil) rfl hw) rfl rfl rfl rfl (fun _ _ => ?_)
   refine gdt (d_lss rfl rfl rfl) rfl rfl rfl rfl ?_
   refine dt (d_pickt rfl rfl rfl) rfl ?_
   refine l_nil (x_then (e_cond rfl (fun h254 => ?_) (fun h254 => ?_)))
   ·have hlc := cf_ints g_3.2 (g_3.2.length - 1)
    have hneg : (gnorm (pprim (ints aa))) = pscale (pprim (ints aa)) (-1) := by unfold gnorm; rw [if_pos ⟨by omega, by rw [← hg_3, length_ints, ← hlc]; exact (sign_neg_iff _).1 h254⟩]
    refine e_seq (e_reg (mv rfl rfl (tt (t_call (n := 6) (rp_neg _ _ (by rw [hg_3]; exact hpb.mono (by omega)) (by omega)) rfl rfl rfl ⟨rfl, trivial⟩ Tryz.call72 (pre_same 5 rfl rfl rfl pre_nil) rfl hw) rfl (fun g_4 hg_4 => ?_))))
    refine as_ rfl rfl (l_nil (x_then (e_ret (x_ret ?_))))
    exact x_end (.inl rfl) hsc _ _ (fun a w hs => res1 hs Tryz.results76 rfl) rfl (by rw [hg_4, hg_3, ← heu, hneg]) rfl (give_same 6 rfl rfl rfl give_nil)
   ·refine e_skip ?_
    refine x_then (e_seq (e_reg (mv rfl rfl (as_ rfl rfl (l_nil (x_then (e_ret ?_)))))))
    have hneg : (gnorm (pprim (ints aa))) = pprim (ints aa) := by unfold gnorm; rw [if_neg (fun h => by rw [← hg_3, length_ints, ← cf_ints] at h; first | omega | exact absurd ((sign_neg_iff _).2 h.2) (by assumption))]
    exact x_end (.inl rfl) hsc (_, g_3.2) _ (fun a w hs => res1 hs Tryz.results76 rfl) rfl (by rw [hg_3, ← heu, hneg]) rfl (give_same 5 rfl rfl rfl give_nil)
  ·refine gsk rfl rfl rfl rfl rfl (gsk rfl rfl rfl rfl rfl (gsk rfl rfl rfl rfl rfl (gsk rfl rfl rfl rfl rfl (gsk rfl rfl rfl rfl rfl (gsk rfl rfl rfl rfl rfl (gsk rfl rfl rfl rfl rfl (gsk rfl rfl rfl rfl rfl (dt (d_pickf rfl rfl rfl) rfl ?_))))))))
   refine l_nil (x_then (e_condf rfl ?_))
   refine e_skip ?_
   refine x_then (e_seq (e_reg (mv rfl rfl (as_ rfl rfl (l_nil (x_then (e_ret ?_)))))))
   have hneg : (gnorm (pprim (ints aa))) = pprim (ints aa) := by unfold gnorm; rw [if_neg (fun h => by rw [← hg_3, length_ints, ← cf_ints] at h; first | omega | exact absurd ((sign_neg_iff _).2 h.2) (by assumption))]
   exact x_end (.inl rfl) hsc (_, g_3.2) _ (fun a w hs => res1 hs Tryz.results76 rfl) rfl (by rw [hg_3, ← heu, hneg]) rfl (give_same 5 rfl rfl rfl give_nil)
end Go.Sky

