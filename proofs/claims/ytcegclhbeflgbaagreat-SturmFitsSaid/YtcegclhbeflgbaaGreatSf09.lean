/- rules, arithmetic and contracts: part 10
   Proved without conditions of its own: each theorem bears its own. -/
import Derived.Test.YtcegclhbeflgbaaGreatSf02
import Derived.Test.YtcegclhbeflgbaaGreatSf01
import Derived.Test.YtcegclhbeflgbaaGreatSf03
import Derived.Test.YtcegclhbeflgbaaGreatSf08
set_option linter.all false
namespace Go.Sky
open Go.Proofs
set_option maxRecDepth 20000
set_option maxHeartbeats 4000000
set_option linter.unusedVariables false
set_option linter.unusedSimpArgs false
theorem rp_from (v : Value) (xs : List Int) (hs : Sz 1000000 xs) (hl : xs.length ≤ 1000) : Cal Tryz.prog 15 #[v] [slp 2 wv v xs] true (G := Value × List (Int × SL)) (fun r => ints r.2 = xs) (fun r => r.1) (fun r => [pp r.1 r.2]) := by
 refine cal_in Tryz.func15 rfl Tryz.ntmps15 rfl ⟨rfl, trivial⟩ ?_
 intro w0 sc hw hsc
 simp only [enumEnv, enumPre]
 refine e_seq (e_reg (as_ rfl rfl (l_nil (x_then (e_seq (e_reg (as_ rfl rfl (l_nil (x_then (e_seq (e_seq (e_reg (as_ rfl rfl (l_nil (x_then (e_block (e_imp (s_nil 70 2 39 encI) ?_)))))))))))))))))
 refine e_imp (s_many_nil qI 71) ?_
 refine e_lp [(0, _)] [(0, _), (1, _)] (fun (q : Nat × Value × List (Int × SL)) => [(4, .int .i64 (q.1 : Int)), (3, q.2.1)]) (fun (q : Nat × Value × List (Int × SL)) => [(70, osl 2 39 encI q.2.1 q.2.2), (71, many qI q.2.2)]) (fun (q : Nat × Value × List (Int × SL)) => (q.1 ≤ xs.length) ∧ (ints q.2.2 = xs.take q.1) ∧ (q.2.2.length = q.1)) (fun (q : Nat × Value × List (Int × SL)) => xs.length - q.1) (0, .slice none 0 0, []) ⟨by first | omega | (dsimp only <;> omega), rfl, rfl⟩ ⟨rfl, rfl, rfl, trivial⟩ ⟨rfl, rfl, rfl, rfl, trivial⟩ ?_
 rintro ⟨i, vo, zs⟩ ⟨hi, hz, hzl⟩
 dsimp only at hi hz hzl
 simp only [List.cons_append, List.nil_append]
 refine e_seq (e_seq (e_reg (mv rfl rfl (mv rfl rfl (dt (d_len rfl rfl (i := 1) rfl rd_slp Tryz.underlying23) rfl ?_)))))
 refine dt (d_lss rfl rfl rfl) rfl ?_
 refine l_nil (x_then (e_cond rfl (fun h41 => ?_) (fun h41 => ?_)))
 ·refine e_skip ?_
  refine x_then (e_seq (e_block (e_reg (mv rfl rfl (mv rfl rfl (mv rfl rfl (dt (d_ixa (ii := 1) rfl rfl rfl rfl rd_slp Tryz.underlying23 Tryz.sizeOf28 rfl (by first | omega | (simp only [List.length_set]; omega))) rfl ?_)))))))
  refine dt (d_lde (ii := 1) 0 rfl rfl rfl rd_slp pV (by first | omega | (simp only [List.length_set]; omega))) rfl ?_
  refine tt (t_call (n := 2) (r_from _ (by have := hs.getD i; omega)) rfl rfl rfl ⟨rfl, trivial⟩ Tryz.call49 pre_nil rfl hw) rfl (fun v _ => ?_)
  refine l_ex (f_slice 2 rfl rd_slp) (fun sl hsl => ?_)
  subst hsl
  refine tt (t_bsg (i := 3) (ivs := [(0, _)]) (enc := encI) [(xs.getD i 0, sl)] rfl rfl rfl ⟨rfl, rfl, trivial⟩ Tryz.underlying33 Tryz.ti39 rfl rfl rfl rfl rfl rfl pI.cells rfl rfl hw) rfl (fun v_2 _ => ?_)
  refine tt (t_appa (i := 70) (j := 3) (by_ := 32) rfl rfl rfl rfl rfl rfl (by decide) rfl (rd_osl pI) Tryz.underlying33 Tryz.ti39 rfl pI rfl rfl rfl (by simp; omega) (by decide) rfl hw) rfl (fun v_3 _ => ?_)
  refine as_ rfl rfl (l_nil (x_bn ?_))
  refine x_then (e_reg (mv rfl rfl (dt (d_add rfl rfl rfl ⟨by omega, by omega⟩) rfl ?_)))
  refine as_ rfl rfl (l_nil (x_imp (s_many_snoc (q := qI) (z := (xs.getD i 0, sl)) 71 2 71 rfl rfl rfl rfl rfl) ?_))
  exact x_rnd (i + 1, _, zs ++ [(xs.getD i 0, sl)]) ⟨by first | omega | (dsimp only <;> omega), by rw [take_snoc 0 _ _ (by omega), ← hz]; simp [ints], by simp [hzl]⟩ (by first | omega | (dsimp only <;> omega)) ⟨rfl, rfl, rfl, trivial⟩ ⟨rfl, rfl, rfl, rfl, trivial⟩
 ·refine e_exit ?_
  refine x_exit (x_exit (x_be ?_))
  refine x_then (e_seq (e_imp (s_pub 70 rfl rfl pI) ?_))
  refine e_imp (s_mkdeep 70 71 72 rfl rfl rfl rfl) ?_
  refine e_reg (mv rfl rfl (as_ rfl rfl (l_nil (x_then (e_ret ?_)))))
  exact x_end (.inl rfl) hsc (_, zs) _ (fun a w hs => res1 hs Tryz.results15 rfl) rfl (by rw [hz, List.take_of_length_le (by omega)]) rfl (give_same 72 rfl rfl rfl give_nil)
theorem rp_to (v : Value) (zs : List (Int × SL)) (hs : Sz 1000000 (ints zs)) (hl : zs.length ≤ 1000) : Cal Tryz.prog 25 #[v] [pp v zs] false (G := Value) (fun r => True) (fun r => r) (fun r => [slp 2 wv r (ints zs)]) := by
 refine cal_in Tryz.func25 rfl Tryz.ntmps25 rfl ⟨rfl, trivial⟩ ?_
 intro w0 sc hw hsc
 simp only [enumEnv, enumPre]
 have hli := length_ints zs
 refine e_seq (e_reg (as_ rfl rfl (l_nil (x_then (e_seq (e_reg (as_ rfl rfl (l_nil (x_then (e_seq (e_seq (e_reg (as_ rfl rfl (l_nil (x_then (e_block (e_imp (s_nil 70 2 28 wv) ?_)))))))))))))))))
 refine e_lp [(0, _)] [(0, _), (1, _)] (fun (q : Nat × Value) => [(4, .int .i64 (q.1 : Int)), (3, q.2)]) (fun (q : Nat × Value) => [(70, osl 2 28 wv q.2 ((ints zs).take q.1))]) (fun (q : Nat × Value) => (q.1 ≤ zs.length)) (fun (q : Nat × Value) => zs.length - q.1) (0, .slice none 0 0) (by first | omega | (dsimp only <;> omega)) ⟨rfl, rfl, rfl, trivial⟩ ⟨rfl, rfl, rfl, trivial⟩ ?_
 rintro ⟨i, vo⟩ hi
 dsimp only at hi
 simp only [List.cons_append, List.nil_append]
 have htl : ((ints zs).take i).length = i := by rw [List.length_take]; omega
 have hci := cf_ints zs i
 refine e_seq (e_seq (e_reg (mv rfl rfl (mv rfl rfl (dt (d_len rfl rfl (i := 1) rfl rd_deep Tryz.underlying33) rfl ?_)))))
 refine dt (d_lss rfl rfl rfl) rfl ?_
 refine l_nil (x_then (e_cond rfl (fun h50 => ?_) (fun h50 => ?_)))
 ·refine e_skip ?_
  refine x_then (e_seq (e_block (e_reg (mv rfl rfl (mv rfl rfl (mv rfl rfl (dt (d_ixa (ii := 1) rfl rfl rfl rfl rd_deep Tryz.underlying33 Tryz.sizeOf39 rfl (by first | omega | (simp only [List.length_set]; omega))) rfl ?_)))))))
  refine dt (d_lde (ii := 1) I0 rfl rfl rfl rd_deep pI (by first | omega | (simp only [List.length_set]; omega))) rfl ?_
  refine tt (t_call (n := 1) (r_to _ _ (by rw [hci]; have := hs i; omega)) rfl rfl rfl ⟨rfl, trivial⟩ Tryz.call17 (pre_dI 1 rfl rfl (getD_mem (by omega)) pre_nil) rfl hw) rfl (fun _ _ => ?_)
  refine tt (t_bsg (i := 2) (ivs := [(0, _)]) (enc := wv) [(zs.getD i I0).1] rfl rfl rfl ⟨rfl, rfl, trivial⟩ Tryz.underlying23 Tryz.ti28 rfl rfl rfl rfl rfl rfl pV.cells rfl rfl hw) rfl (fun v _ => ?_)
  refine tt (t_appa (i := 70) (j := 2) (by_ := 24) rfl rfl rfl rfl rfl rfl (by decide) rfl (rd_osl pV) Tryz.underlying23 Tryz.ti28 rfl pV rfl rfl rfl (by simp; omega) (by decide) rfl hw) rfl (fun v_2 _ => ?_)
  refine as_ rfl rfl (l_nil (x_bn ?_))
  refine x_then (e_reg (mv rfl rfl (dt (d_add rfl rfl rfl ⟨by omega, by omega⟩) rfl ?_)))
  refine as_ rfl rfl (l_nil ?_)
  exact x_rnd (i + 1, _) (by first | omega | (dsimp only <;> omega)) (by first | omega | (dsimp only <;> omega)) ⟨rfl, rfl, rfl, trivial⟩ ⟨by rw [take_snoc 0 _ _ (by omega), show (ints zs).getD i 0 = (zs.getD i I0).1 from hci.symm]; rfl, rfl, rfl, trivial⟩
 ·refine e_exit ?_
  refine x_exit (x_exit (x_be ?_))
  refine x_then (e_seq (e_reg (mv rfl rfl (as_ rfl rfl (l_nil (x_then (e_ret ?_)))))))
  exact x_end (.inl rfl) hsc _ _ (fun a w hs => res1 hs Tryz.results25 rfl) rfl trivial rfl (give_owne 70 rfl rfl pV (List.take_of_length_le (by omega)) give_nil)
theorem rp_trim (v : Value) (zs : List (Int × SL)) (hs : Sz 3000000000 (ints zs)) : Cal Tryz.prog 83 #[v] [pp v zs] true (G := Value × List (Int × SL)) (fun r => ints r.2 = tzl (ints zs)) (fun r => r.1) (fun r => [pp r.1 r.2]) := by
 refine cal_in Tryz.func83 rfl Tryz.ntmps83 rfl ⟨rfl, trivial⟩ ?_
 intro w0 sc hw hsc
 simp only [enumEnv, enumPre]
 refine e_fact (f_self_deep (i := 1) rfl) (fun hself => ?_)
 refine e_fact (f_len (i := 1) rfl rd_deep) (fun hlen => ?_)
 have hli := length_ints zs
 refine e_seq (e_reg (as_ rfl rfl (l_nil (x_then (e_seq (e_block (e_lp [] [(0, _)] (fun (k : Nat) => [(0, preV v k)]) (fun (k : Nat) => [(1, pp (preV v k) (zs.take k))]) (fun (k : Nat) => (k ≤ zs.length) ∧ (tzl ((ints zs).take k) = tzl (ints zs))) (fun (k : Nat) => k) zs.length ⟨Nat.le_refl _, by rw [List.take_of_length_le (by omega)]⟩ ⟨by rw [hself]; rfl, trivial⟩ ⟨by rw [hself, List.take_length]; rfl, rfl, trivial⟩ ?_)))))))
 rintro k ⟨hk, ht⟩
 simp only [List.cons_append, List.nil_append]
 have hl : (zs.take k).length = k := by rw [List.length_take]; omega
 have hce : ((zs.take k).getD (k - 1) I0).1 = ((ints zs).take k).getD (k - 1) 0 := by rw [cf_ints, take_ints]; rfl
 refine e_seq (e_seq (e_reg (mv rfl rfl (dt (d_len rfl rfl (i := 1) rfl rd_deep Tryz.underlying33) rfl ?_))))
 refine dt (d_gtr rfl rfl rfl) rfl ?_
 refine mv rfl rfl (l_split (d := 6) rfl (fun s22 => ?_) (fun s22 => ?_))
 ·refine gdt (d_mv rfl rfl) rfl rfl rfl rfl ?_
  refine gdt (d_mv rfl rfl) rfl rfl rfl rfl ?_
  refine gdt (d_len rfl rfl (i := 1) rfl rd_deep Tryz.underlying33) rfl rfl rfl rfl ?_
  refine gdt (d_sub rfl rfl rfl ⟨by omega, by omega⟩) rfl rfl rfl rfl ?_
  refine gdt (d_ixa (ii := 1) (i := k - 1) rfl rfl rfl rfl rd_deep Tryz.underlying33 Tryz.sizeOf39 (by omega) (by omega)) rfl rfl rfl rfl ?_
  refine gdt (d_lde (ii := 1) I0 rfl rfl rfl rd_deep pI (by omega)) rfl rfl rfl rfl ?_
  refine gtt (t_call (n := 1) (r_sign _ _ (by rw [hce]; exact (hs.take _).getD _)) rfl rfl rfl ⟨rfl, trivial⟩ Tryz.call61 (pre_dI 1 rfl rfl (getD_mem (by omega)) pre_nil) rfl hw) rfl rfl rfl rfl (fun _ _ => ?_)
  refine gdt (d_eql rfl rfl rfl) rfl rfl rfl rfl ?_
  refine dt (d_pickt rfl rfl rfl) rfl ?_
  refine l_nil (x_then (e_cond rfl (fun h22 => ?_) (fun h22 => ?_)))
  ·rw [hce] at h22
   have hstep := tzl_step (xs := ints zs) (k := k) (by omega) (by omega) (takeD_zero (k := k) (by omega) (Int.sign_eq_zero_iff_zero.1 h22))
   refine e_skip ?_
   refine x_then (e_block (e_reg (mv rfl rfl (mv rfl rfl (dt (d_len rfl rfl (i := 1) rfl rd_deep Tryz.underlying33) rfl ?_)))))
   refine dt (d_sub rfl rfl rfl ⟨by omega, by omega⟩) rfl ?_
   refine dt (d_pre (ii := 1) (i := k - 1) rfl rfl rfl rfl rd_deep Tryz.underlying33 Tryz.sizeOf39 (by omega) (by omega)) rfl ?_
   refine as_ rfl rfl (l_nil (x_bn ?_))
   refine x_imp (s_predeep 1 1 (k - 1) rfl rfl (by omega)) ?_
   exact x_rnd (k - 1) ⟨by first | omega | (dsimp only <;> omega), by rw [← ht, ← hstep]⟩ (by first | omega | (dsimp only <;> omega)) ⟨by rw [← preV_preV v k (k - 1)]; rfl, trivial⟩ ⟨by rw [preV_preV, List.take_take, Nat.min_eq_left (by omega)]; rfl, rfl, trivial⟩
  ·try rw [hce] at h22
   refine e_exit ?_
   refine x_exit (x_exit (x_be ?_))
   refine x_then (e_seq (e_reg (mv rfl rfl (as_ rfl rfl (l_nil (x_then (e_ret ?_)))))))
   exact x_end (.inl rfl) hsc (_, zs.take k) _ (fun a w hs => res1 hs Tryz.results83 rfl) rfl (by rw [take_ints, ← ht]; exact (tzl_stop (by omega) (by first | (left; omega) | (right; exact takeD_ne (k := k) (by omega) (by assumption)))).symm) rfl (give_same 1 rfl rfl rfl give_nil)
 ·refine gsk rfl rfl rfl rfl rfl (gsk rfl rfl rfl rfl rfl (gsk rfl rfl rfl rfl rfl (gsk rfl rfl rfl rfl rfl (gsk rfl rfl rfl rfl rfl (gsk rfl rfl rfl rfl rfl (gsk rfl rfl rfl rfl rfl (gsk rfl rfl rfl rfl rfl (dt (d_pickf rfl rfl rfl) rfl ?_))))))))
  refine l_nil (x_then (e_condf rfl ?_))
  refine e_exit ?_
  refine x_exit (x_exit (x_be ?_))
  refine x_then (e_seq (e_reg (mv rfl rfl (as_ rfl rfl (l_nil (x_then (e_ret ?_)))))))
  exact x_end (.inl rfl) hsc (_, zs.take k) _ (fun a w hs => res1 hs Tryz.results83 rfl) rfl (by rw [take_ints, ← ht]; exact (tzl_stop (by omega) (by first | (left; omega) | (right; exact takeD_ne (k := k) (by omega) (by assumption)))).symm) rfl (give_same 1 rfl rfl rfl give_nil)
theorem rp_nums (v : Value) (l : List Int) (hl : ∀ x ∈ l, inI x) (hlen : l.length ≤ 1000) : Cal Tryz.prog 33 #[v] [slp 1 encZ v l] true (G := Value × List (Int × SL)) (fun r => ints r.2 = tzl l) (fun r => r.1) (fun r => [pp r.1 r.2]) := by
 refine cal_in Tryz.func33 rfl Tryz.ntmps33 rfl ⟨rfl, trivial⟩ ?_
 intro w0 sc hw hsc
 simp only [enumEnv, enumPre]
 have hsz := sz_ints hl
 refine e_seq (e_reg (as_ rfl rfl (l_nil (x_then (e_seq (e_reg (as_ rfl rfl (l_nil (x_then (e_seq (e_seq (e_reg (as_ rfl rfl (l_nil (x_then (e_block (e_imp (s_nil 70 2 39 encI) ?_)))))))))))))))))
 refine e_imp (s_many_nil qI 71) ?_
 refine e_lp [(0, _)] [(0, _), (1, _)] (fun (q : Nat × Value × List (Int × SL)) => [(4, .int .i64 (q.1 : Int)), (3, q.2.1)]) (fun (q : Nat × Value × List (Int × SL)) => [(70, osl 2 39 encI q.2.1 q.2.2), (71, many qI q.2.2)]) (fun (q : Nat × Value × List (Int × SL)) => (q.1 ≤ l.length) ∧ (ints q.2.2 = mk q.1 (cf l)) ∧ (q.2.2.length = q.1)) (fun (q : Nat × Value × List (Int × SL)) => l.length - q.1) (0, .slice none 0 0, []) ⟨by first | omega | (dsimp only <;> omega), rfl, rfl⟩ ⟨rfl, rfl, rfl, trivial⟩ ⟨rfl, rfl, rfl, rfl, trivial⟩ ?_
 rintro ⟨i, vo, ws⟩ ⟨hi, hz, hzl⟩
 dsimp only at hi hz hzl
 simp only [List.cons_append, List.nil_append]
 refine e_seq (e_seq (e_reg (mv rfl rfl (mv rfl rfl (dt (d_len rfl rfl (i := 1) rfl rd_slp Tryz.underlying37) rfl ?_)))))
 refine dt (d_lss rfl rfl rfl) rfl ?_
 refine l_nil (x_then (e_cond rfl (fun h59 => ?_) (fun h59 => ?_)))
 ·refine e_skip ?_
  refine x_then (e_seq (e_block (e_reg (mv rfl rfl (mv rfl rfl (mv rfl rfl (dt (d_ixa (ii := 1) rfl rfl rfl rfl rd_slp Tryz.underlying37 Tryz.sizeOf3 rfl (by first | omega | (simp only [List.length_set]; omega))) rfl ?_)))))))
  refine dt (d_lde (ii := 1) 0 rfl rfl rfl rd_slp pZ (by first | omega | (simp only [List.length_set]; omega))) rfl ?_
  refine tt (t_call (n := 2) (r_num _ (hl _ (getD_mem (by omega)))) rfl rfl rfl ⟨rfl, trivial⟩ Tryz.call43 pre_nil rfl hw) rfl (fun v _ => ?_)
  refine l_ex (f_slice 2 rfl rd_slp) (fun sl hsl => ?_)
  subst hsl
  refine tt (t_bsg (i := 3) (ivs := [(0, _)]) (enc := encI) [(l.getD i 0, sl)] rfl rfl rfl ⟨rfl, rfl, trivial⟩ Tryz.underlying33 Tryz.ti39 rfl rfl rfl rfl rfl rfl pI.cells rfl rfl hw) rfl (fun v_2 _ => ?_)
  refine tt (t_appa (i := 70) (j := 3) (by_ := 32) rfl rfl rfl rfl rfl rfl (by decide) rfl (rd_osl pI) Tryz.underlying33 Tryz.ti39 rfl pI rfl rfl rfl (by simp; omega) (by decide) rfl hw) rfl (fun v_3 _ => ?_)
  refine as_ rfl rfl (l_nil (x_bn ?_))
  refine x_then (e_reg (mv rfl rfl (dt (d_add rfl rfl rfl ⟨by omega, by omega⟩) rfl ?_)))
  refine as_ rfl rfl (l_nil (x_imp (s_many_snoc (q := qI) (z := (l.getD i 0, sl)) 71 2 71 rfl rfl rfl rfl rfl) ?_))
  exact x_rnd (i + 1, _, ws ++ [(l.getD i 0, sl)]) ⟨by first | omega | (dsimp only <;> omega), by rw [ints_snoc, mk_succ, hz]; dsimp only; rfl, by simp [hzl]⟩ (by first | omega | (dsimp only <;> omega)) ⟨rfl, rfl, rfl, trivial⟩ ⟨rfl, rfl, rfl, rfl, trivial⟩
 ·refine e_exit ?_
  refine x_exit (x_exit (x_be ?_))
  refine x_then (e_seq (e_imp (s_pub 70 rfl rfl pI) ?_))
  refine e_imp (s_mkdeep 70 71 72 rfl rfl rfl rfl) ?_
  refine e_reg (mv rfl rfl (tt (t_call (n := 4) (rp_trim _ _ (by rw [hz]; exact mk_sz fun t ht => by have := hsz t; omega)) rfl rfl rfl ⟨rfl, trivial⟩ Tryz.call83 (pre_same 72 rfl rfl rfl pre_nil) rfl hw) rfl (fun g hg => ?_)))
  refine as_ rfl rfl (l_nil (x_then (e_ret ?_)))
  exact x_end (.inl rfl) hsc _ _ (fun a w hs => res1 hs Tryz.results33 rfl) rfl (by rw [hg, hz, show i = l.length by omega, mk_self]) rfl (give_same 4 rfl rfl rfl give_nil)
theorem rp_bits (v : Value) (zs : List (Int × SL)) (hs : Sz 3000000000 (ints zs)) (hl : zs.length ≤ 1000) : Cal Tryz.prog 59 #[v] [pp v zs] false (G := Unit) (fun _ => True) (fun _ => .int .i64 (msz (ints zs) : Int)) (fun _ => []) := by
 refine cal_in Tryz.func59 rfl Tryz.ntmps59 rfl ⟨rfl, trivial⟩ ?_
 intro w0 sc hw hsc
 simp only [enumEnv, enumPre]
 have hli := length_ints zs
 refine e_seq (e_reg (as_ rfl rfl (l_nil (x_then (e_seq (e_reg (as_ rfl rfl (l_nil (x_then (e_seq (e_seq (e_reg (as_ rfl rfl (l_nil (x_then (e_block (e_lp [(0, _)] [(0, _), (1, _)] (fun (i : Nat) => [(4, .int .i64 (i : Int)), (3, .int .i64 (msz ((ints zs).take i) : Int))]) (fun (i : Nat) => []) (fun (i : Nat) => (i ≤ zs.length)) (fun (i : Nat) => zs.length - i) 0 (by first | omega | (dsimp only <;> omega)) ⟨rfl, rfl, rfl, trivial⟩ ⟨rfl, rfl, trivial⟩ ?_)))))))))))))))))
 rintro i hi
 simp only [List.cons_append, List.nil_append]
 have hci := cf_ints zs i
 have hbi : bl (zs.getD i I0).1.natAbs ≤ 3000000000 := by rw [hci]; exact hs i
 have hms := msz_ints (ints zs) i
 refine e_seq (e_seq (e_reg (mv rfl rfl (mv rfl rfl (dt (d_len rfl rfl (i := 1) rfl rd_deep Tryz.underlying33) rfl ?_)))))
 refine dt (d_lss rfl rfl rfl) rfl ?_
 refine l_nil (x_then (e_cond rfl (fun h68 => ?_) (fun h68 => ?_)))
 ·refine e_skip ?_
  refine x_then (e_seq (e_block (e_seq (e_reg (mv rfl rfl (mv rfl rfl (dt (d_ixa (ii := 1) rfl rfl rfl rfl rd_deep Tryz.underlying33 Tryz.sizeOf39 rfl (by first | omega | (simp only [List.length_set]; omega))) rfl ?_)))))))
  refine dt (d_lde (ii := 1) I0 rfl rfl rfl rd_deep pI (by first | omega | (simp only [List.length_set]; omega))) rfl ?_
  refine tt (t_call (n := 1) (r_bits _ _ (by omega)) rfl rfl rfl ⟨rfl, trivial⟩ Tryz.call111 (pre_dI 1 rfl rfl (getD_mem (by omega)) pre_nil) rfl hw) rfl (fun _ _ => ?_)
  refine mv rfl rfl (dt (d_gtr rfl rfl rfl) rfl ?_)
  refine l_nil (x_then (e_cond rfl (fun h69 => ?_) (fun h69 => ?_)))
  ·refine e_reg (mv rfl rfl (mv rfl rfl (dt (d_ixa (ii := 1) rfl rfl rfl rfl rd_deep Tryz.underlying33 Tryz.sizeOf39 rfl (by first | omega | (simp only [List.length_set]; omega))) rfl ?_)))
   refine dt (d_lde (ii := 1) I0 rfl rfl rfl rd_deep pI (by first | omega | (simp only [List.length_set]; omega))) rfl ?_
   refine tt (t_call (n := 1) (r_bits _ _ (by omega)) rfl rfl rfl ⟨rfl, trivial⟩ Tryz.call111 (pre_dI 1 rfl rfl (getD_mem (by omega)) pre_nil) rfl hw) rfl (fun _ _ => ?_)
   refine as_ rfl rfl (l_nil (x_bn ?_))
   refine x_then (e_reg (mv rfl rfl (dt (d_add rfl rfl rfl ⟨by omega, by omega⟩) rfl ?_)))
   refine as_ rfl rfl (l_nil ?_)
   exact x_rnd (i + 1) (by first | omega | (dsimp only <;> omega)) (by first | omega | (dsimp only <;> omega)) ⟨rfl, by rw [hms (by omega), ← hci]; exact congrArg some (i64_eq (by omega)), rfl, trivial⟩ ⟨rfl, rfl, trivial⟩
  ·refine e_skip ?_
   refine x_bn ?_
   refine x_then (e_reg (mv rfl rfl (dt (d_add rfl rfl rfl ⟨by omega, by omega⟩) rfl ?_)))
   refine as_ rfl rfl (l_nil ?_)
   exact x_rnd (i + 1) (by first | omega | (dsimp only <;> omega)) (by first | omega | (dsimp only <;> omega)) ⟨rfl, by rw [hms (by omega), ← hci]; exact congrArg some (i64_eq (by omega)), rfl, trivial⟩ ⟨rfl, rfl, trivial⟩
 ·refine e_exit ?_
  refine x_exit (x_exit (x_be ?_))
  refine x_then (e_seq (e_reg (mv rfl rfl (as_ rfl rfl (l_nil (x_then (e_ret ?_)))))))
  exact x_end (.inl rfl) hsc () _ (fun a w hs => res1 hs Tryz.results59 rfl) (by rw [List.take_of_length_le (by omega)]) trivial rfl give_nil
theorem r_same (v u : Value) (r t : List (Bool × ByteArray)) : Cal Tryz.prog 24 #[v, u] [slp 2 encW v r, slp 2 encW u t] false (G := Unit) (fun _ => True) (fun _ => .bool (decide (r = t))) (fun _ => []) := by
 refine cal_in Tryz.func24 rfl Tryz.ntmps24 rfl ⟨rfl, rfl, trivial⟩ ?_
 intro w0 sc hw hsc
 simp only [enumEnv, enumPre]
 refine e_fact (f_len (i := 1) rfl rd_slp) (fun hlr => ?_)
 refine e_fact (f_len (i := 2) rfl rd_slp) (fun hlt => ?_)
 refine e_seq (e_reg (as_ rfl rfl (l_nil (x_then (e_seq (e_seq (e_reg (mv rfl rfl (dt (d_len rfl rfl (i := 1) rfl rd_slp Tryz.underlying23) rfl ?_)))))))))
 refine mv rfl rfl (dt (d_len rfl rfl (i := 2) rfl rd_slp Tryz.underlying23) rfl ?_)
 refine dt (d_neq rfl rfl rfl) rfl ?_
 refine l_nil (x_then (e_cond rfl (fun h78 => ?_) (fun h78 => ?_)))
 ·refine e_seq (e_reg (as_ rfl rfl (l_nil (x_then (e_ret (x_ret ?_))))))
  exact x_end (.inl rfl) hsc () _ (fun a w hs => res1 hs Tryz.results24 rfl) (by rw [decide_eq_false (fun e => by subst e; exact h78 rfl)]) trivial rfl give_nil
 ·have hle : r.length = t.length := by omega
  refine e_skip ?_
  refine x_then (e_seq (e_seq (e_reg (as_ rfl rfl (l_nil (x_then (e_block (e_lp [(0, _), (1, _)] [(0, _), (1, _), (2, _)] (fun (k : Nat) => [(5, .int .i64 (k : Int))]) (fun (k : Nat) => []) (fun (k : Nat) => (k ≤ r.length) ∧ (r.take k = t.take k)) (fun (k : Nat) => r.length - k) 0 ⟨by first | omega | (dsimp only <;> omega), by simp⟩ ⟨rfl, rfl, rfl, trivial⟩ ⟨rfl, rfl, rfl, trivial⟩ ?_))))))))
  rintro k ⟨hk, ht⟩
  simp only [List.cons_append, List.nil_append]
  refine e_seq (e_seq (e_reg (mv rfl rfl (mv rfl rfl (dt (d_len rfl rfl (i := 1) rfl rd_slp Tryz.underlying23) rfl ?_)))))
  refine dt (d_lss rfl rfl rfl) rfl ?_
  refine l_nil (x_then (e_cond rfl (fun h81 => ?_) (fun h81 => ?_)))
  ·refine e_skip ?_
   refine x_then (e_seq (e_block (e_seq (e_dreg (fun _ => False) [(0, 0), (1, 0), (2, 0), (3, 0), (4, 0), (5, 0), (6, 0), (7, 0), (8, 0)] (by kernel_rfl) ?_ ?_))))
   ·kernel_rfl
   refine r0' rfl rfl rfl rfl (st0 (d_mv rfl rfl)) ?_
   refine r0' rfl rfl rfl rfl (st0 (d_mv rfl rfl)) ?_
   refine r0' rfl rfl rfl rfl (st0 (d_ixa (ii := 1) rfl rfl rfl rfl rd_slp Tryz.underlying23 Tryz.sizeOf28 rfl (by first | omega | (simp only [List.length_set]; omega)))) ?_
   refine r0' rfl rfl rfl rfl (st0 (d_lde (ii := 1) (false, ⟨#[]⟩) rfl rfl rfl rd_slp pW (by first | omega | (simp only [List.length_set]; omega)))) ?_
   refine r0' rfl rfl rfl rfl (st0 (d_mv rfl rfl)) ?_
   refine r0' rfl rfl rfl rfl (st0 (d_mv rfl rfl)) ?_
   refine r0' rfl rfl rfl rfl (st0 (d_ixa (ii := 2) rfl rfl rfl rfl rd_slp Tryz.underlying23 Tryz.sizeOf28 rfl (by first | omega | (simp only [List.length_set]; omega)))) ?_
   refine r0' rfl rfl rfl rfl (st0 (d_lde (ii := 2) (false, ⟨#[]⟩) rfl rfl rfl rd_slp pW (by first | omega | (simp only [List.length_set]; omega)))) ?_
   refine r0' rfl rfl rfl rfl (st0 (d_eqg rfl rfl rfl eg28 (fun w => neq28 w _ _ _ _))) ?_
   refine r_end ?_
   refine x_then (e_condb rfl (fun h82 => ?_) (fun h82 => ?_))
   ·refine e_seq (e_reg (as_ rfl rfl (l_nil (x_then (e_ret (x_br ?_))))))
    refine x_ret ?_
    refine x_ret ?_
    refine x_br ?_
    refine x_ret ?_
    exact x_end (.inl rfl) hsc () _ (fun a w hs => res1 hs Tryz.results24 rfl) (by rw [decide_eq_false (fun e => by rw [e] at h82; simp [eqW_refl] at h82)]) trivial rfl give_nil
   ·refine e_skip ?_
    refine x_bn ?_
    refine x_then (e_reg (mv rfl rfl (dt (d_add rfl rfl rfl ⟨by omega, by omega⟩) rfl ?_)))
    refine as_ rfl rfl (l_nil ?_)
    exact x_rnd (k + 1) ⟨by first | omega | (dsimp only <;> omega), by rw [take_snoc (false, ⟨#[]⟩) _ _ (by omega), take_snoc (false, ⟨#[]⟩) _ _ (by omega), ht, eqW_pair (x := r.getD k (false, ⟨#[]⟩)) (y := t.getD k (false, ⟨#[]⟩)) (by simpa using h82)]⟩ (by first | omega | (dsimp only <;> omega)) ⟨rfl, rfl, rfl, trivial⟩ ⟨rfl, rfl, rfl, trivial⟩
  ·refine e_exit ?_
   refine x_exit (x_exit (x_be ?_))
   refine x_then (e_seq (e_reg (as_ rfl rfl (l_nil (x_then (e_ret ?_))))))
   exact x_end (.inl rfl) hsc () _ (fun a w hs => res1 hs Tryz.results24 rfl) (by rw [decide_eq_true (by rw [show k = r.length by omega, List.take_length, hle, List.take_length] at ht; exact ht)]) trivial rfl give_nil
theorem r_same_ii (v u : Value) (xs ys : List Int) : Cal Tryz.prog 24 #[v, u] [slp 2 wv v xs, slp 2 wv u ys] false (G := Unit) (fun _ => True) (fun _ => .bool (decide (xs = ys))) (fun _ => []) := by
 have h := ((r_same v u (xs.map wr) (ys.map wr)).imp (slp_wr v xs) (fun _ h => h)).imp2 (slp_wr u ys) (fun _ h => h)
 rw [decide_eq_decide.2 (map_wr_iff xs ys)] at h; exact h
theorem rp_valid (v : Value) (r : List (Bool × ByteArray)) : Cal Tryz.prog 13 #[v] [slp 2 encW v r] false (G := Unit) (fun _ => True) (fun _ => .bool (okP r)) (fun _ => []) := by
 refine cal_in Tryz.func13 rfl Tryz.ntmps13 rfl ⟨rfl, trivial⟩ ?_
 intro w0 sc hw hsc
 simp only [enumEnv, enumPre]
 refine e_fact (f_len (i := 1) rfl rd_slp) (fun hlen => ?_)
 refine e_seq (e_reg (as_ rfl rfl (l_nil (x_then (e_seq (e_seq (e_reg (as_ rfl rfl (l_nil (x_then (e_block (e_lp [(0, _)] [(0, _), (1, _)] (fun (k : Nat) => [(3, .int .i64 (k : Int))]) (fun (k : Nat) => []) (fun (k : Nat) => (k ≤ r.length) ∧ ((r.take k).all (fun w => okW w.1 w.2) = true)) (fun (k : Nat) => r.length - k) 0 ⟨by first | omega | (dsimp only <;> omega), by simp⟩ ⟨rfl, rfl, trivial⟩ ⟨rfl, rfl, trivial⟩ ?_))))))))))))
 rintro k ⟨hk, ha⟩
 simp only [List.cons_append, List.nil_append]
 refine e_seq (e_seq (e_reg (mv rfl rfl (mv rfl rfl (dt (d_len rfl rfl (i := 1) rfl rd_slp Tryz.underlying23) rfl ?_)))))
 refine dt (d_lss rfl rfl rfl) rfl ?_
 refine l_nil (x_then (e_cond rfl (fun h30 => ?_) (fun h30 => ?_)))
 ·refine e_skip ?_
  refine x_then (e_seq (e_block (e_seq (e_reg (mv rfl rfl (mv rfl rfl (dt (d_ixa (ii := 1) rfl rfl rfl rfl rd_slp Tryz.underlying23 Tryz.sizeOf28 rfl (by first | omega | (simp only [List.length_set]; omega))) rfl ?_)))))))
  refine dt (d_lde (ii := 1) (false, ⟨#[]⟩) rfl rfl rfl rd_slp pW (by first | omega | (simp only [List.length_set]; omega))) rfl ?_
  refine tt (t_call (n := 1) (r_valid _ _) rfl rfl rfl ⟨rfl, trivial⟩ Tryz.call48 pre_nil rfl hw) rfl (fun _ _ => ?_)
  refine dt (d_notb rfl rfl) rfl ?_
  refine l_nil (x_then (e_condb rfl (fun h31 => ?_) (fun h31 => ?_)))
  ·refine e_seq (e_reg (as_ rfl rfl (l_nil (x_then (e_ret (x_br ?_))))))
   refine x_ret ?_
   refine x_ret ?_
   refine x_br ?_
   refine x_ret ?_
   exact x_end (.inl rfl) hsc () _ (fun a w hs => res1 hs Tryz.results13 rfl) (by rw [okP_bad (getD_mem (i := k) (d := (false, ⟨#[]⟩)) (by omega)) (by simpa using h31)]) trivial rfl give_nil
  ·refine e_skip ?_
   refine x_bn ?_
   refine x_then (e_reg (mv rfl rfl (dt (d_add rfl rfl rfl ⟨by omega, by omega⟩) rfl ?_)))
   refine as_ rfl rfl (l_nil ?_)
   exact x_rnd (k + 1) ⟨by first | omega | (dsimp only <;> omega), by rw [take_snoc (false, ⟨#[]⟩) _ _ (by omega), List.all_append, ha]; simpa using h31⟩ (by first | omega | (dsimp only <;> omega)) ⟨rfl, rfl, trivial⟩ ⟨rfl, rfl, trivial⟩
 ·refine e_exit ?_
  refine x_exit (x_exit (x_be ?_))
  refine x_then (e_seq ?_)
  obtain rfl : k = r.length := by omega
  rw [List.take_length] at ha
  refine e_reg (mv rfl rfl (dt (d_len rfl rfl (i := 1) rfl rd_slp Tryz.underlying23) rfl ?_))
  refine dt (d_leq rfl rfl rfl) rfl ?_
  refine mv rfl rfl (l_split (d := 19) rfl (fun s35 => ?_) (fun s35 => ?_))
  ·refine gdt (d_mv rfl rfl) rfl rfl rfl rfl ?_
   refine gdt (d_len rfl rfl (i := 1) rfl rd_slp Tryz.underlying23) rfl rfl rfl rfl ?_
   refine gdt (d_eql rfl rfl rfl) rfl rfl rfl rfl ?_
   refine gdt (d_mv rfl rfl) rfl rfl rfl rfl ?_
   refine l_split (d := 23) rfl (fun s35_2 => ?_) (fun s35_2 => ?_)
   ·refine gsk rfl rfl rfl rfl rfl (gsk rfl rfl rfl rfl rfl (gsk rfl rfl rfl rfl rfl (gsk rfl rfl rfl rfl rfl (gsk rfl rfl rfl rfl rfl (gsk rfl rfl rfl rfl rfl (gsk rfl rfl rfl rfl rfl (gsk rfl rfl rfl rfl rfl (gsk rfl rfl rfl rfl rfl (gdt (d_pickt rfl rfl rfl) rfl rfl rfl rfl ?_)))))))))
    refine dt (d_pickt rfl rfl rfl) rfl ?_
    refine as_ rfl rfl (l_nil (x_then (e_ret ?_)))
    exact x_end (.inl rfl) hsc () _ (fun a w hs => res1 hs Tryz.results13 rfl) (by rw [okP_fin2 ha]; first | (rw [decide_eq_false (show ¬ r.length ≤ 25 by omega)]; rfl) | (rw [decide_eq_true (show r.length ≤ 25 by omega), decide_eq_true (show r.length = 0 by omega)]; rfl) | (rw [decide_eq_true (show r.length ≤ 25 by omega), decide_eq_false (show ¬ r.length = 0 by omega)]; rfl)) trivial rfl give_nil
   ·refine gdt (d_mv rfl rfl) rfl rfl rfl rfl ?_
    refine gdt (d_mv rfl rfl) rfl rfl rfl rfl ?_
    refine gdt (d_len rfl rfl (i := 1) rfl rd_slp Tryz.underlying23) rfl rfl rfl rfl ?_
    refine gdt (d_sub rfl rfl rfl ⟨by omega, by omega⟩) rfl rfl rfl rfl ?_
    refine gdt (d_ixa (ii := 1) (i := (r.length - 1)) rfl rfl rfl rfl rd_slp Tryz.underlying23 Tryz.sizeOf28 (by omega) (by omega)) rfl rfl rfl rfl ?_
    refine gdt (d_fae (ii := 1) rfl rfl rfl rd_slp (by omega) Tryz.underlying28 rfl Tryz.sizeOf9 rfl) rfl rfl rfl rfl ?_
    refine gdt (d_ldf (ii := 1) (false, ⟨#[]⟩) rfl rfl rfl rd_slp (by omega) Tryz.isAgg9 rfl) rfl rfl rfl rfl ?_
    refine gdt (d_lens rfl rfl Tryz.underlying9) rfl rfl rfl rfl ?_
    refine gdt (d_gtr rfl rfl rfl) rfl rfl rfl rfl ?_
    refine gdt (d_pickf rfl rfl rfl) rfl rfl rfl rfl ?_
    refine dt (d_pickt rfl rfl rfl) rfl ?_
    refine as_ rfl rfl (l_nil (x_then (e_ret ?_)))
    exact x_end (.inl rfl) hsc () _ (fun a w hs => res1 hs Tryz.results13 rfl) (by rw [okP_fin2 ha]; first | (rw [decide_eq_false (show ¬ r.length ≤ 25 by omega)]; rfl) | (rw [decide_eq_true (show r.length ≤ 25 by omega), decide_eq_true (show r.length = 0 by omega)]; rfl) | (rw [decide_eq_true (show r.length ≤ 25 by omega), decide_eq_false (show ¬ r.length = 0 by omega)]; rfl)) trivial rfl give_nil
  ·refine gsk rfl rfl rfl rfl rfl (gsk rfl rfl rfl rfl rfl (gsk rfl rfl rfl rfl rfl (gsk rfl rfl rfl rfl rfl (gsku rfl rfl rfl ?_))))
   refine gsku rfl rfl rfl ?_
   refine gsku rfl rfl rfl ?_
   refine gsku rfl rfl rfl ?_
   refine gsku rfl rfl rfl ?_
   refine gsku rfl rfl rfl ?_
   refine gsku rfl rfl rfl ?_
   refine gsku rfl rfl rfl ?_
   refine gsku rfl rfl rfl ?_
   refine gsk rfl rfl rfl rfl rfl (dt (d_pickf rfl rfl rfl) rfl ?_)
   refine as_ rfl rfl (l_nil (x_then (e_ret ?_)))
   exact x_end (.inl rfl) hsc () _ (fun a w hs => res1 hs Tryz.results13 rfl) (by rw [okP_fin2 ha]; first | (rw [decide_eq_false (show ¬ r.length ≤ 25 by omega)]; rfl) | (rw [decide_eq_true (show r.length ≤ 25 by omega), decide_eq_true (show r.length = 0 by omega)]; rfl) | (rw [decide_eq_true (show r.length ≤ 25 by omega), decide_eq_false (show ¬ r.length = 0 by omega)]; rfl)) trivial rfl give_nil
end Go.Sky

