/- rules, arithmetic and contracts: part 10
   Proved without conditions of its own: each theorem bears its own. -/
import Derived.Test.YtcegclhbeflgbaaGreatSk02
import Derived.Test.YtcegclhbeflgbaaGreatSk01
import Derived.Test.YtcegclhbeflgbaaGreatSk03
import Derived.Test.YtcegclhbeflgbaaGreatSk08
set_option linter.all false
namespace Go.Sky
open Go.Proofs
set_option maxRecDepth 20000
set_option maxHeartbeats 4000000
set_option linter.unusedVariables false
set_option linter.unusedSimpArgs false
theorem rp_to (v : Value) (zs : List (Int × SL)) (hs : Sz 1000000 (ints zs)) (hl : zs.length ≤ 1000) : Cal Tryz.prog 25 #[v] [pp v zs] false (G := Value) (fun r => True) (fun r => r) (fun r => [slp 2 wv r (ints zs)]) := by
 refine cal_in Tryz.func25 J Tryz.ntmps25 J ⟨J, trivial⟩ ?_
 intro w0 sc hw hsc
 simp only [enumEnv, enumPre]
 have hli := length_ints zs
 refine e_seq <|e_reg <|as_ J J <|l_nil <|x_then <|e_seq <|e_reg <|as_ J J <|l_nil <|x_then <|e_seq <|e_seq <|e_reg <|as_ J J <|l_nil <|x_then <|e_block <|e_imp (s_nil 70 2 28 wv) <|e_lp [(0, _)] [(0, _), (1, _)] (fun (q : Nat × Value) => [(4, .int .i64 (q.1 : Int)), (3, q.2)]) (fun (q : Nat × Value) => [(70, osl 2 28 wv q.2 ((ints zs).take q.1))]) (fun (q : Nat × Value) => (q.1 ≤ zs.length)) (fun (q : Nat × Value) => zs.length - q.1) (0, .slice none 0 0) (by first | omega | (dsimp only <;> omega)) ⟨J, J, J, trivial⟩ ⟨J, J, J, trivial⟩ ?_
 rintro ⟨i, vo⟩ hi
 dsimp only at hi
 simp only [List.cons_append, List.nil_append]
 have htl : ((ints zs).take i).length = i := by rw [List.length_take]; omega
 have hci := cf_ints zs i
 refine e_seq <|e_seq <|e_reg <|mv J J <|mv J J <|dt (d_len J J (i := 1) J rd_deep uT33) J <|dt (d_lss J J J) J <|l_nil <|x_then <|e_cond J (fun h50 => ?_) (fun h50 => ?_)
 ·exact e_skip <|x_then <|e_seq <|e_block <|e_reg <|mv J J <|mv J J <|mv J J <|dt (d_ixa (ii := 1) J J J J rd_deep uT33 zT39 J (by first | omega | (simp only [List.length_set]; omega))) J <|dt (d_lde (ii := 1) I0 J J J rd_deep pI (by first | omega | (simp only [List.length_set]; omega))) J <|tt (t_call (n := 1) (r_to _ _ (by rw [hci]; have := hs i; omega)) J J J ⟨J, trivial⟩ cF17 (pre_dI 1 J J (getD_mem (by omega)) pre_nil) J hw) J fun _ _ => tt (t_bsg (i := 2) (ivs := [(0, _)]) (enc := wv) [(zs.getD i I0).1] J J J ⟨J, J, trivial⟩ uT23 Tryz.ti28 J J J J J J pV.cells J J hw) J fun v _ => tt (t_appa (i := 70) (j := 2) (by_ := 24) J J J J J J (by decide) J (rd_osl pV) uT23 Tryz.ti28 J pV J J J (by simp; omega) (by decide) J hw) J fun v_2 _ => as_ J J <|l_nil <|x_bn <|x_then <|e_reg <|mv J J <|dt (d_add J J J ⟨by omega, by omega⟩) J <|as_ J J <|l_nil <|x_rnd (i + 1, _) (by first | omega | (dsimp only <;> omega)) (by first | omega | (dsimp only <;> omega)) ⟨J, J, J, trivial⟩ ⟨by rw [take_snoc 0 _ _ (by omega), show (ints zs).getD i 0 = (zs.getD i I0).1 from hci.symm]; rfl, rfl, rfl, trivial⟩
 ·exact e_exit <|x_exit <|x_exit <|x_be <|x_then <|e_seq <|e_reg <|mv J J <|as_ J J <|l_nil <|x_then <|e_ret <|x_end (.inl J) hsc _ _ (fun a w hs => res1 hs Tryz.results25 J) J trivial J (give_owne 70 J J pV (List.take_of_length_le (by omega)) give_nil)
theorem rp_trim (v : Value) (zs : List (Int × SL)) (hs : Sz 3000000000 (ints zs)) : Cal Tryz.prog 83 #[v] [pp v zs] true (G := Value × List (Int × SL)) (fun r => ints r.2 = tzl (ints zs)) (fun r => r.1) (fun r => [pp r.1 r.2]) := by
 refine cal_in Tryz.func83 J Tryz.ntmps83 J ⟨J, trivial⟩ ?_
 intro w0 sc hw hsc
 simp only [enumEnv, enumPre]
 refine e_fact (f_self_deep (i := 1) J) fun hself => e_fact (f_len (i := 1) J rd_deep) (fun hlen => ?_)
 have hli := length_ints zs
 refine e_seq <|e_reg <|as_ J J <|l_nil <|x_then <|e_seq <|e_block <|e_lp [] [(0, _)] (fun (k : Nat) => [(0, preV v k)]) (fun (k : Nat) => [(1, pp (preV v k) (zs.take k))]) (fun (k : Nat) => (k ≤ zs.length) ∧ (tzl ((ints zs).take k) = tzl (ints zs))) (fun (k : Nat) => k) zs.length ⟨Nat.le_refl _, by rw [List.take_of_length_le (by omega)]⟩ ⟨by rw [hself]; rfl, trivial⟩ ⟨by rw [hself, List.take_length]; rfl, rfl, trivial⟩ ?_
 rintro k ⟨hk, ht⟩
 simp only [List.cons_append, List.nil_append]
 have hl : (zs.take k).length = k := by rw [List.length_take]; omega
 have hce : ((zs.take k).getD (k - 1) I0).1 = ((ints zs).take k).getD (k - 1) 0 := by rw [cf_ints, take_ints]; rfl
 refine e_seq <|e_seq <|e_reg <|mv J J <|dt (d_len J J (i := 1) J rd_deep uT33) J <|dt (d_gtr J J J) J <|mv J J <|l_split (d := 6) J (fun s22 => ?_) (fun s22 => ?_)
 ·refine gdt (d_mv J J) J J J J <|gdt (d_mv J J) J J J J <|gdt (d_len J J (i := 1) J rd_deep uT33) J J J J <|gdt (d_sub J J J ⟨by omega, by omega⟩) J J J J <|gdt (d_ixa (ii := 1) (i := k - 1) J J J J rd_deep uT33 zT39 (by omega) (by omega)) J J J J <|gdt (d_lde (ii := 1) I0 J J J rd_deep pI (by omega)) J J J J <|gtt (t_call (n := 1) (r_sign _ _ (by rw [hce]; exact (hs.take _).getD _)) J J J ⟨J, trivial⟩ cF61 (pre_dI 1 J J (getD_mem (by omega)) pre_nil) J hw) J J J J fun _ _ => gdt (d_eql J J J) J J J J <|dt (d_pickt J J J) J <|l_nil <|x_then <|e_cond J (fun h22 => ?_) (fun h22 => ?_)
  ·rw [hce] at h22
   have hstep := tzl_step (xs := ints zs) (k := k) (by omega) (by omega) (takeD_zero (k := k) (by omega) (Int.sign_eq_zero_iff_zero.1 h22))
   exact e_skip <|x_then <|e_block <|e_reg <|mv J J <|mv J J <|dt (d_len J J (i := 1) J rd_deep uT33) J <|dt (d_sub J J J ⟨by omega, by omega⟩) J <|dt (d_pre (ii := 1) (i := k - 1) J J J J rd_deep uT33 zT39 (by omega) (by omega)) J <|as_ J J <|l_nil <|x_bn <|x_imp (s_predeep 1 1 (k - 1) J J (by omega)) <|x_rnd (k - 1) ⟨by first | omega | (dsimp only <;> omega), by rw [← ht, ← hstep]⟩ (by first | omega | (dsimp only <;> omega)) ⟨by rw [← preV_preV v k (k - 1)]; rfl, trivial⟩ ⟨by rw [preV_preV, List.take_take, Nat.min_eq_left (by omega)]; rfl, rfl, trivial⟩
  ·try rw [hce] at h22
   exact e_exit <|x_exit <|x_exit <|x_be <|x_then <|e_seq <|e_reg <|mv J J <|as_ J J <|l_nil <|x_then <|e_ret <|x_end (.inl J) hsc (_, zs.take k) _ (fun a w hs => res1 hs Tryz.results83 J) J (by rw [take_ints, ← ht]; exact (tzl_stop (by omega) (by first | (left; omega) | (right; exact takeD_ne (k := k) (by omega) (by assumption)))).symm) J (give_same 1 J J J give_nil)
 ·exact gsk J J J J J <|gsk J J J J J <|gsk J J J J J <|gsk J J J J J <|gsk J J J J J <|gsk J J J J J <|gsk J J J J J <|gsk J J J J J <|dt (d_pickf J J J) J <|l_nil <|x_then <|e_condf J <|e_exit <|x_exit <|x_exit <|x_be <|x_then <|e_seq <|e_reg <|mv J J <|as_ J J <|l_nil <|x_then <|e_ret <|x_end (.inl J) hsc (_, zs.take k) _ (fun a w hs => res1 hs Tryz.results83 J) J (by rw [take_ints, ← ht]; exact (tzl_stop (by omega) (by first | (left; omega) | (right; exact takeD_ne (k := k) (by omega) (by assumption)))).symm) J (give_same 1 J J J give_nil)
theorem rp_nums (v : Value) (l : List Int) (hl : ∀ x ∈ l, inI x) (hlen : l.length ≤ 1000) : Cal Tryz.prog 33 #[v] [slp 1 encZ v l] true (G := Value × List (Int × SL)) (fun r => ints r.2 = tzl l) (fun r => r.1) (fun r => [pp r.1 r.2]) := by
 refine cal_in Tryz.func33 J Tryz.ntmps33 J ⟨J, trivial⟩ ?_
 intro w0 sc hw hsc
 simp only [enumEnv, enumPre]
 have hsz := sz_ints hl
 refine e_seq <|e_reg <|as_ J J <|l_nil <|x_then <|e_seq <|e_reg <|as_ J J <|l_nil <|x_then <|e_seq <|e_seq <|e_reg <|as_ J J <|l_nil <|x_then <|e_block <|e_imp (s_nil 70 2 39 encI) <|e_imp (s_many_nil qI 71) <|e_lp [(0, _)] [(0, _), (1, _)] (fun (q : Nat × Value × List (Int × SL)) => [(4, .int .i64 (q.1 : Int)), (3, q.2.1)]) (fun (q : Nat × Value × List (Int × SL)) => [(70, osl 2 39 encI q.2.1 q.2.2), (71, many qI q.2.2)]) (fun (q : Nat × Value × List (Int × SL)) => (q.1 ≤ l.length) ∧ (ints q.2.2 = mk q.1 (cf l)) ∧ (q.2.2.length = q.1)) (fun (q : Nat × Value × List (Int × SL)) => l.length - q.1) (0, .slice none 0 0, []) ⟨by first | omega | (dsimp only <;> omega), rfl, rfl⟩ ⟨J, J, J, trivial⟩ ⟨J, J, J, J, trivial⟩ ?_
 rintro ⟨i, vo, ws⟩ ⟨hi, hz, hzl⟩
 dsimp only at hi hz hzl
 simp only [List.cons_append, List.nil_append]
 refine e_seq <|e_seq <|e_reg <|mv J J <|mv J J <|dt (d_len J J (i := 1) J rd_slp uT37) J <|dt (d_lss J J J) J <|l_nil <|x_then <|e_cond J (fun h59 => ?_) (fun h59 => ?_)
 ·refine e_skip <|x_then <|e_seq <|e_block <|e_reg <|mv J J <|mv J J <|mv J J <|dt (d_ixa (ii := 1) J J J J rd_slp uT37 zT3 J (by first | omega | (simp only [List.length_set]; omega))) J <|dt (d_lde (ii := 1) 0 J J J rd_slp pZ (by first | omega | (simp only [List.length_set]; omega))) J <|tt (t_call (n := 2) (r_num _ (hl _ (getD_mem (by omega)))) J J J ⟨J, trivial⟩ cF43 pre_nil J hw) J fun v _ => l_ex (f_slice 2 J rd_slp) (fun sl hsl => ?_)
  subst hsl
  exact tt (t_bsg (i := 3) (ivs := [(0, _)]) (enc := encI) [(l.getD i 0, sl)] J J J ⟨J, J, trivial⟩ uT33 Tryz.ti39 J J J J J J pI.cells J J hw) J fun v_2 _ => tt (t_appa (i := 70) (j := 3) (by_ := 32) J J J J J J (by decide) J (rd_osl pI) uT33 Tryz.ti39 J pI J J J (by simp; omega) (by decide) J hw) J fun v_3 _ => as_ J J <|l_nil <|x_bn <|x_then <|e_reg <|mv J J <|dt (d_add J J J ⟨by omega, by omega⟩) J <|as_ J J <|l_nil <|x_imp (s_many_snoc (q := qI) (z := (l.getD i 0, sl)) 71 2 71 J J J J J) <|x_rnd (i + 1, _, ws ++ [(l.getD i 0, sl)]) ⟨by first | omega | (dsimp only <;> omega), by rw [ints_snoc, mk_succ, hz]; dsimp only; rfl, by simp [hzl]⟩ (by first | omega | (dsimp only <;> omega)) ⟨J, J, J, trivial⟩ ⟨J, J, J, J, trivial⟩
 ·exact e_exit <|x_exit <|x_exit <|x_be <|x_then <|e_seq <|e_imp (s_pub 70 J J pI) <|e_imp (s_mkdeep 70 71 72 J J J J) <|e_reg <|mv J J <|tt (t_call (n := 4) (rp_trim _ _ (by rw [hz]; exact mk_sz fun t ht => by have := hsz t; omega)) J J J ⟨J, trivial⟩ cF83 (pre_same 72 J J J pre_nil) J hw) J fun g hg => as_ J J <|l_nil <|x_then <|e_ret <|x_end (.inl J) hsc _ _ (fun a w hs => res1 hs Tryz.results33 J) J (by rw [hg, hz, show i = l.length by omega, mk_self]) J (give_same 4 J J J give_nil)
theorem rp_at (v : Value) (zs : List (Int × SL)) (j : Int) (i : Nat) (hj : j = (i : Int)) (hi : i ≤ 1000000) : Cal Tryz.prog 84 #[v, .int .i64 j] [pp v zs] true (G := Value) (fun r => True) (fun r => .agg #[.bool (decide (cf (ints zs) i < 0)), r]) (fun r => [d9p r (cf (ints zs) i).natAbs]) := by
 refine cal_in Tryz.func84 J Tryz.ntmps84 J ⟨J, trivial⟩ ?_
 intro w0 sc hw hsc
 simp only [enumEnv, enumPre]
 have hli := length_ints zs
 refine e_fact (f_len (i := 1) J rd_deep) fun hlen => e_imp (s_nil 60 1 3 encN) <|e_imp (s_pub 60 J J pN) <|e_seq <|e_reg <|tt (t_alloc (i := 2) J J J Tryz.zeroValue39 J J hw) J fun b _ => l_nil <|x_then <|e_seq <|e_seq <|e_reg <|mv J J <|dt (d_lss J J J) J <|mv J J <|l_split (d := 7) J (fun s91 => ?_) (fun s91 => ?_)
 ·exfalso; omega
 ·refine gdt (d_mv J J) J J J J <|gdt (d_mv J J) J J J J <|gdt (d_len J J (i := 1) J rd_deep uT33) J J J J <|gdt (d_geq J J J) J J J J <|dt (d_pickf J J J) J <|l_nil <|x_then <|e_cond J (fun h91 => ?_) (fun h91 => ?_)
  ·refine e_seq <|e_reg <|dt (d_bld (ivs := []) J trivial (fun a w hs => b39_)) J <|tt (t_stw (i := 2) J J J J J (by decide) J zT39 J J ⟨(one_rfl J), (one_rfl J), trivial⟩ J hw trivial) J fun _ _ => l_nil <|x_then <|e_ret <|x_ret ?_
   have hz0 : cf (ints zs) i = 0 := cf_ge (by omega)
   exact x_end (.inl J) hsc (.slice none 0 0) _ (fun a w hs => res1 hs Tryz.results84 (rv_cell (i := 2) J J iA39 zT39 J)) (by rw [hz0] <;> rfl) trivial J (give_none (by rw [hz0]; rfl) give_nil)
  ·exact e_skip <|x_then <|e_seq <|e_reg <|mv J J <|mv J J <|dt (d_ixa (ii := 1) (i := i) J J J J rd_deep uT33 zT39 hj (by omega)) J <|dt (d_lde (ii := 1) I0 J J J rd_deep pI (by omega)) J <|tt (t_stw (i := 2) J J J J J (by decide) J zT39 J J ⟨(one_rfl J), (one_rfl J), trivial⟩ J hw trivial) J fun _ _ => l_nil <|x_then <|e_ret <|x_end (.inl J) hsc _ _ (fun a w hs => res1 hs Tryz.results84 (rv_cell (i := 2) J J iA39 zT39 J)) (by rw [← cf_ints] <;> rfl) trivial J (give_dI 1 J J (getD_mem (i := i) (by omega)) (by rw [← cf_ints] <;> rfl) give_nil)
theorem rp_mul (v u : Value) (zs ys : List (Int × SL)) (hs : Sz 1000000 (ints zs)) (hl : zs.length ≤ 60) (ht : Sz 1000000 (ints ys)) (hk : ys.length ≤ 60) : Cal Tryz.prog 34 #[v, u] [pp v zs, pp u ys] true (G := Value × List (Int × SL)) (fun r => ints r.2 = pmul (ints zs) (ints ys)) (fun r => r.1) (fun r => [pp r.1 r.2]) := by
 refine cal_in Tryz.func34 J Tryz.ntmps34 J ⟨J, J, trivial⟩ ?_
 intro w0 sc hw hsc
 simp only [enumEnv, enumPre]
 have hli := length_ints zs
 have hli2 := length_ints ys
 have htb : ∀ i k, bl (cf (ints zs) k * cf (ints ys) (i - k)).natAbs ≤ 2000000 := fun i k => by have := bl_imul (cf (ints zs) k) (cf (ints ys) (i - k)); have := hs k; have := ht (i - k); omega
 have hsb : ∀ i n, n ≤ 1000 → bl (sumTo (fun k => cf (ints zs) k * cf (ints ys) (i - k)) n).natAbs ≤ 2000010 := fun i n hn => bl_sumn (fun t _ => htb i t) (by omega)
 refine e_seq <|e_reg <|as_ J J <|l_nil <|x_then <|e_seq <|e_reg <|as_ J J <|l_nil <|x_then <|e_seq <|e_seq <|e_reg <|as_ J J <|l_nil <|x_then <|e_block <|e_imp (s_nil 70 2 39 encI) <|e_imp (s_many_nil qI 71) <|e_lp [(0, _), (1, _)] [(0, _), (1, _), (2, _)] (fun (q : Nat × Value × List (Int × SL)) => [(6, .int .i64 (q.1 : Int)), (5, q.2.1)]) (fun (q : Nat × Value × List (Int × SL)) => [(70, osl 2 39 encI q.2.1 q.2.2), (71, many qI q.2.2)]) (fun (q : Nat × Value × List (Int × SL)) => (q.1 ≤ (zs.length + ys.length - 1)) ∧ (ints q.2.2 = mk q.1 (fun t => sumTo (fun a9 => cf (ints zs) a9 * cf (ints ys) (t - a9)) (t + 1))) ∧ (q.2.2.length = q.1)) (fun (q : Nat × Value × List (Int × SL)) => (zs.length + ys.length - 1) - q.1) (0, .slice none 0 0, []) ⟨by first | omega | (dsimp only <;> omega), rfl, rfl⟩ ⟨J, J, J, J, trivial⟩ ⟨J, J, J, J, J, trivial⟩ ?_
 rintro ⟨i, vo, ws⟩ ⟨hi, hz, hzl⟩
 dsimp only at hi hz hzl
 simp only [List.cons_append, List.nil_append]
 refine e_seq <|e_seq <|e_reg <|mv J J <|mv J J <|dt (d_len J J (i := 1) J rd_deep uT33) J <|mv J J <|dt (d_len J J (i := 2) J rd_deep uT33) J <|dt (d_add J J J ⟨by omega, by omega⟩) J <|dt (d_sub J J J ⟨by omega, by omega⟩) J <|dt (d_lss J J J) J <|l_nil <|x_then <|e_cond J (fun h124 => ?_) (fun h124 => ?_)
 ·refine e_skip <|x_then <|e_seq <|e_block <|e_seq <|e_reg <|dt (d_bld (ivs := []) J trivial (fun a w hs => b39_)) J <|tt (t_alloc (i := 97) J J J Tryz.zeroValue39 J J hw) J fun b _ => tt (t_stw (i := 97) J J J J J (by decide) J zT39 J J ⟨(one_rfl J), (one_rfl J), trivial⟩ J hw trivial) J fun _ _ => l_nil <|x_then <|e_seq <|e_seq <|e_reg <|as_ J J <|l_nil <|x_then <|e_block <|e_imp (s_nil 98 1 3 encN) <|e_imp (s_pub 98 J J pN) <|e_lp [(0, _), (1, _), (5, _), (6, _), (7, _)] [(0, _), (70, _), (71, _), (1, _), (2, _)] (fun (q : Nat × Value) => [(8, .int .i64 (q.1 : Int))]) (fun (q : Nat × Value) => [(97, box b 39 #[.bool (decide (sumTo (fun a9 => cf (ints zs) a9 * cf (ints ys) (i - a9)) q.1 < 0)), q.2]), (98, d9p q.2 (sumTo (fun a9 => cf (ints zs) a9 * cf (ints ys) (i - a9)) q.1).natAbs)]) (fun (q : Nat × Value) => (q.1 ≤ i + 1)) (fun (q : Nat × Value) => i + 1 - q.1) (0, .slice none 0 0) (by first | omega | (dsimp only <;> omega)) ⟨J, J, J, J, J, J, trivial⟩ ⟨J, J, J, J, J, J, J, trivial⟩ ?_
  rintro ⟨k, vs⟩ hk1
  dsimp only at hk1
  simp only [List.cons_append, List.nil_append]
  have h1 := hsb i k
  have h2 := htb i k
  have h3 := hs k
  have h4 := ht (i - k)
  refine e_seq <|e_seq <|e_reg <|mv J J <|mv J J <|dt (d_leq J J J) J <|l_nil <|x_then <|e_cond J (fun h126 => ?_) (fun h126 => ?_)
  ·refine e_skip <|x_then <|e_seq <|e_block <|e_dreg (fun _ => False) [(0, 0), (1, 0), (2, 0), (4, 0), (5, 0), (6, 0), (7, 0), (3, 1), (8, 1), (9, 1), (10, 1), (11, 3)] (by kernel_rfl) ?_ ?_
   ·kernel_rfl
   exact r0' J J J J (st0 (d_lb2 (i := 97) J J J iA39 zT39 J J)) <|r0' J J J J (st0 (d_mv J J)) <|r0' J J J J (st0 (d_mv J J)) <|r0' J J J J (st0 (d_mv J J)) <|r0' J J J J (st0 (d_mv J J)) <|r0' J J J J (st0 (d_mv J J)) <|r0' J J J J (st0 (d_sub J J J ⟨by omega, by omega⟩)) <|r1' J J (t_call (n := 3) (rp_at _ _ _ k J (by omega)) J J J ⟨J, J, trivial⟩ cF84 (pre_same 1 J J J pre_nil) J hw) fun v _ => r1' J J (t_call (n := 4) (rp_at _ _ _ (i - k) (by omega) (by omega)) J J J ⟨J, J, trivial⟩ cF84 (pre_same 2 J J J pre_nil) J hw) fun v_2 _ => r1' J J (t_call (n := 5) (r_mul _ _ _ _ (by omega) (by omega)) J J J ⟨J, J, trivial⟩ cF44 (pre_same 3 J J J (pre_same 4 J J J pre_nil)) J hw) fun v_3 _ => r1' J J (t_call (n := 6) (r_add _ _ _ _ (by omega) (by omega)) J J J ⟨J, J, trivial⟩ cF42 (pre_same 98 J J J (pre_same 5 J J J pre_nil)) J hw) fun v_4 _ => r3' J J (t_stw (i := 97) J J J J J (by decide) J zT39 J J ⟨(one_rfl J), (one_rd (i := 6) J rd_slp), trivial⟩ J hw trivial) fun _ _ => r_end <|x_bn <|x_then <|e_reg <|mv J J <|dt (d_add J J J ⟨by omega, by omega⟩) J <|as_ J J <|l_nil <|x_imp (s_dup 6 98 J J J) <|x_rnd (k + 1, v_4) (by first | omega | (dsimp only <;> omega)) (by first | omega | (dsimp only <;> omega)) ⟨J, J, J, J, J, J, trivial⟩ ⟨by rw [sumTo_succ]; rfl, by rw [sumTo_succ]; rfl, rfl, rfl, rfl, rfl, rfl, trivial⟩
  ·refine e_exit <|x_exit <|x_exit <|x_be <|x_then ?_
   obtain rfl : k = i + 1 := by omega
   refine e_ex (f_slice 98 J rd_slp) (fun sl hsl => ?_)
   subst hsl
   exact e_reg <|mv J J <|dt (d_lb2 (i := 97) J J J iA39 zT39 J J) J <|tt (t_bsg (i := 7) (ivs := [(0, _)]) (enc := encI) [(sumTo (fun a9 => cf (ints zs) a9 * cf (ints ys) (i - a9)) (i + 1), sl)] J J J ⟨J, J, trivial⟩ uT33 Tryz.ti39 J J J J J J pI.cells J J hw) J fun v_5 _ => tt (t_appa (i := 70) (j := 7) (by_ := 32) J J J J J J (by decide) J (rd_osl pI) uT33 Tryz.ti39 J pI J J J (by simp; omega) (by decide) J hw) J fun v_6 _ => as_ J J <|l_nil <|x_bn <|x_then <|e_reg <|mv J J <|dt (d_add J J J ⟨by omega, by omega⟩) J <|as_ J J <|l_nil <|x_imp (s_many_snoc (q := qI) (z := (sumTo (fun a9 => cf (ints zs) a9 * cf (ints ys) (i - a9)) (i + 1), sl)) 71 98 71 J J J J J) <|x_rnd (i + 1, _, ws ++ [(sumTo (fun a9 => cf (ints zs) a9 * cf (ints ys) (i - a9)) (i + 1), sl)]) ⟨by first | omega | (dsimp only <;> omega), by rw [ints_snoc, mk_succ, hz], by simp [hzl]⟩ (by first | omega | (dsimp only <;> omega)) ⟨J, J, J, J, trivial⟩ ⟨J, J, J, J, J, trivial⟩
 ·refine e_exit <|x_exit <|x_exit <|x_be <|x_then <|e_seq <|e_seq <|e_reg <|mv J J <|dt (d_len J J (i := 1) J rd_deep uT33) J <|dt (d_eql J J J) J <|mv J J <|l_split (d := 43) J (fun s131 => ?_) (fun s131 => ?_)
  ·refine gsk J J J J J <|gsk J J J J J <|gsk J J J J J <|dt (d_pickt J J J) J <|l_nil <|x_then <|e_condt J <|e_seq <|e_reg <|as_ J J <|l_nil <|x_then <|e_ret <|x_ret <|x_imp (s_deep_nil 62) ?_
   have hp0 : pmul (ints zs) (ints ys) = [] := pmul_nil (by first | (left; omega) | (right; omega))
   exact x_end (.inl J) hsc (.slice none 0 0, []) _ (fun a w hs => res1 hs Tryz.results34 J) J (by rw [hp0] <;> rfl) J (give_same 62 J J J give_nil)
  ·refine gdt (d_mv J J) J J J J <|gdt (d_len J J (i := 2) J rd_deep uT33) J J J J <|gdt (d_eql J J J) J J J J <|dt (d_pickf J J J) J <|l_nil <|x_then <|e_cond J (fun h131 => ?_) (fun h131 => ?_)
   ·refine e_seq <|e_reg <|as_ J J <|l_nil <|x_then <|e_ret <|x_ret <|x_imp (s_deep_nil 62) ?_
    have hp0 : pmul (ints zs) (ints ys) = [] := pmul_nil (by first | (left; omega) | (right; omega))
    exact x_end (.inl J) hsc (.slice none 0 0, []) _ (fun a w hs => res1 hs Tryz.results34 J) J (by rw [hp0] <;> rfl) J (give_same 62 J J J give_nil)
   ·exact e_skip <|x_then <|e_seq <|e_imp (s_pub 70 J J pI) <|e_imp (s_mkdeep 70 71 72 J J J J) <|e_reg <|mv J J <|tt (t_call (n := 8) (rp_trim _ _ (by rw [hz]; exact mk_sz fun t h => by have := hsb t (t + 1) (by omega); omega)) J J J ⟨J, trivial⟩ cF83 (pre_same 72 J J J pre_nil) J hw) J fun g hg => as_ J J <|l_nil <|x_then <|e_ret <|x_end (.inl J) hsc _ _ (fun a w hs => res1 hs Tryz.results34 J) J (by rw [hg, hz, show i = (ints zs).length + (ints ys).length - 1 by omega, pmul_mk]) J (give_same 8 J J J give_nil)
theorem r_same (v u : Value) (r t : List (Bool × ByteArray)) : Cal Tryz.prog 24 #[v, u] [slp 2 encW v r, slp 2 encW u t] false (G := Unit) (fun _ => True) (fun _ => .bool (decide (r = t))) (fun _ => []) := by
 refine cal_in Tryz.func24 J Tryz.ntmps24 J ⟨J, J, trivial⟩ ?_
 intro w0 sc hw hsc
 simp only [enumEnv, enumPre]
 refine e_fact (f_len (i := 1) J rd_slp) fun hlr => e_fact (f_len (i := 2) J rd_slp) fun hlt => e_seq <|e_reg <|as_ J J <|l_nil <|x_then <|e_seq <|e_seq <|e_reg <|mv J J <|dt (d_len J J (i := 1) J rd_slp uT23) J <|mv J J <|dt (d_len J J (i := 2) J rd_slp uT23) J <|dt (d_neq J J J) J <|l_nil <|x_then <|e_cond J (fun h78 => ?_) (fun h78 => ?_)
 ·exact e_seq <|e_reg <|as_ J J <|l_nil <|x_then <|e_ret <|x_ret <|x_end (.inl J) hsc () _ (fun a w hs => res1 hs Tryz.results24 J) (by rw [decide_eq_false (fun e => by subst e; exact h78 rfl)]) trivial J give_nil
 ·have hle : r.length = t.length := by omega
  refine e_skip <|x_then <|e_seq <|e_seq <|e_reg <|as_ J J <|l_nil <|x_then <|e_block <|e_lp [(0, _), (1, _)] [(0, _), (1, _), (2, _)] (fun (k : Nat) => [(5, .int .i64 (k : Int))]) (fun (k : Nat) => []) (fun (k : Nat) => (k ≤ r.length) ∧ (r.take k = t.take k)) (fun (k : Nat) => r.length - k) 0 ⟨by first | omega | (dsimp only <;> omega), by simp⟩ ⟨J, J, J, trivial⟩ ⟨J, J, J, trivial⟩ ?_
  rintro k ⟨hk, ht⟩
  simp only [List.cons_append, List.nil_append]
  refine e_seq <|e_seq <|e_reg <|mv J J <|mv J J <|dt (d_len J J (i := 1) J rd_slp uT23) J <|dt (d_lss J J J) J <|l_nil <|x_then <|e_cond J (fun h81 => ?_) (fun h81 => ?_)
  ·refine e_skip <|x_then <|e_seq <|e_block <|e_seq <|e_dreg (fun _ => False) [(0, 0), (1, 0), (2, 0), (3, 0), (4, 0), (5, 0), (6, 0), (7, 0), (8, 0)] (by kernel_rfl) ?_ ?_
   ·kernel_rfl
   refine r0' J J J J (st0 (d_mv J J)) <|r0' J J J J (st0 (d_mv J J)) <|r0' J J J J (st0 (d_ixa (ii := 1) J J J J rd_slp uT23 zT28 J (by first | omega | (simp only [List.length_set]; omega)))) <|r0' J J J J (st0 (d_lde (ii := 1) (false, ⟨#[]⟩) J J J rd_slp pW (by first | omega | (simp only [List.length_set]; omega)))) <|r0' J J J J (st0 (d_mv J J)) <|r0' J J J J (st0 (d_mv J J)) <|r0' J J J J (st0 (d_ixa (ii := 2) J J J J rd_slp uT23 zT28 J (by first | omega | (simp only [List.length_set]; omega)))) <|r0' J J J J (st0 (d_lde (ii := 2) (false, ⟨#[]⟩) J J J rd_slp pW (by first | omega | (simp only [List.length_set]; omega)))) <|r0' J J J J (st0 (d_eqg J J J eg28 (fun w => neq28 w _ _ _ _))) <|r_end <|x_then <|e_condb J (fun h82 => ?_) (fun h82 => ?_)
   ·exact e_seq <|e_reg <|as_ J J <|l_nil <|x_then <|e_ret <|x_br <|x_ret <|x_ret <|x_br <|x_ret <|x_end (.inl J) hsc () _ (fun a w hs => res1 hs Tryz.results24 J) (by rw [decide_eq_false (fun e => by rw [e] at h82; simp [eqW_refl] at h82)]) trivial J give_nil
   ·exact e_skip <|x_bn <|x_then <|e_reg <|mv J J <|dt (d_add J J J ⟨by omega, by omega⟩) J <|as_ J J <|l_nil <|x_rnd (k + 1) ⟨by first | omega | (dsimp only <;> omega), by rw [take_snoc (false, ⟨#[]⟩) _ _ (by omega), take_snoc (false, ⟨#[]⟩) _ _ (by omega), ht, eqW_pair (x := r.getD k (false, ⟨#[]⟩)) (y := t.getD k (false, ⟨#[]⟩)) (by simpa using h82)]⟩ (by first | omega | (dsimp only <;> omega)) ⟨J, J, J, trivial⟩ ⟨J, J, J, trivial⟩
  ·exact e_exit <|x_exit <|x_exit <|x_be <|x_then <|e_seq <|e_reg <|as_ J J <|l_nil <|x_then <|e_ret <|x_end (.inl J) hsc () _ (fun a w hs => res1 hs Tryz.results24 J) (by rw [decide_eq_true (by rw [show k = r.length by omega, List.take_length, hle, List.take_length] at ht; exact ht)]) trivial J give_nil
theorem r_same_ii (v u : Value) (xs ys : List Int) : Cal Tryz.prog 24 #[v, u] [slp 2 wv v xs, slp 2 wv u ys] false (G := Unit) (fun _ => True) (fun _ => .bool (decide (xs = ys))) (fun _ => []) := by
 have h := ((r_same v u (xs.map wr) (ys.map wr)).imp (slp_wr v xs) (fun _ h => h)).imp2 (slp_wr u ys) (fun _ h => h)
 rw [decide_eq_decide.2 (map_wr_iff xs ys)] at h; exact h
end Go.Sky

