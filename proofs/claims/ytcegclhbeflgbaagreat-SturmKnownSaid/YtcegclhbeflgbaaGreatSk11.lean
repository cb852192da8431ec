/- rules, arithmetic and contracts: part 12
   Proved without conditions of its own: each theorem bears its own. -/
import Derived.Test.YtcegclhbeflgbaaGreatSk02
import Derived.Test.YtcegclhbeflgbaaGreatSk01
import Derived.Test.YtcegclhbeflgbaaGreatSk03
import Derived.Test.YtcegclhbeflgbaaGreatSk10
import Derived.Test.YtcegclhbeflgbaaGreatSk04
set_option linter.all false
namespace Go.Sky
open Go.Proofs
set_option maxRecDepth 20000
set_option maxHeartbeats 4000000
set_option linter.unusedVariables false
set_option linter.unusedSimpArgs false
theorem st_split_step (bh bo bl bs : Nat) (vl : Value) (ls : List (SL × List Int)) (hv : Int) (hvz : ∀ z ∈ ls, Vp z.2) (hll : ls.length ≤ 1000) (f : Nat) (ih : ∀ (vo : Value) (os : List (R2 × R2)) (a b : R2) (fr to : Int) (d : Nat) (ha : okQ a) (hb : okQ b) (hfr : -100000 ≤ fr ∧ fr ≤ 100000) (hto : -100000 ≤ to ∧ to ≤ 100000) (hok : ispOK (cvx ls) (evok ls) hv f a b fr to d) (hln : os.length + (isp (cvx ls) hv f a b fr to d).length ≤ 1000000), CalP Tryz.prog 85 #[iq (a, b), .int .i64 fr, .int .i64 to, .int .i64 (d : Int), .pointer (some ⟨bh, 0, none⟩), .pointer (some ⟨bo, 0, none⟩), .pointer (some ⟨bl, 0, none⟩), .pointer (some ⟨bs, 0, none⟩)] [rbox bh 3 #[.int .i64 hv], rbox bl 44 #[vl], deep 1 encS qZ vl ls, rbox bs 113 #[.func (.func 85) #[] #[.pointer (some ⟨bh, 0, none⟩), .pointer (some ⟨bo, 0, none⟩), .pointer (some ⟨bl, 0, none⟩), .pointer (some ⟨bs, 0, none⟩)]]] (gb bo 69 8 79 iq vo os) (G := Value) (fun _ => True) (fun _ => .int .i64 0) (fun g => gb bo 69 8 79 iq g (os ++ isp (cvx ls) hv f a b fr to d))) (vo : Value) (os : List (R2 × R2)) (a b : R2) (fr to : Int) (d : Nat) (ha : okQ a) (hb : okQ b) (hfr : -100000 ≤ fr ∧ fr ≤ 100000) (hto : -100000 ≤ to ∧ to ≤ 100000) (hok : ispOK (cvx ls) (evok ls) hv (f + 1) a b fr to d) (hln : os.length + (isp (cvx ls) hv (f + 1) a b fr to d).length ≤ 1000000) : CalP Tryz.prog 85 #[iq (a, b), .int .i64 fr, .int .i64 to, .int .i64 (d : Int), .pointer (some ⟨bh, 0, none⟩), .pointer (some ⟨bo, 0, none⟩), .pointer (some ⟨bl, 0, none⟩), .pointer (some ⟨bs, 0, none⟩)] [rbox bh 3 #[.int .i64 hv], rbox bl 44 #[vl], deep 1 encS qZ vl ls, rbox bs 113 #[.func (.func 85) #[] #[.pointer (some ⟨bh, 0, none⟩), .pointer (some ⟨bo, 0, none⟩), .pointer (some ⟨bl, 0, none⟩), .pointer (some ⟨bs, 0, none⟩)]]] (gb bo 69 8 79 iq vo os) (G := Value) (fun _ => True) (fun _ => .int .i64 0) (fun g => gb bo 69 8 79 iq g (os ++ (isp (cvx ls) hv (f + 1) a b fr to d))) := by
 refine calp_in Tryz.func85 J Tryz.ntmps85 J ⟨J, J, J, J, trivial⟩ ?_
 intro w0 sc hw hsc
 simp only [enumEnv, enumPre]
 obtain ⟨ha1, ha2, ha3⟩ := ha
 obtain ⟨hb1, hb2, hb3⟩ := hb
 have hcm := chg_range (sgx ls (fat (smid a b).1 (smid a b).2))
 rw [length_sgx] at hcm
 have hcv : cvx ls (smid a b) = chg (sgx ls (fat (smid a b).1 (smid a b).2)) := rfl
 refine e_imp (s_gsplit 1 60 J J J) <|e_imp (s_nil 999 2 28 wv) <|e_imp (s_pub 999 J J pV) <|e_seq <|e_reg <|tt (t_box (i := 6) J J J J J J hw) J fun bx _ => as_ J J <|l_nil <|x_then <|e_seq <|e_block <|e_seq <|e_reg <|mv J J <|mv J J <|dt (d_eql J J J) J <|as_ J J <|l_nil <|x_then <|e_cond J (fun h231 => ?_) (fun h231 => ?_)
 ·have hI : (isp (cvx ls) hv (f + 1) a b fr to d) = [] := by unfold isp; rw [if_pos h231]
  exact e_seq <|e_reg <|as_ J J <|l_nil <|x_then <|e_ret <|x_br <|x_ret <|x_imp (s_gjoin 1 60 J J J J J) <|x_endp (.inl J) hsc vo _ (fun a w hs => res1 hs Tryz.results85 J) J trivial 1 (by rw [hI, List.append_nil] <;> rfl) J J J (pre_same 2 J J J (pre_same 3 J J J (pre_same 4 J J J (pre_same 5 J J J pre_nil))))
 ·have hne : ¬ fr = to := h231
  refine e_jn [(1, _), (2, _), (3, _), (5, _), (6, _), (7, _), (8, _)] [(0, _), (2, _), (3, _), (4, _), (5, _), (1, _), (60, _), (999, _), (6, _)] (fun (_j : Unit) => [(21, .bool (decide (fr - to = 1 ∧ hv ≤ (d : Int))))]) (fun (_j : Unit) => []) (fun (_j : Unit) => True) ⟨J, J, J, J, J, J, J, trivial⟩ ⟨J, J, J, J, J, J, J, J, J, trivial⟩ ?_ ?_
  ·refine e_reg <|mv J J <|mv J J <|dt (d_sub J J J ⟨by omega, by omega⟩) J <|dt (d_eql J J J) J <|mv J J <|l_split (d := 26) J (fun s233 => ?_) (fun s233 => ?_)
   ·exact gdt (d_mv J J) J J J J <|gdt (d_lr (i := 2) J J J iA3 J) J J J J <|gdt (d_geq J J J) J J J J <|dt (d_pickt J J J) J <|as_ J J <|l_nil <|x_jn () trivial ⟨by first | exact congrArg (fun z => some (Value.bool z)) (decide_eq_decide.2 (by omega)) | exact congrArg (fun z => some (Value.bool z)) (decide_eq_false (by omega)).symm, rfl, rfl, rfl, rfl, rfl, rfl, rfl, trivial⟩ ⟨J, J, J, J, J, J, J, J, J, trivial⟩
   ·exact gsk J J J J J <|gsk J J J J J <|gsk J J J J J <|dt (d_pickf J J J) J <|as_ J J <|l_nil <|x_jn () trivial ⟨by first | exact congrArg (fun z => some (Value.bool z)) (decide_eq_decide.2 (by omega)) | exact congrArg (fun z => some (Value.bool z)) (decide_eq_false (by omega)).symm, rfl, rfl, rfl, rfl, rfl, rfl, rfl, trivial⟩ ⟨J, J, J, J, J, J, J, J, J, trivial⟩
  ·rintro _j -
   simp only [List.cons_append, List.nil_append]
   refine e_cond J (fun h233 => ?_) (fun h233 => ?_)
   ·have hI : (isp (cvx ls) hv (f + 1) a b fr to d) = [(a, b)] := by unfold isp; rw [if_neg hne, if_pos h233]
    rw [hI] at hln
    simp only [List.length_singleton] at hln
    exact e_seq <|e_reg <|dt (d_lb (i := 1) J J J iA69 J) J <|dt (d_lb8 (i := 6) J J J iA79 zT79 J J J J J J J J) J <|tt (t_bsg (i := 7) (ivs := [(0, _)]) (enc := iq) [(a, b)] J J J ⟨J, J, trivial⟩ uT69 Tryz.ti79 J J J (fill18 _ _ _ _ _ _ _ _ _ _ _ _ _ _ _ _) J J pY.cells J J hw) J fun v _ => tt (t_appa (i := 60) (j := 7) (by_ := 96) J J J J J J (by decide) J (rd_osl pY) uT69 Tryz.ti79 J pY J J J (by simp; omega) (by decide) J hw) J fun v_2 _ => tt (t_st1 (i := 1) J J J J J (by decide) zT69 (one_rd (i := 60) J (rd_osl pY)) J hw trivial) J fun _ _ => l_nil <|x_then <|e_seq <|e_reg <|as_ J J <|l_nil <|x_then <|e_ret <|x_br <|x_ret <|x_imp (s_gjoin 1 60 J J J J J) <|x_endp (.inl J) hsc v_2 _ (fun a w hs => res1 hs Tryz.results85 J) J trivial 1 (by rw [hI] <;> rfl) J J J (pre_same 2 J J J (pre_same 3 J J J (pre_same 4 J J J (pre_same 5 J J J pre_nil))))
   ·have hnl : ¬ (fr - to = 1 ∧ hv ≤ (d : Int)) := h233
    obtain ⟨hdl, hmid, hev, hk1, hk2⟩ : d < 1000 ∧ midOK a b ∧ evok ls (smid a b) ∧ ispOK (cvx ls) (evok ls) hv f a (smid a b) fr (cvx ls (smid a b)) (d + 1) ∧ ispOK (cvx ls) (evok ls) hv f (smid a b) b (cvx ls (smid a b)) to (d + 1) := by
     rcases hok with h | h | h
     ·exact absurd h hne
     ·exact absurd h hnl
     ·exact h
    have hI : (isp (cvx ls) hv (f + 1) a b fr to d) = isp (cvx ls) hv f a (smid a b) fr (cvx ls (smid a b)) (d + 1) ++ isp (cvx ls) hv f (smid a b) b (cvx ls (smid a b)) to (d + 1) := by
     conv => lhs; unfold isp
     rw [if_neg hne, if_neg hnl]
    rw [hI, List.length_append] at hln
    obtain ⟨hm1, hm2⟩ := midOK_bl hmid
    have hm3 := midOK_pos hmid ha3 hb3
    have hme := midOK_err hmid
    have hcr : -100000 ≤ cvx ls (smid a b) ∧ cvx ls (smid a b) ≤ 100000 := by rw [hcv]; omega
    refine e_seq <|e_reg <|mv J J <|dt (d_geq J J J) J <|as_ J J <|l_nil <|x_then <|e_cond J (fun h236 => ?_) (fun h236 => ?_)
    ·exfalso; omega
    ·refine e_skip <|x_bn <|x_then <|e_seq <|e_reg <|dt (d_fa J J uT79 J zT49 J J) J <|dt (d_lb4 (i := 6) J J J iA49 zT49 J J J J) J <|dt (d_fa J J uT79 J zT49 J J) J <|dt (d_lb4 (i := 6) J J J iA49 zT49 J J J J) J <|tt (t_call (n := 7) (st_middle _ _ _ _ ha1 ha2 hb1 hb2 ha3 hb3 hmid.1) J J J ⟨J, J, trivial⟩ cF86 pre_nil J hw) J fun _ _ => mv J J <|dt (d_ex J J J) J <|dt (d_ex J J J) J <|tt (t_alloc (i := 8) J J J Tryz.zeroValue49 J J hw) J fun bx_2 _ => tt (t_stw (i := 8) J J J J J (by decide) J zT49 J J ⟨(one_rfl J), (one_rfl J), (one_rfl J), (one_rfl J), trivial⟩ J hw trivial) J fun _ _ => as_ J J <|l_nil <|x_then <|e_seq <|e_seq <|e_reg <|mv J J <|dt (det_is (r' := .bool false) (d_neq J J J) (congrArg Value.bool (by rw [hme]; rfl))) J <|l_nil <|x_then <|e_condf J <|e_skip <|x_then <|e_seq <|e_reg <|dt (d_lr (i := 3) J J J iA44 J) J <|dt (d_lb4 (i := 8) J J J iA49 zT49 J J J J) J <|tt (t_call (n := 8) (st_at _ _ _ _ hm1 hm2 hm3 hvz hev) J J J ⟨J, J, trivial⟩ cF77 (pre_same 4 J J J pre_nil) J hw) J fun _ _ => mv J J <|dt (d_ex J J J) J <|dt (d_ex J J J) J <|as_ J J <|as_ J J <|l_nil <|x_then <|e_seq <|e_seq <|e_reg <|mv J J <|dt (det_is (r' := .bool false) (d_neq J J J) (congrArg Value.bool (by decide))) J <|l_nil <|x_then <|e_condf J <|e_skip <|x_then <|e_seq <|e_seq <|e_reg <|dt (d_lr (i := 5) J J J iA113 J) J <|dt (d_fa J J uT79 J zT49 J J) J ?_
     refine dt (d_lb4 (i := 6) J J J iA49 zT49 J J J J) J <|dt (d_lb4 (i := 8) J J J iA49 zT49 J J J J) J <|dt (d_bld (ivs := [(0, _), (1, _)]) J ⟨J, J, J, J, trivial⟩ (fun a w hs => b79_01)) J <|mv J J <|mv J J <|mv J J <|dt (d_add J J J ⟨by omega, by omega⟩) J <|l_imp (s_gjoin 1 60 J J J J J) <|tt (t_callp (i := 1) (fs := []) (vs := [_, _, _, _]) (us := [_, _, _, _]) (ih _ _ a (smid a b) fr (cvx ls (smid a b)) (d + 1) ⟨ha1, ha2, ha3⟩ ⟨hm1, hm2, hm3⟩ hfr hcr hk1 (by omega)) J J J J ⟨J, J, J, J, trivial⟩ cF85 J J (by decide) (pre_same 2 J J J (pre_same 3 J J J (pre_same 4 J J J (pre_same 5 J J J pre_nil)))) J hw (fun _ _ => trivial)) J fun vg _ => l_imp (s_gsplit 1 60 J J J) <|as_ J J <|l_nil <|x_then <|e_seq <|e_reg <|mv J J <|dt (det_is (r' := .bool false) (d_neq J J J) (congrArg Value.bool (by decide))) J <|l_nil <|x_then <|e_condf J <|e_skip <|x_then <|e_seq <|e_reg <|dt (d_lr (i := 5) J J J iA113 J) J <|dt (d_lb4 (i := 8) J J J iA49 zT49 J J J J) J <|dt (d_fa J J uT79 J zT49 J J) J <|dt (d_lb4 (i := 6) J J J iA49 zT49 J J J J) J <|dt (d_bld (ivs := [(0, _), (1, _)]) J ⟨J, J, J, J, trivial⟩ (fun a w hs => b79_01)) J <|mv J J <|mv J J <|mv J J <|dt (d_add J J J ⟨by omega, by omega⟩) J <|l_imp (s_gjoin 1 60 J J J J J) ?_
     exact tt (t_callp (i := 1) (fs := []) (vs := [_, _, _, _]) (us := [_, _, _, _]) (ih _ _ (smid a b) b (cvx ls (smid a b)) to (d + 1) ⟨hm1, hm2, hm3⟩ ⟨hb1, hb2, hb3⟩ hcr hto hk2 (by rw [List.length_append]; omega)) J J J J ⟨J, J, J, J, trivial⟩ cF85 J J (by decide) (pre_same 2 J J J (pre_same 3 J J J (pre_same 4 J J J (pre_same 5 J J J pre_nil)))) J hw (fun _ _ => trivial)) J fun vg_2 _ => l_imp (s_gsplit 1 60 J J J) <|as_ J J <|l_nil <|x_then <|e_ret <|x_imp (s_gjoin 1 60 J J J J J) <|x_endp (.inl J) hsc vg_2 _ (fun a w hs => res1 hs Tryz.results85 J) J trivial 1 (by rw [hI, ← List.append_assoc] <;> rfl) J J J (pre_same 2 J J J (pre_same 3 J J J (pre_same 4 J J J (pre_same 5 J J J pre_nil))))
end Go.Sky
namespace Go.Sky
open Go.Proofs
set_option linter.unusedVariables false
theorem st_split (bh bo bl bs : Nat) (vl : Value) (ls : List (SL × List Int)) (hv : Int) (hvz : ∀ z ∈ ls, Vp z.2) (hll : ls.length ≤ 1000) : ∀ (f : Nat) (vo : Value) (os : List (R2 × R2)) (a b : R2) (fr to : Int) (d : Nat) (ha : okQ a) (hb : okQ b) (hfr : -100000 ≤ fr ∧ fr ≤ 100000) (hto : -100000 ≤ to ∧ to ≤ 100000) (hok : ispOK (cvx ls) (evok ls) hv f a b fr to d) (hln : os.length + (isp (cvx ls) hv f a b fr to d).length ≤ 1000000), CalP Tryz.prog 85 #[iq (a, b), .int .i64 fr, .int .i64 to, .int .i64 (d : Int), .pointer (some ⟨bh, 0, none⟩), .pointer (some ⟨bo, 0, none⟩), .pointer (some ⟨bl, 0, none⟩), .pointer (some ⟨bs, 0, none⟩)] [rbox bh 3 #[.int .i64 hv], rbox bl 44 #[vl], deep 1 encS qZ vl ls, rbox bs 113 #[.func (.func 85) #[] #[.pointer (some ⟨bh, 0, none⟩), .pointer (some ⟨bo, 0, none⟩), .pointer (some ⟨bl, 0, none⟩), .pointer (some ⟨bs, 0, none⟩)]]] (gb bo 69 8 79 iq vo os) (G := Value) (fun _ => True) (fun _ => .int .i64 0) (fun g => gb bo 69 8 79 iq g (os ++ (isp (cvx ls) hv f a b fr to d)))
 | 0, vo, os, a, b, fr, to, d, ha, hb, hfr, hto, hok, hln => hok.elim
 | f + 1, vo, os, a, b, fr, to, d, ha, hb, hfr, hto, hok, hln => st_split_step bh bo bl bs vl ls hv hvz hll f (st_split bh bo bl bs vl ls hv hvz hll f) vo os a b fr to d ha hb hfr hto hok hln
end Go.Sky
namespace Go.Sky
open Go.Proofs
set_option maxRecDepth 20000
set_option maxHeartbeats 4000000
set_option linter.unusedVariables false
set_option linter.unusedSimpArgs false
theorem st_isolate (v : Value) (xs : List Int) (hv : Vp xs) (a b : R2) (hq : Int) (ha : okQ a) (hb : okQ b) (hh : 0 ≤ hq ∧ hq ≤ 200) (hk : chk2r xs a.1 a.2 b.1 b.2 = 0) (F : Nat) (hF : F ≤ 900) (f : Nat) (hI : isOK F xs f a b hq) : Cal Tryz.prog 35 #[v, .agg #[.bool (decide (a.1 < 0)), .string (bstr a.1.natAbs), .bool (decide (a.2 < 0)), .string (bstr a.2.natAbs)], .agg #[.bool (decide (b.1 < 0)), .string (bstr b.1.natAbs), .bool (decide (b.2 < 0)), .string (bstr b.2.natAbs)], .int .i64 hq] [slp 2 wv v xs] true (G := Value) (fun r => True) (fun r => .tuple #[r, .int .i64 0]) (fun r => [slp 8 iq r (sisol F xs f a b hq)]) := by
 refine cal_in Tryz.func35 J Tryz.ntmps35 J ⟨J, trivial⟩ ?_
 intro w0 sc hw hsc
 simp only [enumEnv, enumPre]
 obtain ⟨h0, hf⟩ := chk2_fits hk
 obtain ⟨hC, hE1, hE2, hR1, hR2, hI1, hI2⟩ := hI
 obtain ⟨hr11, hr12, hr13⟩ := nr_num hR1
 obtain ⟨hr21, hr22, hr23⟩ := nr_num hR2
 have hsl1 := slow_ok ha hR1
 have hsl2 := slow_ok hb hR2
 obtain ⟨ha1, ha2, ha3⟩ := ha
 obtain ⟨hb1, hb2, hb3⟩ := hb
 have hll := length_schain F (sqf F xs) (pprim (pder (sqf F xs)))
 have hcr1 := chg_range ((chn F xs).map (fat a.1 a.2))
 have hcr2 := chg_range ((chn F xs).map (fat b.1 b.2))
 rw [List.length_map] at hcr1 hcr2
 have hll2 : (chn F xs).length ≤ F + 1 := hll
 refine e_imp (s_nil 999 2 28 wv) <|e_imp (s_pub 999 J J pV) <|e_seq <|e_reg <|tt (t_box (i := 2) J J J J J J hw) J fun bx _ => tt (t_box (i := 3) J J J J J J hw) J fun bx_2 _ => tt (t_box (i := 4) J J J J J J hw) J fun bx_3 _ => as_ J J <|as_ J J <|l_nil <|x_then <|e_seq <|e_seq <|e_reg <|dt (d_lb (i := 4) J J J iA3 J) J <|dt (det_is (r' := .bool false) (d_lss J J J) (congrArg Value.bool (decide_eq_false (by omega)))) J <|mv J J <|gdt (d_lb (i := 4) J J J iA3 J) J J J J <|gdt (det_is (r' := .bool false) (d_gtr J J J) (congrArg Value.bool (decide_eq_false (by omega)))) J J J J <|dt (d_pickf J J J) J <|l_nil <|x_then <|e_condf J <|e_skip <|x_then <|e_seq <|e_seq <|e_reg <|mv J J <|dt (d_lb4 (i := 2) J J J iA49 zT49 J J J J) J <|dt (d_lb4 (i := 3) J J J iA49 zT49 J J J J) J <|tt (t_bsg (i := 5) (ivs := [(0, _), (1, _)]) (enc := rq) [(a.1, a.2), (b.1, b.2)] J J J ⟨J, J, J, J, trivial⟩ uT87 Tryz.ti49 J J J (fill24 _ _ _ _ _ _ _ _ _ _ _ _) J J pQ.cells J J hw) J fun v _ => tt (t_call (n := 5) (st_check2 _ _ hv _ _ _ _ _ ha1 ha2 hb1 hb2 ha3 hb3) J J J ⟨J, J, trivial⟩ cF51 (pre_same 1 J J J (pre_lend 5 J J pQ pre_nil)) J hw) J fun _ _ => as_ J J <|l_nil <|x_then <|e_seq <|e_reg <|mv J J <|dt (det_is (r' := .bool false) (d_neq J J J) (congrArg Value.bool (by rw [hk]; rfl))) J <|l_nil <|x_then <|e_condf J <|e_skip <|x_then <|e_seq <|e_reg <|mv J J ?_
 refine tt (t_call (n := 6) (st_chain _ _ hv h0 hf F hC) J J J ⟨J, trivial⟩ cF20 (pre_same 1 J J J pre_nil) J hw) J (fun g hg => ?_)
 have hgc := hg
 have hvz := mem_snd hgc (vp_chn hv h0 hC)
 have hcq := cvx_eq hgc
 have hlz : g.2.length ≤ 1000 := by have := congrArg List.length hgc; rw [List.length_map] at this; omega
 have hcv1 : -100000 ≤ cvx g.2 a ∧ cvx g.2 a ≤ 100000 := by rw [hcq]; unfold cvc cnt; omega
 have hcv2 : -100000 ≤ cvx g.2 b ∧ cvx g.2 b ≤ 100000 := by rw [hcq]; unfold cvc cnt; omega
 have hok : ispOK (cvx g.2) (evok g.2) hq f (slow a) (slow b) (cvx g.2 a) (cvx g.2 b) 0 := by rw [hcq, evok_eq hgc]; exact hI1
 have hln : ([] : List (R2 × R2)).length + (isp (cvx g.2) hq f (slow a) (slow b) (cvx g.2 a) (cvx g.2 b) 0).length ≤ 1000000 := by rw [hcq, List.length_nil, Nat.zero_add]; exact hI2
 refine mv J J <|dt (d_ex J J J) J <|dt (d_ex J J J) J <|tt (t_alloc (i := 7) J J J Tryz.zeroValue44 J J hw) J fun bx_4 _ => tt (t_st1 (i := 7) J J J J J (by decide) zT44 (one_rd (i := 6) J rd_deep) J hw trivial) J fun _ _ => as_ J J <|l_nil <|x_then <|e_seq <|e_seq <|e_reg <|mv J J <|dt (det_is (r' := .bool false) (d_neq J J J) (congrArg Value.bool (by decide))) J <|l_nil <|x_then <|e_condf J <|e_skip <|x_then <|e_seq <|e_reg <|tt (t_alloc (i := 8) J J J Tryz.zeroValue69 J J hw) J fun bx_5 _ => l_nil <|x_then <|e_seq <|e_reg <|tt (t_alloc (i := 9) J J J Tryz.zeroValue113 J J hw) J fun bx_6 _ => l_nil <|x_then <|e_seq <|e_reg <|dt (d_mkc (vs := []) (us := [_, _, _, _]) J trivial ⟨J, J, J, J, trivial⟩) J <|tt (t_stw (i := 9) J J J J J (by decide) J zT113 J J ⟨(one_rfl J), trivial⟩ J hw trivial) J fun _ _ => l_nil <|x_then <|e_seq <|e_reg <|dt (d_fa J J uT49 J zT28 J J) J <|dt (d_lb2 (i := 2) J J J iA28 zT28 J J) J <|dt (d_fa J J uT49 J zT28 J J) J <|dt (d_lb2 (i := 2) J J J iA28 zT28 J J) J <|tt (t_call (n := 9) (wide_ratio _ _ ha1 ha2 (by omega)) J J J ⟨J, J, trivial⟩ cF87 pre_nil J hw) J fun _ _ => mv J J <|dt (d_ex J J J) J <|dt (d_ex J J J) J <|tt (t_alloc (i := 10) J J J Tryz.zeroValue49 J J hw) J fun bx_7 _ => tt (t_stw (i := 10) J J J J J (by decide) J zT49 J J ⟨(one_rfl J), (one_rfl J), (one_rfl J), (one_rfl J), trivial⟩ J hw trivial) J fun _ _ => as_ J J <|l_nil ?_
 refine x_then <|e_seq <|e_seq <|e_reg <|mv J J <|dt (det_is (r' := .bool false) (d_neq J J J) (congrArg Value.bool (by rw [hr13]; rfl))) J <|l_nil <|x_then <|e_condf J <|e_skip <|x_then <|e_seq <|e_reg <|dt (d_fa J J uT49 J zT28 J J) J <|dt (d_lb2 (i := 3) J J J iA28 zT28 J J) J <|dt (d_fa J J uT49 J zT28 J J) J <|dt (d_lb2 (i := 3) J J J iA28 zT28 J J) J <|tt (t_call (n := 10) (wide_ratio _ _ hb1 hb2 (by omega)) J J J ⟨J, J, trivial⟩ cF87 pre_nil J hw) J fun _ _ => mv J J <|dt (d_ex J J J) J <|dt (d_ex J J J) J <|tt (t_alloc (i := 11) J J J Tryz.zeroValue49 J J hw) J fun bx_8 _ => tt (t_stw (i := 11) J J J J J (by decide) J zT49 J J ⟨(one_rfl J), (one_rfl J), (one_rfl J), (one_rfl J), trivial⟩ J hw trivial) J fun _ _ => as_ J J <|l_nil <|x_then <|e_seq <|e_seq <|e_reg <|mv J J <|dt (det_is (r' := .bool false) (d_neq J J J) (congrArg Value.bool (by rw [hr23]; rfl))) J <|l_nil <|x_then <|e_condf J <|e_skip <|x_then <|e_seq <|e_reg <|dt (d_lb (i := 7) J J J iA44 J) J <|dt (d_lb4 (i := 2) J J J iA49 zT49 J J J J) J <|tt (t_call (n := 11) (st_at _ _ _ _ ha1 ha2 ha3 hvz (by rw [← evok_eq hgc] at hE1; exact hE1)) J J J ⟨J, J, trivial⟩ cF77 (pre_same 6 J J J pre_nil) J hw) J fun _ _ => mv J J <|dt (d_ex J J J) J <|dt (d_ex J J J) J <|as_ J J <|as_ J J <|l_nil <|x_then <|e_seq <|e_seq <|e_reg <|mv J J ?_
 refine dt (det_is (r' := .bool false) (d_neq J J J) (congrArg Value.bool (by decide))) J <|l_nil <|x_then <|e_condf J <|e_skip <|x_then <|e_seq <|e_reg <|dt (d_lb (i := 7) J J J iA44 J) J <|dt (d_lb4 (i := 3) J J J iA49 zT49 J J J J) J <|tt (t_call (n := 11) (st_at _ _ _ _ hb1 hb2 hb3 hvz (by rw [← evok_eq hgc] at hE2; exact hE2)) J J J ⟨J, J, trivial⟩ cF77 (pre_same 6 J J J pre_nil) J hw) J fun _ _ => mv J J <|dt (d_ex J J J) J <|dt (d_ex J J J) J <|as_ J J <|as_ J J <|l_nil <|x_then <|e_seq <|e_seq <|e_reg <|mv J J <|dt (det_is (r' := .bool false) (d_neq J J J) (congrArg Value.bool (by decide))) J <|l_nil <|x_then <|e_condf J <|e_skip <|x_then <|e_seq <|e_seq <|e_reg <|dt (d_lb (i := 9) J J J iA113 J) J <|dt (d_lb4 (i := 10) J J J iA49 zT49 J J J J) J <|dt (d_lb4 (i := 11) J J J iA49 zT49 J J J J) J <|dt (d_bld (ivs := [(0, _), (1, _)]) J ⟨J, J, J, J, trivial⟩ (fun a w hs => b79_01)) J <|mv J J <|mv J J <|l_imp (s_nil 60 8 79 iq) <|l_imp (s_gjoin 8 60 J J J J J) <|tt (t_callp (i := 8) (fs := []) (vs := [_, _, _, _]) (us := [_, _, _, _]) (st_split _ _ _ _ _ _ hq hvz hlz f _ [] (slow a) (slow b) (cvx g.2 a) (cvx g.2 b) 0 hsl1 hsl2 hcv1 hcv2 hok hln) J J J J ⟨J, J, J, J, trivial⟩ cF85 J J (by decide) (pre_lendb 4 J J (pre_lendb 7 J J (pre_same 6 J J J (pre_lendb 9 J J pre_nil)))) J hw (fun _ _ => trivial)) J fun vg _ => l_imp (s_gsplit 8 60 J J J) <|as_ J J <|l_nil <|x_then ?_
 exact e_seq <|e_reg <|mv J J <|dt (det_is (r' := .bool false) (d_neq J J J) (congrArg Value.bool (by decide))) J <|l_nil <|x_then <|e_condf J <|e_skip <|x_then <|e_seq <|e_reg <|dt (d_lb (i := 8) J J J iA69 J) J <|as_ J J <|as_ J J <|l_nil <|x_then <|e_ret <|x_end (.inl J) hsc _ _ (fun a w hs => res2 hs Tryz.results35 J J) J trivial J (give_owne 60 J J pY (by rw [List.nil_append, hcq] <;> rfl) give_nil)
end Go.Sky
namespace Go.Sky
open Go.Proofs
set_option maxRecDepth 20000
set_option maxHeartbeats 4000000
set_option linter.unusedVariables false
set_option linter.unusedSimpArgs false
theorem law_w (x : Int) (hx : inI x) : Cal Tryz.prog 38 #[.int .i64 x] [] false (G := Unit) (fun _ => True) (fun _ => wv x) (fun _ => []) := by
 refine cal_in Tryz.func38 J Tryz.ntmps38 J trivial ?_
 intro w0 sc hw hsc
 simp only [enumEnv, enumPre]
 have hxa := hx.1
 have hxb := hx.2
 have hbx := inI_bl hx
 exact e_seq <|e_reg <|tt (t_alloc (i := 1) J J J Tryz.zeroValue28 J J hw) J fun b _ => l_nil <|x_then <|e_seq <|e_reg <|mv J J <|tt (t_call (n := 2) (r_num _ hx) J J J ⟨J, trivial⟩ cF43 pre_nil J hw) J fun v _ => tt (t_call (n := 2) (r_to _ _ (by omega)) J J J ⟨J, trivial⟩ cF17 (pre_same 2 J J J pre_nil) J hw) J fun _ _ => tt (t_stw (i := 1) J J J J J (by decide) J zT28 J J ⟨(one_rfl J), (one_rfl J), trivial⟩ J hw trivial) J fun _ _ => l_nil <|x_then <|e_ret <|x_end (.inl J) hsc () _ (fun a w hs => res1 hs Tryz.results38 (rv_cell (i := 1) J J iA28 zT28 J)) J trivial J give_nil
theorem law_p (v : Value) (l : List Int) (hl : ∀ x ∈ l, inI x) (hlen : l.length ≤ 1000) : Cal Tryz.prog 39 #[v] [slp 1 encZ v l] true (G := Value) (fun r => True) (fun r => r) (fun r => [slp 2 wv r (tzl l)]) := by
 refine cal_in Tryz.func39 J Tryz.ntmps39 J ⟨J, trivial⟩ ?_
 intro w0 sc hw hsc
 simp only [enumEnv, enumPre]
 have hsz := sz_ints hl
 exact e_seq <|e_reg <|as_ J J <|l_nil <|x_then <|e_seq <|e_reg <|mv J J <|tt (t_call (n := 2) (rp_nums _ _ hl hlen) J J J ⟨J, trivial⟩ cF33 (pre_same 1 J J J pre_nil) J hw) J fun g hg => tt (t_call (n := 3) (rp_to _ _ (by rw [hg]; exact (Sz.tzl hsz).mono (by omega)) (by have h7 := congrArg List.length hg; rw [length_ints] at h7; have h8 := tzl_le l; omega)) J J J ⟨J, trivial⟩ cF25 (pre_same 2 J J J pre_nil) J hw) J fun v _ => as_ J J <|l_nil <|x_then <|e_ret <|x_end (.inl J) hsc _ _ (fun a w hs => res1 hs Tryz.results39 J) J trivial J (give_samee 3 J J J (congrArg (slp 2 wv _) hg) give_nil)
theorem law_q (x y : Int) (hx : inI x) (hy : inI y) : Cal Tryz.prog 22 #[.int .i64 x, .int .i64 y] [] false (G := Unit) (fun _ => True) (fun _ => .agg #[.bool (decide (x < 0)), .string (bstr x.natAbs), .bool (decide (y < 0)), .string (bstr y.natAbs)]) (fun _ => []) := by
 refine cal_in Tryz.func22 J Tryz.ntmps22 J trivial ?_
 intro w0 sc hw hsc
 simp only [enumEnv, enumPre]
 exact e_seq <|e_reg <|tt (t_alloc (i := 1) J J J Tryz.zeroValue49 J J hw) J fun b _ => l_nil <|x_then <|e_seq <|e_reg <|mv J J <|tt (t_call (n := 1) (law_w _ hx) J J J ⟨J, trivial⟩ cF38 pre_nil J hw) J fun _ _ => mv J J <|tt (t_call (n := 1) (law_w _ hy) J J J ⟨J, trivial⟩ cF38 pre_nil J hw) J fun _ _ => dt (d_bld (ivs := [(0, _), (1, _)]) J ⟨J, J, J, J, trivial⟩ (fun a w hs => b49_01)) J <|tt (t_stw (i := 1) J J J J J (by decide) J zT49 J J ⟨(one_rfl J), (one_rfl J), (one_rfl J), (one_rfl J), trivial⟩ J hw trivial) J fun _ _ => l_nil <|x_then <|e_ret <|x_end (.inl J) hsc () _ (fun a w hs => res1 hs Tryz.results22 (rv_cell (i := 1) J J iA49 zT49 J)) J trivial J give_nil
theorem law_same3 (v u : Value) (zs : List (R2 × R2)) (l : List Int) (hl : ∀ x ∈ l, inI x) (h1 : 2 * zs.length = l.length) (hb : l.length ≤ 1000) (h2 : ∀ i, i < zs.length → zs.getD i ((0, 0), (0, 0)) = ((l.getD (2 * i) 0, 1), (l.getD (2 * i + 1) 0, 1))) : Cal Tryz.prog 50 #[v, u] [slp 8 iq v zs, slp 1 encZ u l] false (G := Unit) (fun _ => True) (fun _ => .bool true) (fun _ => []) := by
 refine cal_in Tryz.func50 J Tryz.ntmps50 J ⟨J, J, trivial⟩ ?_
 intro w0 sc hw hsc
 simp only [enumEnv, enumPre]
 refine e_imp (s_nil 999 2 28 wv) <|e_imp (s_pub 999 J J pV) <|e_seq <|e_reg <|as_ J J <|l_nil <|x_then <|e_seq <|e_seq <|e_reg <|mv J J <|dt (d_len J J (i := 1) J rd_slp uT69) J <|dt (d_mul J J J ⟨by omega, by omega⟩) J <|mv J J <|dt (d_len J J (i := 2) J rd_slp uT37) J <|dt (d_neq J J J) J <|l_nil <|x_then <|e_cond J (fun h19 => ?_) (fun h19 => ?_)
 ·exfalso; omega
 ·refine e_skip <|x_then <|e_seq <|e_seq <|e_reg <|mv J J <|dt (d_len J J (i := 1) J rd_slp uT69) J <|mv J J <|l_nil <|x_then <|e_block <|e_lp [(1, _), (13, _), (14, _)] [(0, _), (1, _), (2, _), (999, _)] (fun (i : Nat) => [(15, .int .i64 (i : Int))]) (fun (i : Nat) => []) (fun (i : Nat) => (i ≤ zs.length)) (fun (i : Nat) => zs.length - i) 0 (by first | omega | (dsimp only <;> omega)) ⟨J, J, J, J, trivial⟩ ⟨J, J, J, J, trivial⟩ ?_
  rintro i hi
  simp only [List.cons_append, List.nil_append]
  refine e_seq <|e_reg <|dt (d_lss J J J) J <|l_nil <|x_then <|e_seq <|e_cond J (fun h22 => ?_) (fun h22 => ?_)
  ·refine e_skip <|x_then <|e_seq <|e_block <|e_seq <|e_reg <|mv J J <|dt (d_ixa (ii := 1) J J J J rd_slp uT69 zT79 J (by first | omega | (simp only [List.length_set]; omega))) J <|dt (d_lde (ii := 1) ((0, 0), (0, 0)) J J J rd_slp pY (by first | omega | (simp only [List.length_set]; omega))) J <|tt (t_alloc (i := 3) J J J Tryz.zeroValue79 J J hw) J fun bx _ => as_ J J <|tt (t_stw (i := 3) J J J J J (by decide) J zT79 J J ⟨(one_rfl J), (one_rfl J), (one_rfl J), (one_rfl J), (one_rfl J), (one_rfl J), (one_rfl J), (one_rfl J), trivial⟩ J hw trivial) J fun _ _ => l_nil <|x_then <|e_seq <|e_dreg (fun _ => False) [(0, 0), (1, 0), (2, 0), (3, 0), (4, 0), (5, 0), (7, 0), (8, 0), (9, 0), (10, 0), (11, 0), (12, 0), (6, 1), (13, 1), (14, 0), (15, 0)] (by kernel_rfl) ?_ ?_
   ·kernel_rfl
   refine r0' J J J J (st0 (d_lb8 (i := 3) J J J iA79 zT79 J J J J J J J J)) <|r0' J J J J (st0 (d_mv J J)) <|r0' J J J J (st0 (d_mv J J)) <|r0' J J J J (st0 (d_mul J J J ⟨by omega, by omega⟩)) <|r0' J J J J (st0 (d_ixa (ii := 2) (i := (2 * i)) J J J J rd_slp uT37 zT3 (by omega) (by omega))) <|r0' J J J J (st0 (d_lde (ii := 2) 0 J J J rd_slp pZ (by first | omega | (simp only [List.length_set]; omega)))) <|r0' J J J J (st0 (d_mv J J)) <|r0' J J J J (st0 (d_mv J J)) <|r0' J J J J (st0 (d_mul J J J ⟨by omega, by omega⟩)) <|r0' J J J J (st0 (d_add J J J ⟨by omega, by omega⟩)) <|r0' J J J J (st0 (d_ixa (ii := 2) (i := (2 * i + 1)) J J J J rd_slp uT37 zT3 (by omega) (by omega))) <|r0' J J J J (st0 (d_lde (ii := 2) 0 J J J rd_slp pZ (by first | omega | (simp only [List.length_set]; omega)))) <|r1' J J (t_call (n := 3) (law_q _ _ (getD_inI hl _) ⟨by decide, by decide⟩) J J J ⟨J, J, trivial⟩ cF22 pre_nil J hw) fun _ _ => r1' J J (t_call (n := 3) (law_q _ _ (getD_inI hl _) ⟨by decide, by decide⟩) J J J ⟨J, J, trivial⟩ cF22 pre_nil J hw) fun _ _ => r0' J J J J (st0 (d_bld (ivs := [(0, _), (1, _)]) J ⟨J, J, J, J, trivial⟩ (fun a w hs => b79_01))) <|r0' J J J J (st0 (det_is (r' := .bool false) (d_eqg J J J eg79 (fun w => neq79 w _ _ _ _ _ _ _ _ _ _ _ _ _ _ _ _)) (congrArg Value.bool (by simp only [h2 i (by omega)]; simp [eqW_refl])))) <|r_end <|x_then <|e_condf J <|e_skip <|x_bn <|x_then ?_
   exact e_reg <|dt (d_add J J J ⟨by omega, by omega⟩) J <|mv J J <|l_nil <|x_rnd (i + 1) (by first | omega | (dsimp only <;> omega)) (by first | omega | (dsimp only <;> omega)) ⟨J, J, J, J, trivial⟩ ⟨J, J, J, J, trivial⟩
  ·exact e_exit <|x_exit <|x_exit <|x_be <|x_then <|e_seq <|e_reg <|as_ J J <|l_nil <|x_then <|e_ret <|x_end (.inl J) hsc () _ (fun a w hs => res1 hs Tryz.results50 J) J trivial J give_nil
end Go.Sky
namespace Go.Sky
open Go.Proofs
set_option linter.unusedVariables false
set_option maxRecDepth 20000
instance sqDec (F : Nat) (xs : List Int) : Decidable (sqOK F xs) := by unfold sqOK; infer_instance
instance cokDec : ∀ f a b, Decidable (cok f a b)
  | 0, _, b => inferInstanceAs (Decidable (b = []))
  | f + 1, a, b => @instDecidableOr _ _ _ (@instDecidableAnd _ _ _ (@instDecidableAnd _ _ _ (cokDec f b (snext a b))))
instance chDec (F : Nat) (xs : List Int) : Decidable (chOK F xs) := by unfold chOK; infer_instance
instance evDec (F : Nat) (xs : List Int) : DecidablePred (evc F xs) := fun m => by unfold evc; infer_instance
instance isDec (F : Nat) (xs : List Int) (f : Nat) (a b : R2) (hq : Int) : Decidable (isOK F xs f a b hq) := by unfold isOK; infer_instance
instance okQDec (a : R2) : Decidable (okQ a) := by unfold okQ; infer_instance
theorem k_sq1 (v : Value) : Cal Tryz.prog 19 #[v] [slp 2 wv v [1, 2, 1]] true (G := Value) (fun r => True) (fun r => .tuple #[r, .int .i64 0]) (fun r => [slp 2 wv r [1, 1]]) := by
  have h := st_sqf v [1, 2, 1] (vp_b (by decide +kernel)) (by decide +kernel) (by decide +kernel) 12 (by decide +kernel)
  rw [show sqf 12 [1, 2, 1] = [1, 1] by decide +kernel] at h
  exact h
theorem k_sq2 (v : Value) : Cal Tryz.prog 19 #[v] [slp 2 wv v [0, 0, -6]] true (G := Value) (fun r => True) (fun r => .tuple #[r, .int .i64 0]) (fun r => [slp 2 wv r [0, 1]]) := by
  have h := st_sqf v [0, 0, -6] (vp_b (by decide +kernel)) (by decide +kernel) (by decide +kernel) 12 (by decide +kernel)
  rw [show sqf 12 [0, 0, -6] = [0, 1] by decide +kernel] at h
  exact h
theorem k_sq3 (v : Value) : Cal Tryz.prog 19 #[v] [slp 2 wv v [5]] true (G := Value) (fun r => True) (fun r => .tuple #[r, .int .i64 0]) (fun r => [slp 2 wv r [1]]) := by
  have h := st_sqf v [5] (vp_b (by decide +kernel)) (by decide +kernel) (by decide +kernel) 12 (by decide +kernel)
  rw [show sqf 12 [5] = [1] by decide +kernel] at h
  exact h
theorem k_ch1 (v : Value) : Cal Tryz.prog 20 #[v] [slp 2 wv v [-2, 0, 1]] true (G := Value × List (SL × List Int)) (fun r => r.2.map Prod.snd = [[-2, 0, 1], [0, 1], [1]]) (fun r => .tuple #[r.1, .int .i64 0]) (fun r => [deep 1 encS qZ r.1 r.2]) := by
  have h := st_chain v [-2, 0, 1] (vp_b (by decide +kernel)) (by decide +kernel) (by decide +kernel) 12 (by decide +kernel)
  rw [show chn 12 [-2, 0, 1] = [[-2, 0, 1], [0, 1], [1]] by decide +kernel] at h
  exact h
theorem k_ch2 (v : Value) : Cal Tryz.prog 20 #[v] [slp 2 wv v [-4]] true (G := Value × List (SL × List Int)) (fun r => r.2.map Prod.snd = [[1]]) (fun r => .tuple #[r.1, .int .i64 0]) (fun r => [deep 1 encS qZ r.1 r.2]) := by
  have h := st_chain v [-4] (vp_b (by decide +kernel)) (by decide +kernel) (by decide +kernel) 12 (by decide +kernel)
  rw [show chn 12 [-4] = [[1]] by decide +kernel] at h
  exact h
theorem k_cnt1 (v : Value) : Cal Tryz.prog 28 #[v, .agg #[.bool (decide ((0 : Int) < 0)), .string (bstr (0 : Int).natAbs), .bool (decide ((1 : Int) < 0)), .string (bstr (1 : Int).natAbs)], .agg #[.bool (decide ((2 : Int) < 0)), .string (bstr (2 : Int).natAbs), .bool (decide ((1 : Int) < 0)), .string (bstr (1 : Int).natAbs)]] [slp 2 wv v [-2, 0, 1]] false (G := Unit) (fun _ => True) (fun _ => .tuple #[.int .i64 1, .int .i64 0]) (fun _ => []) := by
  have h := st_count v [-2, 0, 1] (vp_b (by decide +kernel)) 0 1 2 1 (by decide +kernel) (by decide +kernel) (by decide +kernel) (by decide +kernel) (by decide) (by decide) 12 (by decide) (by decide +kernel) (by decide +kernel) (by decide +kernel) (by decide +kernel)
  rw [show cnt 12 [-2, 0, 1] 0 1 - cnt 12 [-2, 0, 1] 2 1 = 1 by decide +kernel] at h
  exact h
theorem k_cnt2 (v : Value) : Cal Tryz.prog 28 #[v, .agg #[.bool (decide ((-2 : Int) < 0)), .string (bstr (-2 : Int).natAbs), .bool (decide ((1 : Int) < 0)), .string (bstr (1 : Int).natAbs)], .agg #[.bool (decide ((2 : Int) < 0)), .string (bstr (2 : Int).natAbs), .bool (decide ((1 : Int) < 0)), .string (bstr (1 : Int).natAbs)]] [slp 2 wv v [-2, 0, 1]] false (G := Unit) (fun _ => True) (fun _ => .tuple #[.int .i64 2, .int .i64 0]) (fun _ => []) := by
  have h := st_count v [-2, 0, 1] (vp_b (by decide +kernel)) (-2) 1 2 1 (by decide +kernel) (by decide +kernel) (by decide +kernel) (by decide +kernel) (by decide) (by decide) 12 (by decide) (by decide +kernel) (by decide +kernel) (by decide +kernel) (by decide +kernel)
  rw [show cnt 12 [-2, 0, 1] (-2) 1 - cnt 12 [-2, 0, 1] 2 1 = 2 by decide +kernel] at h
  exact h
theorem k_cnt3 (v : Value) : Cal Tryz.prog 28 #[v, .agg #[.bool (decide ((0 : Int) < 0)), .string (bstr (0 : Int).natAbs), .bool (decide ((1 : Int) < 0)), .string (bstr (1 : Int).natAbs)], .agg #[.bool (decide ((1 : Int) < 0)), .string (bstr (1 : Int).natAbs), .bool (decide ((1 : Int) < 0)), .string (bstr (1 : Int).natAbs)]] [slp 2 wv v [0, 1]] false (G := Unit) (fun _ => True) (fun _ => .tuple #[.int .i64 0, .int .i64 0]) (fun _ => []) := by
  have h := st_count v [0, 1] (vp_b (by decide +kernel)) 0 1 1 1 (by decide +kernel) (by decide +kernel) (by decide +kernel) (by decide +kernel) (by decide) (by decide) 12 (by decide) (by decide +kernel) (by decide +kernel) (by decide +kernel) (by decide +kernel)
  rw [show cnt 12 [0, 1] 0 1 - cnt 12 [0, 1] 1 1 = 0 by decide +kernel] at h
  exact h
theorem k_cnt4 (v : Value) : Cal Tryz.prog 28 #[v, .agg #[.bool (decide ((-1 : Int) < 0)), .string (bstr (-1 : Int).natAbs), .bool (decide ((1 : Int) < 0)), .string (bstr (1 : Int).natAbs)], .agg #[.bool (decide ((0 : Int) < 0)), .string (bstr (0 : Int).natAbs), .bool (decide ((1 : Int) < 0)), .string (bstr (1 : Int).natAbs)]] [slp 2 wv v [0, 1]] false (G := Unit) (fun _ => True) (fun _ => .tuple #[.int .i64 1, .int .i64 0]) (fun _ => []) := by
  have h := st_count v [0, 1] (vp_b (by decide +kernel)) (-1) 1 0 1 (by decide +kernel) (by decide +kernel) (by decide +kernel) (by decide +kernel) (by decide) (by decide) 12 (by decide) (by decide +kernel) (by decide +kernel) (by decide +kernel) (by decide +kernel)
  rw [show cnt 12 [0, 1] (-1) 1 - cnt 12 [0, 1] 0 1 = 1 by decide +kernel] at h
  exact h
theorem k_cne1 (v : Value) : Cal Tryz.prog 28 #[v, .agg #[.bool (decide ((0 : Int) < 0)), .string (bstr (0 : Int).natAbs), .bool (decide ((1 : Int) < 0)), .string (bstr (1 : Int).natAbs)], .agg #[.bool (decide ((1 : Int) < 0)), .string (bstr (1 : Int).natAbs), .bool (decide ((1 : Int) < 0)), .string (bstr (1 : Int).natAbs)]] [slp 2 wv v []] false (G := Unit) (fun _ => True) (fun _ => .tuple #[.int .i64 0, .int .i64 3]) (fun _ => []) := by
  have h := st_count_err v [] (vp_b (by decide +kernel)) 0 1 1 1 (by decide +kernel) (by decide +kernel) (by decide +kernel) (by decide +kernel) (by decide) (by decide) (by decide +kernel)
  rw [show chk2r [] 0 1 1 1 = 3 by decide +kernel] at h
  exact h
theorem k_cne2 (v : Value) : Cal Tryz.prog 28 #[v, .agg #[.bool (decide ((1 : Int) < 0)), .string (bstr (1 : Int).natAbs), .bool (decide ((1 : Int) < 0)), .string (bstr (1 : Int).natAbs)], .agg #[.bool (decide ((0 : Int) < 0)), .string (bstr (0 : Int).natAbs), .bool (decide ((1 : Int) < 0)), .string (bstr (1 : Int).natAbs)]] [slp 2 wv v [1, 1]] false (G := Unit) (fun _ => True) (fun _ => .tuple #[.int .i64 0, .int .i64 3]) (fun _ => []) := by
  have h := st_count_err v [1, 1] (vp_b (by decide +kernel)) 1 1 0 1 (by decide +kernel) (by decide +kernel) (by decide +kernel) (by decide +kernel) (by decide) (by decide) (by decide +kernel)
  rw [show chk2r [1, 1] 1 1 0 1 = 3 by decide +kernel] at h
  exact h
theorem k_tot1 (v : Value) : Cal Tryz.prog 29 #[v] [slp 2 wv v [1, 0, 1]] false (G := Unit) (fun _ => True) (fun _ => .tuple #[.int .i64 0, .int .i64 0]) (fun _ => []) := by
  have h := st_total v [1, 0, 1] (vp_b (by decide +kernel)) 12 (by decide) (by decide +kernel) (by decide +kernel) (by decide +kernel)
  rw [show sleft 12 [1, 0, 1] - sright 12 [1, 0, 1] = 0 by decide +kernel] at h
  exact h
theorem k_tot2 (v : Value) : Cal Tryz.prog 29 #[v] [slp 2 wv v [0, -1, 0, 1]] false (G := Unit) (fun _ => True) (fun _ => .tuple #[.int .i64 3, .int .i64 0]) (fun _ => []) := by
  have h := st_total v [0, -1, 0, 1] (vp_b (by decide +kernel)) 12 (by decide) (by decide +kernel) (by decide +kernel) (by decide +kernel)
  rw [show sleft 12 [0, -1, 0, 1] - sright 12 [0, -1, 0, 1] = 3 by decide +kernel] at h
  exact h
theorem k_bd1 (v : Value) : Cal Tryz.prog 12 #[v] [slp 2 wv v [-2, 0, 1]] false (G := Unit) (fun _ => True) (fun _ => .tuple #[wv 4, .int .i64 0]) (fun _ => []) := by
  have h := st_bound v [-2, 0, 1] (vp_b (by decide +kernel)) (by decide +kernel)
  rw [show sbound [-2, 0, 1] = 4 by decide +kernel] at h
  exact h
theorem k_bd2 (v : Value) : Cal Tryz.prog 12 #[v] [slp 2 wv v [3]] false (G := Unit) (fun _ => True) (fun _ => .tuple #[wv 2, .int .i64 0]) (fun _ => []) := by
  have h := st_bound v [3] (vp_b (by decide +kernel)) (by decide +kernel)
  rw [show sbound [3] = 2 by decide +kernel] at h
  exact h
theorem k_is1 (v : Value) : Cal Tryz.prog 35 #[v, .agg #[.bool (decide ((-2 : Int) < 0)), .string (bstr (-2 : Int).natAbs), .bool (decide ((1 : Int) < 0)), .string (bstr (1 : Int).natAbs)], .agg #[.bool (decide ((2 : Int) < 0)), .string (bstr (2 : Int).natAbs), .bool (decide ((1 : Int) < 0)), .string (bstr (1 : Int).natAbs)], .int .i64 2] [slp 2 wv v [-2, 0, 1]] true (G := Value) (fun r => True) (fun r => .tuple #[r, .int .i64 0]) (fun r => [slp 8 iq r [((-2, 1), (-1, 1)), ((1, 1), (2, 1))]]) := by
  have h := st_isolate v [-2, 0, 1] (vp_b (by decide +kernel)) ((-2 : Int), (1 : Int)) ((2 : Int), (1 : Int)) 2 (by decide +kernel) (by decide +kernel) (by decide) (by decide +kernel) 12 (by decide) 20 (by decide +kernel)
  rw [show sisol 12 [-2, 0, 1] 20 ((-2 : Int), (1 : Int)) ((2 : Int), (1 : Int)) 2 = [((-2, 1), (-1, 1)), ((1, 1), (2, 1))] by decide +kernel] at h
  exact h
theorem k_is2 (v : Value) : Cal Tryz.prog 35 #[v, .agg #[.bool (decide ((0 : Int) < 0)), .string (bstr (0 : Int).natAbs), .bool (decide ((1 : Int) < 0)), .string (bstr (1 : Int).natAbs)], .agg #[.bool (decide ((4 : Int) < 0)), .string (bstr (4 : Int).natAbs), .bool (decide ((1 : Int) < 0)), .string (bstr (1 : Int).natAbs)], .int .i64 0] [slp 2 wv v [1, -2, 1]] true (G := Value) (fun r => True) (fun r => .tuple #[r, .int .i64 0]) (fun r => [slp 8 iq r [((0, 1), (4, 1))]]) := by
  have h := st_isolate v [1, -2, 1] (vp_b (by decide +kernel)) ((0 : Int), (1 : Int)) ((4 : Int), (1 : Int)) 0 (by decide +kernel) (by decide +kernel) (by decide) (by decide +kernel) 12 (by decide) 20 (by decide +kernel)
  rw [show sisol 12 [1, -2, 1] 20 ((0 : Int), (1 : Int)) ((4 : Int), (1 : Int)) 0 = [((0, 1), (4, 1))] by decide +kernel] at h
  exact h
theorem k_p (v : Value) (l xs : List Int) (h1 : (l.all fun x => decide (-1000000 ≤ x) && decide (x ≤ 1000000)) = true) (h2 : l.length ≤ 1000) (hx : tzl l = xs) : Cal Tryz.prog 39 #[v] [slp 1 encZ v l] true (G := Value) (fun r => True) (fun r => r) (fun r => [slp 2 wv r xs]) := by
  subst hx; exact law_p v l (inI_all h1) h2
end Go.Sky
namespace Go.Sky
open Go.Proofs
set_option maxRecDepth 20000
set_option maxHeartbeats 4000000
set_option linter.unusedVariables false
set_option linter.unusedSimpArgs false
set_option maxHeartbeats 4000000 in
theorem law_known  : Cal Tryz.prog 11 #[] [] false (G := Unit) (fun _ => True) (fun _ => .bool true) (fun _ => []) := by
 refine cal_in Tryz.func11 J Tryz.ntmps11 J trivial ?_
 intro w0 sc hw hsc
 simp only [enumEnv, enumPre]
 refine e_imp (s_nil 999 2 28 wv) <|e_imp (s_pub 999 J J pV) <|e_seq <|e_reg <|as_ J J <|l_nil <|x_then <|e_seq <|e_reg <|tt (t_bsg (i := 1) (ivs := [(0, _), (1, _), (2, _)]) (enc := encZ) ([1, 2, 1] : List Int) J J J ⟨J, J, J, J, J, J, trivial⟩ uT37 Tryz.ti3 J J J J J J pZ.cells J J hw) J fun v _ => l_imp (s_pub 1 J J pZ) <|tt (t_call (n := 2) (k_p _ [1, 2, 1] [1, 2, 1] (by decide +kernel) (by decide) (by decide +kernel)) J J J ⟨J, trivial⟩ cF39 (pre_same 1 J J J pre_nil) J hw) J fun v_2 _ => tt (t_call (n := 3) (k_sq1 _) J J J ⟨J, trivial⟩ cF19 (pre_same 2 J J J pre_nil) J hw) J fun _ _ => mv J J <|dt (d_ex J J J) J <|dt (d_ex J J J) J <|as_ J J <|as_ J J <|l_nil <|x_then <|e_seq <|e_reg <|tt (t_bsg (i := 4) (ivs := [(0, _), (1, _), (2, _)]) (enc := encZ) ([0, 0, -6] : List Int) J J J ⟨J, J, J, J, J, J, trivial⟩ uT37 Tryz.ti3 J J J J J J pZ.cells J J hw) J fun v_3 _ => l_imp (s_pub 4 J J pZ) <|tt (t_call (n := 5) (k_p _ [0, 0, -6] [0, 0, -6] (by decide +kernel) (by decide) (by decide +kernel)) J J J ⟨J, trivial⟩ cF39 (pre_same 4 J J J pre_nil) J hw) J fun v_4 _ => tt (t_call (n := 6) (k_sq2 _) J J J ⟨J, trivial⟩ cF19 (pre_same 5 J J J pre_nil) J hw) J fun _ _ => mv J J <|dt (d_ex J J J) J <|dt (d_ex J J J) J <|as_ J J <|as_ J J <|l_nil <|x_then <|e_seq <|e_reg ?_
 refine tt (t_bsg (i := 7) (ivs := [(0, _)]) (enc := encZ) ([5] : List Int) J J J ⟨J, J, trivial⟩ uT37 Tryz.ti3 J J J J J J pZ.cells J J hw) J fun v_5 _ => l_imp (s_pub 7 J J pZ) <|tt (t_call (n := 8) (k_p _ [5] [5] (by decide +kernel) (by decide) (by decide +kernel)) J J J ⟨J, trivial⟩ cF39 (pre_same 7 J J J pre_nil) J hw) J fun v_6 _ => tt (t_call (n := 9) (k_sq3 _) J J J ⟨J, trivial⟩ cF19 (pre_same 8 J J J pre_nil) J hw) J fun _ _ => mv J J <|dt (d_ex J J J) J <|dt (d_ex J J J) J <|as_ J J <|as_ J J <|l_nil <|x_then <|e_seq <|e_seq <|e_reg <|mv J J <|tt (t_bsg (i := 10) (ivs := [(0, _), (1, _)]) (enc := encZ) ([1, 1] : List Int) J J J ⟨J, J, J, J, trivial⟩ uT37 Tryz.ti3 J J J J J J pZ.cells J J hw) J fun v_7 _ => l_imp (s_pub 10 J J pZ) <|tt (t_call (n := 11) (k_p _ [1, 1] [1, 1] (by decide +kernel) (by decide) (by decide +kernel)) J J J ⟨J, trivial⟩ cF39 (pre_same 10 J J J pre_nil) J hw) J fun v_8 _ => tt (t_call (n := 11) (r_same_ii _ _ _ _) J J J ⟨J, J, trivial⟩ cF24 (pre_same 3 J J J (pre_same 11 J J J pre_nil)) J hw) J fun _ _ => dt (det_is (r' := .bool false) (d_not J J) (congrArg Value.bool (by first | decide | (simp only [hk0, hk1, hk2, hk3]; decide)))) J <|mv J J <|gdt (d_mv J J) J J J J <|gdt (det_is (r' := .bool false) (d_neq J J J) (congrArg Value.bool (by first | decide | (simp only [hkl, hkm]; decide)))) J J J J <|dt (d_pickf J J J) J <|mv J J ?_
 refine gdt (d_mv J J) J J J J <|gtt (t_bsg (i := 12) (ivs := [(0, _), (1, _)]) (enc := encZ) ([0, 1] : List Int) J J J ⟨J, J, J, J, trivial⟩ uT37 Tryz.ti3 J J J J J J pZ.cells J J hw) J J J J fun v_9 _ => l_imp (s_pub 12 J J pZ) <|gtt (t_call (n := 13) (k_p _ [0, 1] [0, 1] (by decide +kernel) (by decide) (by decide +kernel)) J J J ⟨J, trivial⟩ cF39 (pre_same 12 J J J pre_nil) J hw) J J J J fun v_10 _ => gtt (t_call (n := 13) (r_same_ii _ _ _ _) J J J ⟨J, J, trivial⟩ cF24 (pre_same 6 J J J (pre_same 13 J J J pre_nil)) J hw) J J J J fun _ _ => gdt (det_is (r' := .bool false) (d_not J J) (congrArg Value.bool (by first | decide | (simp only [hk0, hk1, hk2, hk3]; decide)))) J J J J <|dt (d_pickf J J J) J <|mv J J <|gdt (d_mv J J) J J J J <|gdt (det_is (r' := .bool false) (d_neq J J J) (congrArg Value.bool (by first | decide | (simp only [hkl, hkm]; decide)))) J J J J <|dt (d_pickf J J J) J <|mv J J <|gdt (d_mv J J) J J J J <|gtt (t_bsg (i := 14) (ivs := [(0, _)]) (enc := encZ) ([1] : List Int) J J J ⟨J, J, trivial⟩ uT37 Tryz.ti3 J J J J J J pZ.cells J J hw) J J J J fun v_11 _ => l_imp (s_pub 14 J J pZ) <|gtt (t_call (n := 15) (k_p _ [1] [1] (by decide +kernel) (by decide) (by decide +kernel)) J J J ⟨J, trivial⟩ cF39 (pre_same 14 J J J pre_nil) J hw) J J J J (fun v_12 _ => ?_)
 refine gtt (t_call (n := 15) (r_same_ii _ _ _ _) J J J ⟨J, J, trivial⟩ cF24 (pre_same 9 J J J (pre_same 15 J J J pre_nil)) J hw) J J J J fun _ _ => gdt (det_is (r' := .bool false) (d_not J J) (congrArg Value.bool (by first | decide | (simp only [hk0, hk1, hk2, hk3]; decide)))) J J J J <|dt (d_pickf J J J) J <|mv J J <|gdt (d_mv J J) J J J J <|gdt (det_is (r' := .bool false) (d_neq J J J) (congrArg Value.bool (by first | decide | (simp only [hkl, hkm]; decide)))) J J J J <|dt (d_pickf J J J) J <|l_nil <|x_then <|e_condf J <|e_skip <|x_then <|e_seq <|e_reg <|tt (t_bsg (i := 16) (ivs := [(0, _), (1, _), (2, _)]) (enc := encZ) ([-2, 0, 1] : List Int) J J J ⟨J, J, J, J, J, J, trivial⟩ uT37 Tryz.ti3 J J J J J J pZ.cells J J hw) J fun v_13 _ => l_imp (s_pub 16 J J pZ) <|tt (t_call (n := 17) (k_p _ [-2, 0, 1] [-2, 0, 1] (by decide +kernel) (by decide) (by decide +kernel)) J J J ⟨J, trivial⟩ cF39 (pre_same 16 J J J pre_nil) J hw) J fun v_14 _ => tt (t_call (n := 18) (k_ch1 _) J J J ⟨J, trivial⟩ cF20 (pre_same 17 J J J pre_nil) J hw) J fun g hg => mv J J <|dt (d_ex J J J) J <|dt (d_ex J J J) J <|as_ J J <|as_ J J <|l_nil <|x_then <|e_seq <|e_reg <|tt (t_bsg (i := 19) (ivs := [(0, _)]) (enc := encZ) ([-4] : List Int) J J J ⟨J, J, trivial⟩ uT37 Tryz.ti3 J J J J J J pZ.cells J J hw) J fun v_15 _ => l_imp (s_pub 19 J J pZ) ?_
 refine tt (t_call (n := 20) (k_p _ [-4] [-4] (by decide +kernel) (by decide) (by decide +kernel)) J J J ⟨J, trivial⟩ cF39 (pre_same 19 J J J pre_nil) J hw) J fun v_16 _ => tt (t_call (n := 21) (k_ch2 _) J J J ⟨J, trivial⟩ cF20 (pre_same 20 J J J pre_nil) J hw) J fun g_2 hg_2 => mv J J <|dt (d_ex J J J) J <|dt (d_ex J J J) J <|as_ J J <|as_ J J <|l_nil <|x_then <|e_seq <|e_seq ?_
 have hkl := snd_len hg
 have hkm := snd_len hg_2
 simp only [List.length_cons, List.length_nil] at hkl hkm
 have hk0 := snd_getD hg 0
 refine e_imp (s_deep 18 92 (g.2.getD 0 Z0) J J (getD_mem (by omega)) J) ?_
 have hk1 := snd_getD hg 1
 refine e_imp (s_deep 18 93 (g.2.getD 1 Z0) J J (getD_mem (by omega)) J) ?_
 have hk2 := snd_getD hg 2
 refine e_imp (s_deep 18 94 (g.2.getD 2 Z0) J J (getD_mem (by omega)) J) ?_
 have hk3 := snd_getD hg_2 0
 refine e_imp (s_deep 21 95 (g_2.2.getD 0 Z0) J J (getD_mem (by omega)) J) <|e_drega (fun _ => False) [] (by kernel_rfl) <|a_lin' (n := 44) [(0, 0), (1, 0), (2, 0), (3, 0), (4, 0), (5, 0), (6, 0), (7, 1)] (by kernel_rfl) <|r0' J J J J (st0 (d_mv J J)) <|r0' J J J J (st0 (d_len J J (i := 18) J rd_deep uT44)) <|r0' J J J J (st0 (det_is (r' := .bool false) (d_neq J J J) (congrArg Value.bool (by first | decide | (simp only [hkl, hkm]; decide))))) <|r0' J J J J (st0 (d_mv J J)) <|r0g (st0 (d_mv J J)) J J J J J J J <|r0g (st0 (d_ixa (ii := 18) J J J J rd_deep uT44 zT23 J (by first | omega | (simp only [List.length_set]; omega)))) J J J J J J J <|r0g (st0 (d_lde (ii := 18) Z0 J J J rd_deep pS (by first | omega | (simp only [List.length_set]; omega)))) J J J J J J J <|r1g' J J J J J (t_bsg (i := 22) (ivs := [(0, _), (1, _), (2, _)]) (enc := encZ) ([-2, 0, 1] : List Int) J J J ⟨J, J, J, J, J, J, trivial⟩ uT37 Tryz.ti3 J J J J J J pZ.cells J J hw) fun v_17 _ => r_fin <|a_imp (s_pub 22 J J pZ) <|a_lin' (n := 35) [(8, 1), (9, 1), (10, 0), (11, 0), (12, 0), (13, 0), (14, 0), (15, 0), (16, 1)] (by kernel_rfl) <|r1g' J J J J J (t_call (n := 23) (k_p _ [-2, 0, 1] [-2, 0, 1] (by decide +kernel) (by decide) (by decide +kernel)) J J J ⟨J, trivial⟩ cF39 (pre_same 22 J J J pre_nil) J hw) (fun v_18 _ => ?_)
 refine r1g' J J J J J (t_call (n := 23) (r_same_ii _ _ _ _) J J J ⟨J, J, trivial⟩ cF24 (pre_same 92 J J J (pre_same 23 J J J pre_nil)) J hw) fun _ _ => r0g (st0 (det_is (r' := .bool false) (d_not J J) (congrArg Value.bool (by first | decide | (simp only [hk0, hk1, hk2, hk3]; decide))))) J J J J J J J <|r0' J J J J (st0 (d_pickf J J J)) <|r0' J J J J (st0 (d_mv J J)) <|r0g (st0 (d_mv J J)) J J J J J J J <|r0g (st0 (d_ixa (ii := 18) J J J J rd_deep uT44 zT23 J (by first | omega | (simp only [List.length_set]; omega)))) J J J J J J J <|r0g (st0 (d_lde (ii := 18) Z0 J J J rd_deep pS (by first | omega | (simp only [List.length_set]; omega)))) J J J J J J J <|r1g' J J J J J (t_bsg (i := 24) (ivs := [(0, _), (1, _)]) (enc := encZ) ([0, 1] : List Int) J J J ⟨J, J, J, J, trivial⟩ uT37 Tryz.ti3 J J J J J J pZ.cells J J hw) fun v_19 _ => r_fin <|a_imp (s_pub 24 J J pZ) <|a_lin' (n := 26) [(17, 1), (18, 1), (19, 0), (20, 0), (21, 0), (22, 0), (23, 0), (24, 0), (25, 1)] (by kernel_rfl) <|r1g' J J J J J (t_call (n := 25) (k_p _ [0, 1] [0, 1] (by decide +kernel) (by decide) (by decide +kernel)) J J J ⟨J, trivial⟩ cF39 (pre_same 24 J J J pre_nil) J hw) fun v_20 _ => r1g' J J J J J (t_call (n := 25) (r_same_ii _ _ _ _) J J J ⟨J, J, trivial⟩ cF24 (pre_same 93 J J J (pre_same 25 J J J pre_nil)) J hw) (fun _ _ => ?_)
 refine r0g (st0 (det_is (r' := .bool false) (d_not J J) (congrArg Value.bool (by first | decide | (simp only [hk0, hk1, hk2, hk3]; decide))))) J J J J J J J <|r0' J J J J (st0 (d_pickf J J J)) <|r0' J J J J (st0 (d_mv J J)) <|r0g (st0 (d_mv J J)) J J J J J J J <|r0g (st0 (d_ixa (ii := 18) J J J J rd_deep uT44 zT23 J (by first | omega | (simp only [List.length_set]; omega)))) J J J J J J J <|r0g (st0 (d_lde (ii := 18) Z0 J J J rd_deep pS (by first | omega | (simp only [List.length_set]; omega)))) J J J J J J J <|r1g' J J J J J (t_bsg (i := 26) (ivs := [(0, _)]) (enc := encZ) ([1] : List Int) J J J ⟨J, J, trivial⟩ uT37 Tryz.ti3 J J J J J J pZ.cells J J hw) fun v_21 _ => r_fin <|a_imp (s_pub 26 J J pZ) <|a_lin' (n := 8) [(26, 1), (27, 1), (28, 0), (29, 0), (30, 0), (31, 0), (32, 0), (33, 0), (34, 0), (35, 0), (36, 0), (37, 0), (38, 0), (39, 0), (40, 0), (41, 0), (42, 0), (43, 1)] (by kernel_rfl) <|r1g' J J J J J (t_call (n := 27) (k_p _ [1] [1] (by decide +kernel) (by decide) (by decide +kernel)) J J J ⟨J, trivial⟩ cF39 (pre_same 26 J J J pre_nil) J hw) fun v_22 _ => r1g' J J J J J (t_call (n := 27) (r_same_ii _ _ _ _) J J J ⟨J, J, trivial⟩ cF24 (pre_same 94 J J J (pre_same 27 J J J pre_nil)) J hw) fun _ _ => r0g (st0 (det_is (r' := .bool false) (d_not J J) (congrArg Value.bool (by first | decide | (simp only [hk0, hk1, hk2, hk3]; decide))))) J J J J J J J ?_
 refine r0' J J J J (st0 (d_pickf J J J)) <|r0' J J J J (st0 (d_mv J J)) <|r0g (st0 (d_mv J J)) J J J J J J J <|r0g (st0 (det_is (r' := .bool false) (d_neq J J J) (congrArg Value.bool (by first | decide | (simp only [hkl, hkm]; decide))))) J J J J J J J <|r0' J J J J (st0 (d_pickf J J J)) <|r0' J J J J (st0 (d_mv J J)) <|r0g (st0 (d_mv J J)) J J J J J J J <|r0g (st0 (d_len J J (i := 21) J rd_deep uT44)) J J J J J J J <|r0g (st0 (det_is (r' := .bool false) (d_neq J J J) (congrArg Value.bool (by first | decide | (simp only [hkl, hkm]; decide))))) J J J J J J J <|r0' J J J J (st0 (d_pickf J J J)) <|r0' J J J J (st0 (d_mv J J)) <|r0g (st0 (d_mv J J)) J J J J J J J <|r0g (st0 (d_ixa (ii := 21) J J J J rd_deep uT44 zT23 J (by first | omega | (simp only [List.length_set]; omega)))) J J J J J J J <|r0g (st0 (d_lde (ii := 21) Z0 J J J rd_deep pS (by first | omega | (simp only [List.length_set]; omega)))) J J J J J J J <|r1g' J J J J J (t_bsg (i := 28) (ivs := [(0, _)]) (enc := encZ) ([1] : List Int) J J J ⟨J, J, trivial⟩ uT37 Tryz.ti3 J J J J J J pZ.cells J J hw) fun v_23 _ => r_fin <|a_imp (s_pub 28 J J pZ) <|a_lin' (n := 0) [(44, 1), (45, 1), (46, 0), (47, 0), (48, 0), (49, 0), (50, 0), (51, 0)] (by kernel_rfl) ?_
 refine r1g' J J J J J (t_call (n := 29) (k_p _ [1] [1] (by decide +kernel) (by decide) (by decide +kernel)) J J J ⟨J, trivial⟩ cF39 (pre_same 28 J J J pre_nil) J hw) fun v_24 _ => r1g' J J J J J (t_call (n := 29) (r_same_ii _ _ _ _) J J J ⟨J, J, trivial⟩ cF24 (pre_same 95 J J J (pre_same 29 J J J pre_nil)) J hw) fun _ _ => r0g (st0 (det_is (r' := .bool false) (d_not J J) (congrArg Value.bool (by first | decide | (simp only [hk0, hk1, hk2, hk3]; decide))))) J J J J J J J <|r0' J J J J (st0 (d_pickf J J J)) <|r0' J J J J (st0 (d_mv J J)) <|r0g (st0 (d_mv J J)) J J J J J J J <|r0g (st0 (det_is (r' := .bool false) (d_neq J J J) (congrArg Value.bool (by first | decide | (simp only [hkl, hkm]; decide))))) J J J J J J J <|r0' J J J J (st0 (d_pickf J J J)) <|r_fin <|a_done (by kernel_rfl) <|x_then <|e_condf J <|e_skip <|x_then <|e_seq <|e_reg <|tt (t_bsg (i := 30) (ivs := [(0, _), (1, _), (2, _)]) (enc := encZ) ([-2, 0, 1] : List Int) J J J ⟨J, J, J, J, J, J, trivial⟩ uT37 Tryz.ti3 J J J J J J pZ.cells J J hw) J fun v_25 _ => l_imp (s_pub 30 J J pZ) <|tt (t_call (n := 31) (k_p _ [-2, 0, 1] [-2, 0, 1] (by decide +kernel) (by decide) (by decide +kernel)) J J J ⟨J, trivial⟩ cF39 (pre_same 30 J J J pre_nil) J hw) J fun v_26 _ => tt (t_call (n := 31) (law_q _ _ ⟨by decide, by decide⟩ ⟨by decide, by decide⟩) J J J ⟨J, J, trivial⟩ cF22 pre_nil J hw) J (fun _ _ => ?_)
 refine tt (t_call (n := 31) (law_q _ _ ⟨by decide, by decide⟩ ⟨by decide, by decide⟩) J J J ⟨J, J, trivial⟩ cF22 pre_nil J hw) J fun _ _ => tt (t_call (n := 31) (k_cnt1 _) J J J ⟨J, J, J, trivial⟩ cF28 (pre_same 31 J J J pre_nil) J hw) J fun _ _ => mv J J <|dt (d_ex J J J) J <|dt (d_ex J J J) J <|as_ J J <|as_ J J <|l_nil <|x_then <|e_seq <|e_reg <|tt (t_bsg (i := 32) (ivs := [(0, _), (1, _), (2, _)]) (enc := encZ) ([-2, 0, 1] : List Int) J J J ⟨J, J, J, J, J, J, trivial⟩ uT37 Tryz.ti3 J J J J J J pZ.cells J J hw) J fun v_27 _ => l_imp (s_pub 32 J J pZ) <|tt (t_call (n := 33) (k_p _ [-2, 0, 1] [-2, 0, 1] (by decide +kernel) (by decide) (by decide +kernel)) J J J ⟨J, trivial⟩ cF39 (pre_same 32 J J J pre_nil) J hw) J fun v_28 _ => tt (t_call (n := 33) (law_q _ _ ⟨by decide, by decide⟩ ⟨by decide, by decide⟩) J J J ⟨J, J, trivial⟩ cF22 pre_nil J hw) J fun _ _ => tt (t_call (n := 33) (law_q _ _ ⟨by decide, by decide⟩ ⟨by decide, by decide⟩) J J J ⟨J, J, trivial⟩ cF22 pre_nil J hw) J fun _ _ => tt (t_call (n := 33) (k_cnt2 _) J J J ⟨J, J, J, trivial⟩ cF28 (pre_same 33 J J J pre_nil) J hw) J fun _ _ => mv J J <|dt (d_ex J J J) J <|dt (d_ex J J J) J <|as_ J J <|as_ J J <|l_nil <|x_then <|e_seq <|e_reg <|tt (t_bsg (i := 34) (ivs := [(0, _), (1, _)]) (enc := encZ) ([0, 1] : List Int) J J J ⟨J, J, J, J, trivial⟩ uT37 Tryz.ti3 J J J J J J pZ.cells J J hw) J (fun v_29 _ => ?_)
 refine l_imp (s_pub 34 J J pZ) <|tt (t_call (n := 35) (k_p _ [0, 1] [0, 1] (by decide +kernel) (by decide) (by decide +kernel)) J J J ⟨J, trivial⟩ cF39 (pre_same 34 J J J pre_nil) J hw) J fun v_30 _ => tt (t_call (n := 35) (law_q _ _ ⟨by decide, by decide⟩ ⟨by decide, by decide⟩) J J J ⟨J, J, trivial⟩ cF22 pre_nil J hw) J fun _ _ => tt (t_call (n := 35) (law_q _ _ ⟨by decide, by decide⟩ ⟨by decide, by decide⟩) J J J ⟨J, J, trivial⟩ cF22 pre_nil J hw) J fun _ _ => tt (t_call (n := 35) (k_cnt3 _) J J J ⟨J, J, J, trivial⟩ cF28 (pre_same 35 J J J pre_nil) J hw) J fun _ _ => mv J J <|dt (d_ex J J J) J <|dt (d_ex J J J) J <|as_ J J <|as_ J J <|l_nil <|x_then <|e_seq <|e_reg <|tt (t_bsg (i := 36) (ivs := [(0, _), (1, _)]) (enc := encZ) ([0, 1] : List Int) J J J ⟨J, J, J, J, trivial⟩ uT37 Tryz.ti3 J J J J J J pZ.cells J J hw) J fun v_31 _ => l_imp (s_pub 36 J J pZ) <|tt (t_call (n := 37) (k_p _ [0, 1] [0, 1] (by decide +kernel) (by decide) (by decide +kernel)) J J J ⟨J, trivial⟩ cF39 (pre_same 36 J J J pre_nil) J hw) J fun v_32 _ => tt (t_call (n := 37) (law_q _ _ ⟨by decide, by decide⟩ ⟨by decide, by decide⟩) J J J ⟨J, J, trivial⟩ cF22 pre_nil J hw) J fun _ _ => tt (t_call (n := 37) (law_q _ _ ⟨by decide, by decide⟩ ⟨by decide, by decide⟩) J J J ⟨J, J, trivial⟩ cF22 pre_nil J hw) J (fun _ _ => ?_)
 refine tt (t_call (n := 37) (k_cnt4 _) J J J ⟨J, J, J, trivial⟩ cF28 (pre_same 37 J J J pre_nil) J hw) J fun _ _ => mv J J <|dt (d_ex J J J) J <|dt (d_ex J J J) J <|as_ J J <|as_ J J <|l_nil <|x_then <|e_seq <|e_seq <|e_reg <|mv J J <|dt (det_is (r' := .bool false) (d_neq J J J) (congrArg Value.bool (by first | decide | (simp only [hkl, hkm]; decide)))) J <|mv J J <|gdt (d_mv J J) J J J J <|gdt (det_is (r' := .bool false) (d_neq J J J) (congrArg Value.bool (by first | decide | (simp only [hkl, hkm]; decide)))) J J J J <|dt (d_pickf J J J) J <|mv J J <|gdt (d_mv J J) J J J J <|gdt (det_is (r' := .bool false) (d_neq J J J) (congrArg Value.bool (by first | decide | (simp only [hkl, hkm]; decide)))) J J J J <|dt (d_pickf J J J) J <|mv J J <|gdt (d_mv J J) J J J J <|gdt (det_is (r' := .bool false) (d_neq J J J) (congrArg Value.bool (by first | decide | (simp only [hkl, hkm]; decide)))) J J J J <|dt (d_pickf J J J) J <|mv J J <|gdt (d_mv J J) J J J J <|gdt (det_is (r' := .bool false) (d_neq J J J) (congrArg Value.bool (by first | decide | (simp only [hkl, hkm]; decide)))) J J J J <|dt (d_pickf J J J) J <|mv J J <|gdt (d_mv J J) J J J J <|gdt (det_is (r' := .bool false) (d_neq J J J) (congrArg Value.bool (by first | decide | (simp only [hkl, hkm]; decide)))) J J J J <|dt (d_pickf J J J) J <|mv J J <|gdt (d_mv J J) J J J J ?_
 refine gdt (det_is (r' := .bool false) (d_neq J J J) (congrArg Value.bool (by first | decide | (simp only [hkl, hkm]; decide)))) J J J J <|dt (d_pickf J J J) J <|mv J J <|gdt (d_mv J J) J J J J <|gdt (det_is (r' := .bool false) (d_neq J J J) (congrArg Value.bool (by first | decide | (simp only [hkl, hkm]; decide)))) J J J J <|dt (d_pickf J J J) J <|l_nil <|x_then <|e_condf J <|e_skip <|x_then <|e_seq <|e_reg <|tt (t_bsg (i := 38) (ivs := [(0, _), (1, _), (2, _)]) (enc := encZ) ([1, 0, 1] : List Int) J J J ⟨J, J, J, J, J, J, trivial⟩ uT37 Tryz.ti3 J J J J J J pZ.cells J J hw) J fun v_33 _ => l_imp (s_pub 38 J J pZ) <|tt (t_call (n := 39) (k_p _ [1, 0, 1] [1, 0, 1] (by decide +kernel) (by decide) (by decide +kernel)) J J J ⟨J, trivial⟩ cF39 (pre_same 38 J J J pre_nil) J hw) J fun v_34 _ => tt (t_call (n := 39) (k_tot1 _) J J J ⟨J, trivial⟩ cF29 (pre_same 39 J J J pre_nil) J hw) J fun _ _ => mv J J <|dt (d_ex J J J) J <|dt (d_ex J J J) J <|as_ J J <|as_ J J <|l_nil <|x_then <|e_seq <|e_reg <|tt (t_bsg (i := 40) (ivs := [(0, _), (1, _), (2, _), (3, _)]) (enc := encZ) ([0, -1, 0, 1] : List Int) J J J ⟨J, J, J, J, J, J, J, J, trivial⟩ uT37 Tryz.ti3 J J J J J J pZ.cells J J hw) J fun v_35 _ => l_imp (s_pub 40 J J pZ) ?_
 refine tt (t_call (n := 41) (k_p _ [0, -1, 0, 1] [0, -1, 0, 1] (by decide +kernel) (by decide) (by decide +kernel)) J J J ⟨J, trivial⟩ cF39 (pre_same 40 J J J pre_nil) J hw) J fun v_36 _ => tt (t_call (n := 41) (k_tot2 _) J J J ⟨J, trivial⟩ cF29 (pre_same 41 J J J pre_nil) J hw) J fun _ _ => mv J J <|dt (d_ex J J J) J <|dt (d_ex J J J) J <|as_ J J <|as_ J J <|l_nil <|x_then <|e_seq <|e_reg <|tt (t_bsg (i := 42) (ivs := [(0, _), (1, _), (2, _)]) (enc := encZ) ([-2, 0, 1] : List Int) J J J ⟨J, J, J, J, J, J, trivial⟩ uT37 Tryz.ti3 J J J J J J pZ.cells J J hw) J fun v_37 _ => l_imp (s_pub 42 J J pZ) <|tt (t_call (n := 43) (k_p _ [-2, 0, 1] [-2, 0, 1] (by decide +kernel) (by decide) (by decide +kernel)) J J J ⟨J, trivial⟩ cF39 (pre_same 42 J J J pre_nil) J hw) J fun v_38 _ => tt (t_call (n := 43) (k_bd1 _) J J J ⟨J, trivial⟩ cF12 (pre_same 43 J J J pre_nil) J hw) J fun _ _ => mv J J <|dt (d_ex J J J) J <|dt (d_ex J J J) J <|tt (t_alloc (i := 44) J J J Tryz.zeroValue28 J J hw) J fun bx _ => tt (t_stw (i := 44) J J J J J (by decide) J zT28 J J ⟨(one_rfl J), (one_rfl J), trivial⟩ J hw trivial) J fun _ _ => as_ J J <|l_nil <|x_then <|e_seq <|e_reg <|tt (t_bsg (i := 45) (ivs := [(0, _)]) (enc := encZ) ([3] : List Int) J J J ⟨J, J, trivial⟩ uT37 Tryz.ti3 J J J J J J pZ.cells J J hw) J fun v_39 _ => l_imp (s_pub 45 J J pZ) ?_
 refine tt (t_call (n := 46) (k_p _ [3] [3] (by decide +kernel) (by decide) (by decide +kernel)) J J J ⟨J, trivial⟩ cF39 (pre_same 45 J J J pre_nil) J hw) J fun v_40 _ => tt (t_call (n := 46) (k_bd2 _) J J J ⟨J, trivial⟩ cF12 (pre_same 46 J J J pre_nil) J hw) J fun _ _ => mv J J <|dt (d_ex J J J) J <|dt (d_ex J J J) J <|tt (t_alloc (i := 47) J J J Tryz.zeroValue28 J J hw) J fun bx_2 _ => tt (t_stw (i := 47) J J J J J (by decide) J zT28 J J ⟨(one_rfl J), (one_rfl J), trivial⟩ J hw trivial) J fun _ _ => as_ J J <|l_nil <|x_then <|e_seq <|e_seq <|e_dreg (fun _ => False) [(0, 0), (1, 0), (2, 0), (3, 0), (4, 0), (5, 0), (6, 0), (7, 0), (8, 0), (9, 0), (10, 0), (11, 0), (12, 0), (13, 0), (14, 0), (15, 0), (16, 1), (17, 0), (18, 0), (19, 0), (20, 0), (21, 0), (22, 0), (23, 0), (24, 0), (25, 1), (26, 0), (27, 0), (28, 0), (29, 0), (30, 0), (31, 0)] (by kernel_rfl) ?_ ?_
 ·kernel_rfl
 refine r0' J J J J (st0 (d_mv J J)) <|r0' J J J J (st0 (det_is (r' := .bool false) (d_neq J J J) (congrArg Value.bool (by first | decide | (simp only [hkl, hkm]; decide))))) <|r0' J J J J (st0 (d_mv J J)) <|r0g (st0 (d_mv J J)) J J J J J J J <|r0g (st0 (det_is (r' := .bool false) (d_neq J J J) (congrArg Value.bool (by first | decide | (simp only [hkl, hkm]; decide))))) J J J J J J J <|r0' J J J J (st0 (d_pickf J J J)) <|r0' J J J J (st0 (d_mv J J)) <|r0g (st0 (d_mv J J)) J J J J J J J <|r0g (st0 (det_is (r' := .bool false) (d_neq J J J) (congrArg Value.bool (by first | decide | (simp only [hkl, hkm]; decide))))) J J J J J J J <|r0' J J J J (st0 (d_pickf J J J)) <|r0' J J J J (st0 (d_mv J J)) <|r0g (st0 (d_mv J J)) J J J J J J J <|r0g (st0 (det_is (r' := .bool false) (d_neq J J J) (congrArg Value.bool (by first | decide | (simp only [hkl, hkm]; decide))))) J J J J J J J <|r0' J J J J (st0 (d_pickf J J J)) <|r0' J J J J (st0 (d_mv J J)) <|r0g (st0 (d_lb2 (i := 44) J J J iA28 zT28 J J)) J J J J J J J <|r1g' J J J J J (t_call (n := 47) (law_w _ ⟨by decide, by decide⟩) J J J ⟨J, trivial⟩ cF38 pre_nil J hw) fun _ _ => r0g (st0 (det_is (r' := .bool false) (d_eqg J J J eg28 (fun w => neq28 w _ _ _ _)) (congrArg Value.bool (by simp [eqW_refl])))) J J J J J J J <|r0' J J J J (st0 (d_pickf J J J)) <|r0' J J J J (st0 (d_mv J J)) <|r0g (st0 (d_mv J J)) J J J J J J J ?_
 refine r0g (st0 (det_is (r' := .bool false) (d_neq J J J) (congrArg Value.bool (by first | decide | (simp only [hkl, hkm]; decide))))) J J J J J J J <|r0' J J J J (st0 (d_pickf J J J)) <|r0' J J J J (st0 (d_mv J J)) <|r0g (st0 (d_lb2 (i := 47) J J J iA28 zT28 J J)) J J J J J J J <|r1g' J J J J J (t_call (n := 47) (law_w _ ⟨by decide, by decide⟩) J J J ⟨J, trivial⟩ cF38 pre_nil J hw) fun _ _ => r0g (st0 (det_is (r' := .bool false) (d_eqg J J J eg28 (fun w => neq28 w _ _ _ _)) (congrArg Value.bool (by simp [eqW_refl])))) J J J J J J J <|r0' J J J J (st0 (d_pickf J J J)) <|r0' J J J J (st0 (d_mv J J)) <|r0g (st0 (d_mv J J)) J J J J J J J <|r0g (st0 (det_is (r' := .bool false) (d_neq J J J) (congrArg Value.bool (by first | decide | (simp only [hkl, hkm]; decide))))) J J J J J J J <|r0' J J J J (st0 (d_pickf J J J)) <|r_end <|x_then <|e_condf J <|e_skip <|x_then <|e_seq <|e_reg <|tt (t_bsg (i := 48) (ivs := [(0, _), (1, _), (2, _)]) (enc := encZ) ([-2, 0, 1] : List Int) J J J ⟨J, J, J, J, J, J, trivial⟩ uT37 Tryz.ti3 J J J J J J pZ.cells J J hw) J fun v_41 _ => l_imp (s_pub 48 J J pZ) <|tt (t_call (n := 49) (k_p _ [-2, 0, 1] [-2, 0, 1] (by decide +kernel) (by decide) (by decide +kernel)) J J J ⟨J, trivial⟩ cF39 (pre_same 48 J J J pre_nil) J hw) J (fun v_42 _ => ?_)
 refine tt (t_call (n := 49) (law_q _ _ ⟨by decide, by decide⟩ ⟨by decide, by decide⟩) J J J ⟨J, J, trivial⟩ cF22 pre_nil J hw) J fun _ _ => tt (t_call (n := 49) (law_q _ _ ⟨by decide, by decide⟩ ⟨by decide, by decide⟩) J J J ⟨J, J, trivial⟩ cF22 pre_nil J hw) J fun _ _ => tt (t_call (n := 50) (k_is1 _) J J J ⟨J, J, J, J, trivial⟩ cF35 (pre_same 49 J J J pre_nil) J hw) J fun _ _ => mv J J <|dt (d_ex J J J) J <|dt (d_ex J J J) J <|as_ J J <|as_ J J <|l_nil <|x_then <|e_seq <|e_reg <|tt (t_bsg (i := 51) (ivs := [(0, _), (1, _), (2, _)]) (enc := encZ) ([1, -2, 1] : List Int) J J J ⟨J, J, J, J, J, J, trivial⟩ uT37 Tryz.ti3 J J J J J J pZ.cells J J hw) J fun v_43 _ => l_imp (s_pub 51 J J pZ) <|tt (t_call (n := 52) (k_p _ [1, -2, 1] [1, -2, 1] (by decide +kernel) (by decide) (by decide +kernel)) J J J ⟨J, trivial⟩ cF39 (pre_same 51 J J J pre_nil) J hw) J fun v_44 _ => tt (t_call (n := 52) (law_q _ _ ⟨by decide, by decide⟩ ⟨by decide, by decide⟩) J J J ⟨J, J, trivial⟩ cF22 pre_nil J hw) J fun _ _ => tt (t_call (n := 52) (law_q _ _ ⟨by decide, by decide⟩ ⟨by decide, by decide⟩) J J J ⟨J, J, trivial⟩ cF22 pre_nil J hw) J fun _ _ => tt (t_call (n := 53) (k_is2 _) J J J ⟨J, J, J, J, trivial⟩ cF35 (pre_same 52 J J J pre_nil) J hw) J fun _ _ => mv J J <|dt (d_ex J J J) J <|dt (d_ex J J J) J <|as_ J J <|as_ J J <|l_nil <|x_then <|e_seq <|e_reg ?_
 refine tt (t_call (n := 53) (law_q _ _ ⟨by decide, by decide⟩ ⟨by decide, by decide⟩) J J J ⟨J, J, trivial⟩ cF22 pre_nil J hw) J fun _ _ => tt (t_call (n := 53) (law_q _ _ ⟨by decide, by decide⟩ ⟨by decide, by decide⟩) J J J ⟨J, J, trivial⟩ cF22 pre_nil J hw) J fun _ _ => tt (t_call (n := 53) (k_cne1 _) J J J ⟨J, J, J, trivial⟩ cF28 (pre_same 999 J J J pre_nil) J hw) J fun _ _ => mv J J <|dt (d_ex J J J) J <|dt (d_ex J J J) J <|as_ J J <|l_nil <|x_then <|e_seq <|e_reg <|tt (t_bsg (i := 54) (ivs := [(0, _), (1, _)]) (enc := encZ) ([1, 1] : List Int) J J J ⟨J, J, J, J, trivial⟩ uT37 Tryz.ti3 J J J J J J pZ.cells J J hw) J fun v_45 _ => l_imp (s_pub 54 J J pZ) <|tt (t_call (n := 55) (k_p _ [1, 1] [1, 1] (by decide +kernel) (by decide) (by decide +kernel)) J J J ⟨J, trivial⟩ cF39 (pre_same 54 J J J pre_nil) J hw) J fun v_46 _ => tt (t_call (n := 55) (law_q _ _ ⟨by decide, by decide⟩ ⟨by decide, by decide⟩) J J J ⟨J, J, trivial⟩ cF22 pre_nil J hw) J fun _ _ => tt (t_call (n := 55) (law_q _ _ ⟨by decide, by decide⟩ ⟨by decide, by decide⟩) J J J ⟨J, J, trivial⟩ cF22 pre_nil J hw) J fun _ _ => tt (t_call (n := 55) (k_cne2 _) J J J ⟨J, J, J, trivial⟩ cF28 (pre_same 55 J J J pre_nil) J hw) J fun _ _ => mv J J <|dt (d_ex J J J) J <|dt (d_ex J J J) J <|as_ J J <|l_nil <|x_then <|e_seq <|e_reg <|mv J J ?_
 refine tt (t_bsg (i := 56) (ivs := [(0, _), (1, _), (2, _), (3, _)]) (enc := encZ) ([-2, -1, 1, 2] : List Int) J J J ⟨J, J, J, J, J, J, J, J, trivial⟩ uT37 Tryz.ti3 J J J J J J pZ.cells J J hw) J fun v_47 _ => tt (t_call (n := 56) (law_same3 _ _ _ _ (inI_all (by decide +kernel)) (by decide) (by decide) (by decide +kernel)) J J J ⟨J, J, trivial⟩ cF50 (pre_same 50 J J J (pre_lend 56 J J pZ pre_nil)) J hw) J fun _ _ => mv J J <|gdt (d_mv J J) J J J J <|gdt (det_is (r' := .bool true) (d_eql J J J) (congrArg Value.bool (by first | decide | (simp only [hkl, hkm]; decide)))) J J J J <|dt (d_pickt J J J) J <|mv J J <|gdt (d_mv J J) J J J J <|gtt (t_bsg (i := 57) (ivs := [(0, _), (1, _)]) (enc := encZ) ([0, 4] : List Int) J J J ⟨J, J, J, J, trivial⟩ uT37 Tryz.ti3 J J J J J J pZ.cells J J hw) J J J J fun v_48 _ => gtt (t_call (n := 57) (law_same3 _ _ _ _ (inI_all (by decide +kernel)) (by decide) (by decide) (by decide +kernel)) J J J ⟨J, J, trivial⟩ cF50 (pre_same 53 J J J (pre_lend 57 J J pZ pre_nil)) J hw) J J J J fun _ _ => dt (d_pickt J J J) J <|mv J J <|gdt (d_mv J J) J J J J <|gdt (det_is (r' := .bool true) (d_eql J J J) (congrArg Value.bool (by first | decide | (simp only [hkl, hkm]; decide)))) J J J J <|dt (d_pickt J J J) J <|mv J J <|gdt (d_mv J J) J J J J ?_
 exact gdt (det_is (r' := .bool true) (d_eql J J J) (congrArg Value.bool (by first | decide | (simp only [hkl, hkm]; decide)))) J J J J <|dt (d_pickt J J J) J <|mv J J <|gdt (d_mv J J) J J J J <|gdt (det_is (r' := .bool true) (d_eql J J J) (congrArg Value.bool (by first | decide | (simp only [hkl, hkm]; decide)))) J J J J <|dt (d_pickt J J J) J <|as_ J J <|l_nil <|x_then <|e_ret <|x_end (.inl J) hsc () _ (fun a w hs => res1 hs Tryz.results11 J) J trivial J give_nil
end Go.Sky
namespace Go.Sky
set_option linter.unusedVariables false
end Go.Sky
namespace Go.Sky
abbrev RWL := List (Bool × ByteArray)
def smallR (r : RWL) : Bool := decide (r.length ≤ 8) && r.all fun c => decide (c.2.size ≤ 6)
end Go.Sky
namespace Go.Sky
noncomputable def dec (r : RWL) : List Int := if h : okP r = true then (okP_ex h).choose else []
noncomputable def bdE (r : RWL) : Int := if okP r = true then chk0 (dec r) else 2
noncomputable def bdZ (r : RWL) : Int := if bdE r = 0 then sbound (dec r) else 0
end Go.Sky
namespace Go.Sky
set_option linter.unusedVariables false
end Go.Sky
namespace Go.Sky
end Go.Sky
namespace Go.Sky
set_option linter.unusedVariables false
abbrev qT (z : SL × List (Int × SL)) : Pc := pp (svv z.1) z.2
abbrev T0 : SL × List (Int × SL) := ((none, 0, 0), [])
abbrev intsT (zs : List (SL × List (Int × SL))) : List (List Int) := zs.map fun z => ints z.2
end Go.Sky
namespace Go.Sky
set_option linter.unusedVariables false
def firstE (r : RWL) (x y x2 y2 : Int) : Int := if okP r = true then (if r.length = 0 ∨ 0 < x * y2 - x2 * y then 3 else 0) else 2
end Go.Sky
namespace Go.Sky
set_option linter.unusedVariables false
end Go.Sky
namespace Go.Sky
set_option linter.unusedVariables false
/-- the sizes of all members of a chain, for ends of 64 bits -/
def chke : Nat → Nat → Nat → Nat → Nat → Bool
  | 0, la, _, A, _ => Nat.ble (A + la * 64) 65500
  | f + 1, la, lb, A, B => Nat.ble (A + la * 64) 65500 && (Nat.beq lb 0 || (List.range lb).all fun l => chke f lb l B (bif Nat.ble l 1 then 2 else A + (la - lb + 1) * B))
end Go.Sky
namespace Go.Sky
set_option linter.unusedVariables false
/-! Changes of sign at two near points. -/
inductive SV : List Int → List Int → Prop
  | one (a : Int) : SV [a] [a]
  | step (a : Int) (r t : List Int) : SV r t → SV (a :: r) (a :: t)
  | skip (a u w : Int) (r t : List Int) : (a = 1 ∨ a = -1) → (-1 ≤ u ∧ u ≤ 1) → (-1 ≤ w ∧ w ≤ 1) → SV (-a :: r) (-a :: t) → SV (a :: u :: -a :: r) (a :: w :: -a :: t)
theorem chg1_skip {s : Int × Int} {a u : Int} (ha : a = 1 ∨ a = -1) (hu : -1 ≤ u ∧ u ≤ 1) : chg1 (chg1 (chg1 s a) u) (-a) = chg1 (chg1 s a) (-a) := by
  obtain ⟨n, l⟩ := s
  have h3 : u = -1 ∨ u = 0 ∨ u = 1 := by omega
  rcases ha with rfl | rfl <;> rcases h3 with rfl | rfl | rfl <;> simp [chg1]
theorem SV.fold {a b : List Int} (h : SV a b) : ∀ s, a.foldl chg1 s = b.foldl chg1 s := by
  induction h with
  | one a => intro s; rfl
  | step a r t _ ih => intro s; exact ih (chg1 s a)
  | skip a u w r t ha hu hw _ ih =>
    intro s
    show (r.foldl chg1 (chg1 (chg1 (chg1 s a) u) (-a))) = (t.foldl chg1 (chg1 (chg1 (chg1 s a) w) (-a)))
    rw [chg1_skip ha hu, chg1_skip ha hw]
    exact ih (chg1 s a)
theorem SV.chg {a b : List Int} (h : SV a b) : chg a = chg b := congrArg Prod.fst (h.fold (0, 0))
/-- the sign of a ratio -/
def rsg (x : Rat) : Int := if x < 0 then -1 else if x = 0 then 0 else 1
theorem rsg_r (x : Rat) : -1 ≤ rsg x ∧ rsg x ≤ 1 := by unfold rsg; split; decide; split <;> decide
theorem rsg_pos {x : Rat} (h : 0 < x) : rsg x = 1 := by unfold rsg; rw [if_neg (by grind), if_neg (by grind)]
theorem rsg_neg {x : Rat} (h : x < 0) : rsg x = -1 := by unfold rsg; rw [if_pos h]
/-- large at x, by more than the step can change it -/
def Big (η x : Rat) (f : Rat → Rat) : Prop := η < f x ∨ f x < -η
def Tri (η x : Rat) : (Rat → Rat) → List (Rat → Rat) → Prop
  | _, [] => True
  | _, [g] => Big η x g
  | f, g :: k :: r => (Big η x g ∧ Tri η x g (k :: r)) ∨ (Big η x k ∧ f x * k x < 0 ∧ Tri η x k r)
def Near (η x y : Rat) (f : Rat → Rat) : Prop := f x - f y ≤ η ∧ f y - f x ≤ η
theorem big_sg {η x y : Rat} {f : Rat → Rat} (h0 : 0 ≤ η) (h : Big η x f) (hn : Near η x y f) : rsg (f x) = rsg (f y) ∧ (rsg (f x) = 1 ∨ rsg (f x) = -1) := by
  obtain ⟨h1, h2⟩ := hn
  rcases h with h | h
  · rw [rsg_pos (by grind), rsg_pos (by grind)]; exact ⟨rfl, .inl rfl⟩
  · rw [rsg_neg (by grind), rsg_neg (by grind)]; exact ⟨rfl, .inr rfl⟩
theorem opp_sg {a b : Rat} (h : a * b < 0) : rsg b = - rsg a := by
  rcases (show a < 0 ∨ a = 0 ∨ 0 < a by grind) with h1 | h1 | h1
  · rw [rsg_neg h1, rsg_pos (by
      rcases (show b ≤ 0 ∨ 0 < b by grind) with h2 | h2
      · have := Rat.mul_nonneg (a := -a) (b := -b) (by grind) (by grind); grind
      · exact h2)]; rfl
  · subst h1; grind
  · rw [rsg_pos h1, rsg_neg (by
      rcases (show 0 ≤ b ∨ b < 0 by grind) with h2 | h2
      · have := Rat.mul_nonneg (a := a) (b := b) (by grind) h2; grind
      · exact h2)]
end Go.Sky
namespace Go.Sky
set_option linter.unusedVariables false
theorem tri_sv {η x y : Rat} (h0 : 0 ≤ η) : ∀ (n : Nat) (f : Rat → Rat) (fs : List (Rat → Rat)), fs.length ≤ n → Big η x f → (∀ g ∈ f :: fs, Near η x y g) → Tri η x f fs →
    SV ((f :: fs).map fun g => rsg (g x)) ((f :: fs).map fun g => rsg (g y))
  | _, f, [], _, hb, hn, _ => by
    have := (big_sg h0 hb (hn f (List.mem_cons_self ..))).1
    simp only [List.map_cons, List.map_nil, this]
    exact SV.one _
  | 0, f, g :: r, hl, _, _, _ => absurd hl (by simp)
  | n + 1, f, [g], hl, hb, hn, ht => by
    have h1 := (big_sg h0 hb (hn f (List.mem_cons_self ..))).1
    have h2 := tri_sv h0 n g [] (by simp) ht (fun k hk => hn k (List.mem_cons_of_mem _ hk)) trivial
    rw [List.map_cons, List.map_cons, h1]
    exact SV.step _ _ _ h2
  | n + 1, f, g :: k :: r, hl, hb, hn, ht => by
    have h1 := big_sg h0 hb (hn f (List.mem_cons_self ..))
    rcases ht with ⟨hg, ht⟩ | ⟨hk, ho, ht⟩
    · have h2 := tri_sv h0 n g (k :: r) (by simp at hl ⊢; omega) hg (fun k hk => hn k (List.mem_cons_of_mem _ hk)) ht
      rw [List.map_cons (l := g :: k :: r), List.map_cons (l := g :: k :: r), h1.1]
      exact SV.step _ _ _ h2
    · have h2 := tri_sv h0 n k r (by simp at hl ⊢; omega) hk (fun j hj => hn j (List.mem_cons_of_mem _ (List.mem_cons_of_mem _ hj))) ht
      have h3 := (big_sg h0 hk (hn k (by simp))).1
      have h4 := opp_sg ho
      rw [List.map_cons (l := r), List.map_cons (l := r)] at h2
      simp only [List.map_cons]
      rw [← h3] at h2 ⊢
      rw [h4] at h2 ⊢
      rw [← h1.1]
      exact SV.skip _ _ _ _ _ h1.2 (rsg_r _) (rsg_r _) h2
/-- neighbours that are not both small, and the relation between three: one point -/
structure Lnk (η x : Rat) (f g k : Rat → Rat) : Prop where
  big : ¬ Big η x g → Big η x k
  opp : ¬ Big η x g → f x * k x < 0
def Lnks (η x : Rat) : (Rat → Rat) → List (Rat → Rat) → Prop
  | _, [] => True
  | _, [g] => Big η x g
  | f, g :: k :: r => Lnk η x f g k ∧ Lnks η x g (k :: r)
theorem lnks_tri {η x : Rat} : ∀ (n : Nat) (f : Rat → Rat) (fs : List (Rat → Rat)), fs.length ≤ n → Lnks η x f fs → Tri η x f fs
  | _, f, [], _, _ => trivial
  | 0, f, g :: r, hl, _ => absurd hl (by simp)
  | n + 1, f, [g], _, h => h
  | n + 1, f, [g, k], hl, h => by
    by_cases hg : Big η x g
    · exact .inl ⟨hg, h.2⟩
    · exact .inr ⟨h.1.big hg, h.1.opp hg, trivial⟩
  | n + 1, f, g :: k :: j :: r, hl, h => by
    by_cases hg : Big η x g
    · exact .inl ⟨hg, lnks_tri n g (k :: j :: r) (by simp at hl ⊢; omega) h.2⟩
    · exact .inr ⟨h.1.big hg, h.1.opp hg, lnks_tri n k (j :: r) (by simp at hl ⊢; omega) h.2.2⟩
end Go.Sky
namespace Go.Sky
set_option linter.unusedVariables false
/-- one relation between three neighbours, or two at the end -/
def Rl3 (s t : Rat) (f g k : Rat → Rat) : Prop := ∃ m n Q : Rat, 0 < m ∧ 0 < n ∧ 0 < Q ∧ ∀ x, s ≤ x → x ≤ t → ∃ q, -Q ≤ q ∧ q ≤ Q ∧ m * f x = q * g x - n * k x
def Rl2 (s t : Rat) (f g : Rat → Rat) : Prop := ∃ m Q : Rat, 0 < m ∧ 0 < Q ∧ ∀ x, s ≤ x → x ≤ t → ∃ q, -Q ≤ q ∧ q ≤ Q ∧ m * f x = q * g x
def Rls (s t : Rat) : (Rat → Rat) → List (Rat → Rat) → Prop
  | _, [] => True
  | f, [g] => Rl2 s t f g
  | f, g :: k :: r => Rl3 s t f g k ∧ Rls s t g (k :: r)
/-- |q g| ≤ Q e where |q| ≤ Q, |g| ≤ e -/
theorem qg_le {q Q g e : Rat} (h1 : -Q ≤ q) (h2 : q ≤ Q) (h3 : -e ≤ g) (h4 : g ≤ e) (hQ : 0 ≤ Q) : q * g ≤ Q * e ∧ -(Q * e) ≤ q * g := by
  have a := Rat.mul_nonneg (a := Q - q) (b := e + g) (by grind) (by grind)
  have b := Rat.mul_nonneg (a := Q + q) (b := e - g) (by grind) (by grind)
  have c := Rat.mul_nonneg (a := Q - q) (b := e - g) (by grind) (by grind)
  have d := Rat.mul_nonneg (a := Q + q) (b := e + g) (by grind) (by grind)
  constructor <;> grind
theorem not_big {η x : Rat} {g : Rat → Rat} (h : ¬ Big η x g) : -η ≤ g x ∧ g x ≤ η := by
  unfold Big at h; constructor <;> grind
theorem big_le {η ε x : Rat} {g : Rat → Rat} (h : η ≤ ε) (hb : Big ε x g) : Big η x g := by
  unfold Big at *; grind
theorem ex_small {ε a b : Rat} (h : 0 < ε) (ha : 0 < a) (hb : 0 < b) : ∃ e : Rat, 0 < e ∧ e ≤ ε ∧ e * a ≤ b := by
  have h1 : 0 < b * a⁻¹ := Rat.mul_pos hb (Rat.inv_pos.2 ha)
  have h2 : b * a⁻¹ * a = b := by grind
  rcases (show ε ≤ b * a⁻¹ ∨ b * a⁻¹ ≤ ε by grind) with h3 | h3
  · exact ⟨ε, h, by grind, by have := Rat.mul_le_mul_of_nonneg_right h3 (show 0 ≤ a by grind); grind⟩
  · exact ⟨b * a⁻¹, h1, h3, by grind⟩
theorem pair3 {s t ε : Rat} {f g k : Rat → Rat} (h : Rl3 s t f g k) (he : 0 < ε) (hp : ∀ x, s ≤ x → x ≤ t → Big ε x f ∨ Big ε x g) :
    ∃ e, 0 < e ∧ (∀ x, s ≤ x → x ≤ t → Big e x g ∨ Big e x k) ∧ ∀ η, 0 < η → η ≤ e → ∀ x, s ≤ x → x ≤ t → Lnk η x f g k := by
  obtain ⟨m, n, Q, hm, hn, hQ, hr⟩ := h
  obtain ⟨e, e1, e2, e3⟩ := ex_small he (show 0 < Q + n by grind) (Rat.mul_pos hm he)
  have key : ∀ η, 0 < η → η ≤ e → ∀ x, s ≤ x → x ≤ t → ¬ Big η x g → Big η x k ∧ f x * k x < 0 := fun η h1 h2 x hs ht hg => by
    obtain ⟨q, q1, q2, q3⟩ := hr x hs ht
    obtain ⟨g1, g2⟩ := not_big hg
    obtain ⟨p1, p2⟩ := qg_le q1 q2 g1 g2 (by grind)
    have hf : Big ε x f := (hp x hs ht).resolve_right fun h => hg (big_le (by grind) h)
    have c1 : η * (Q + n) ≤ m * ε := by
      have := Rat.mul_le_mul_of_nonneg_right h2 (show 0 ≤ Q + n by grind); grind
    have c2 : 0 < η * n := Rat.mul_pos h1 hn
    rcases hf with hf | hf
    · have d1 : m * ε < m * f x := by have := Rat.mul_pos hm (show 0 < f x - ε by grind); grind
      have d2 : n * k x < - (n * η) := by grind
      have d3 : k x < -η := by
        rcases (show k x < -η ∨ -η ≤ k x by grind) with h9 | h9
        · exact h9
        · have := Rat.mul_nonneg (a := n) (b := k x + η) (by grind) (by grind); grind
      refine ⟨.inr d3, ?_⟩
      have := Rat.mul_pos (a := f x) (b := - k x) (by grind) (by grind); grind
    · have d1 : m * f x < - (m * ε) := by have := Rat.mul_pos hm (show 0 < -ε - f x by grind); grind
      have d2 : n * η < n * k x := by grind
      have d3 : η < k x := by
        rcases (show η < k x ∨ k x ≤ η by grind) with h9 | h9
        · exact h9
        · have := Rat.mul_nonneg (a := n) (b := η - k x) (by grind) (by grind); grind
      refine ⟨.inl d3, ?_⟩
      have := Rat.mul_pos (a := - f x) (b := k x) (by grind) (by grind); grind
  refine ⟨e, e1, fun x hs ht => ?_, fun η h1 h2 x hs ht => ⟨fun hg => (key η h1 h2 x hs ht hg).1, fun hg => (key η h1 h2 x hs ht hg).2⟩⟩
  by_cases hg : Big e x g
  · exact .inl hg
  · exact .inr (key e e1 (by grind) x hs ht hg).1
theorem pair2 {s t ε : Rat} {f g : Rat → Rat} (h : Rl2 s t f g) (he : 0 < ε) (hp : ∀ x, s ≤ x → x ≤ t → Big ε x f ∨ Big ε x g) :
    ∃ e, 0 < e ∧ ∀ η, 0 < η → η ≤ e → ∀ x, s ≤ x → x ≤ t → Big η x g := by
  obtain ⟨m, Q, hm, hQ, hr⟩ := h
  obtain ⟨e, e1, e2, e3⟩ := ex_small he hQ (Rat.mul_pos hm he)
  refine ⟨e, e1, fun η h1 h2 x hs ht => ?_⟩
  by_cases hg : Big η x g
  · exact hg
  · exfalso
    obtain ⟨q, q1, q2, q3⟩ := hr x hs ht
    obtain ⟨g1, g2⟩ := not_big hg
    obtain ⟨p1, p2⟩ := qg_le q1 q2 g1 g2 (by grind)
    have hf : Big ε x f := (hp x hs ht).resolve_right fun h => hg (big_le (by grind) h)
    have c1 : η * Q ≤ m * ε := by
      have := Rat.mul_le_mul_of_nonneg_right h2 (show 0 ≤ Q by grind); grind
    rcases hf with hf | hf
    · have := Rat.mul_pos hm (show 0 < f x - ε by grind); grind
    · have := Rat.mul_pos hm (show 0 < -ε - f x by grind); grind
theorem lnks_all {s t : Rat} : ∀ (n : Nat) (f : Rat → Rat) (fs : List (Rat → Rat)) (ε : Rat), fs.length ≤ n → Rls s t f fs → 0 < ε → (∀ g r, fs = g :: r → ∀ x, s ≤ x → x ≤ t → Big ε x f ∨ Big ε x g) →
    ∃ e, 0 < e ∧ ∀ η, 0 < η → η ≤ e → ∀ x, s ≤ x → x ≤ t → Lnks η x f fs
  | _, f, [], ε, _, _, he, _ => ⟨ε, he, fun _ _ _ _ _ _ => trivial⟩
  | 0, f, g :: r, ε, hl, _, _, _ => absurd hl (by simp)
  | n + 1, f, [g], ε, _, h, he, hp => pair2 h he (hp g [] rfl)
  | n + 1, f, g :: k :: r, ε, hl, h, he, hp => by
    obtain ⟨e, e1, e2, e3⟩ := pair3 h.1 he (hp g (k :: r) rfl)
    obtain ⟨e', e1', e2'⟩ := lnks_all n g (k :: r) e (by simp at hl ⊢; omega) h.2 e1 (fun k' r' heq => by
      injection heq with h1 h2; subst h1; exact e2)
    rcases (show e ≤ e' ∨ e' ≤ e by grind) with h9 | h9
    · exact ⟨e, e1, fun η h1 h2 x hs ht => ⟨e3 η h1 h2 x hs ht, e2' η h1 (by grind) x hs ht⟩⟩
    · exact ⟨e', e1', fun η h1 h2 x hs ht => ⟨e3 η h1 (by grind) x hs ht, e2' η h1 h2 x hs ht⟩⟩
/-- a common constant of Lipschitz -/
def Lip (s t L : Rat) (f : Rat → Rat) : Prop := ∀ x y, s ≤ x → x ≤ y → y ≤ t → f x - f y ≤ L * (y - x) ∧ f y - f x ≤ L * (y - x)
/-- the number of changes at a point -/
def vat (fs : List (Rat → Rat)) (x : Rat) : Int := chg (fs.map fun g => rsg (g x))
theorem step_eq {s t L δ : Rat} {f : Rat → Rat} {fs : List (Rat → Rat)} (hL : 0 < L) (hl : ∀ g ∈ f :: fs, Lip s t L g) (hd : 0 < δ) (hb : ∀ x, s ≤ x → x ≤ t → Big δ x f) (hr : Rls s t f fs) :
    ∃ h, 0 < h ∧ ∀ x y, s ≤ x → x ≤ y → y ≤ t → y - x ≤ h → vat (f :: fs) x = vat (f :: fs) y := by
  obtain ⟨e, e1, e2⟩ := lnks_all fs.length f fs δ (Nat.le_refl _) hr hd (fun g r _ x hs ht => .inl (hb x hs ht))
  obtain ⟨η, n1, n2, n3⟩ := ex_small hd (show (0 : Rat) < 1 by decide) e1
  obtain ⟨h, h1, h2, h3⟩ := ex_small n1 hL n1
  refine ⟨h, h1, fun x y hx hxy hy hh => SV.chg ?_⟩
  refine tri_sv (by grind) fs.length f fs (Nat.le_refl _) (big_le (by grind) (hb x hx (by grind))) (fun g hg => ?_) (lnks_tri _ _ _ (Nat.le_refl _) (e2 η n1 (by grind) x hx (by grind)))
  obtain ⟨a, b⟩ := hl g hg x y hx hxy hy
  have := Rat.mul_le_mul_of_nonneg_right hh (show 0 ≤ L by grind)
  exact ⟨by grind, by grind⟩
end Go.Sky
namespace Go.Sky
set_option linter.unusedVariables false
theorem vat_const {s t L δ : Rat} {f : Rat → Rat} {fs : List (Rat → Rat)} (hL : 0 < L) (hl : ∀ g ∈ f :: fs, Lip s t L g) (hd : 0 < δ) (hb : ∀ x, s ≤ x → x ≤ t → Big δ x f) (hr : Rls s t f fs) (hst : s ≤ t) :
    vat (f :: fs) s = vat (f :: fs) t := by
  obtain ⟨h, h1, h2⟩ := step_eq hL hl hd hb hr
  have key : ∀ n : Nat, ∀ y, s ≤ y → y ≤ t → y - s ≤ (n : Rat) * h → vat (f :: fs) s = vat (f :: fs) y := fun n => by
    induction n with
    | zero => intro y h3 h4 h5; have : y = s := by simp at h5; grind
              rw [this]
    | succ n ih =>
      intro y h3 h4 h5
      have h6 : ((n + 1 : Nat) : Rat) * h = (n : Rat) * h + h := by push_cast; grind
      rcases (show y - s ≤ (n : Rat) * h ∨ (n : Rat) * h < y - s by grind) with h7 | h7
      · exact ih y h3 h4 h7
      · have h8 : (0 : Rat) ≤ (n : Rat) * h := Rat.mul_nonneg (by exact_mod_cast Nat.zero_le n) (by grind)
        rcases (show s ≤ y - h ∨ y - h < s by grind) with h9 | h9
        · rw [ih (y - h) h9 (by grind) (by grind)]
          exact h2 (y - h) y h9 (by grind) h4 (by grind)
        · exact h2 s y (by grind) h3 h4 (by grind)
  have h3 : ∃ n : Nat, t - s ≤ (n : Rat) * h := by
    have h4 : 0 < h⁻¹ := Rat.inv_pos.2 h1
    refine ⟨((t - s) * h⁻¹).ceil.toNat, ?_⟩
    have h5 := @Rat.le_ceil ((t - s) * h⁻¹)
    have h6 : ((((t - s) * h⁻¹).ceil : Int) : Rat) ≤ ((((t - s) * h⁻¹).ceil.toNat : Nat) : Rat) := by
      have : ((t - s) * h⁻¹).ceil ≤ ((((t - s) * h⁻¹).ceil.toNat : Nat) : Int) := Int.self_le_toNat _
      exact_mod_cast this
    have h7 := Rat.mul_le_mul_of_nonneg_right (Rat.le_trans h5 h6) (show 0 ≤ h by grind)
    have h8 : (t - s) * h⁻¹ * h = t - s := by grind
    grind
  obtain ⟨n, hn⟩ := h3
  exact key n t hst (by grind) hn
end Go.Sky
namespace Go.Sky
set_option linter.unusedVariables false
/-- the value at a ratio -/
def rev : List Int → Rat → Rat
  | [], _ => 0
  | c :: p, x => (c : Rat) + x * rev p x
theorem ex_K (s t : Rat) : ∃ K : Rat, 0 < K ∧ ∀ x, s ≤ x → x ≤ t → -K ≤ x ∧ x ≤ K := by
  rcases (show (0 ≤ s ∨ s < 0) by grind) with h | h <;> rcases (show (0 ≤ t ∨ t < 0) by grind) with h' | h'
  · exact ⟨t + 1, by grind, fun x _ _ => by grind⟩
  · exact ⟨1, by grind, fun x _ _ => by grind⟩
  · exact ⟨t - s + 1, by grind, fun x _ _ => by grind⟩
  · exact ⟨-s + 1, by grind, fun x _ _ => by grind⟩
theorem rev_b (s t : Rat) : ∀ p : List Int, ∃ B : Rat, 0 < B ∧ ∀ x, s ≤ x → x ≤ t → -B ≤ rev p x ∧ rev p x ≤ B
  | [] => ⟨1, by decide, fun x _ _ => by unfold rev; grind⟩
  | c :: p => by
    obtain ⟨B, b1, b2⟩ := rev_b s t p
    obtain ⟨K, k1, k2⟩ := ex_K s t
    obtain ⟨C, c1, c2⟩ := ex_K (c : Rat) (c : Rat)
    have hc := c2 (c : Rat) (by grind) (by grind)
    refine ⟨C + K * B, by have := Rat.mul_pos k1 b1; grind, fun x hs ht => ?_⟩
    obtain ⟨d1, d2⟩ := b2 x hs ht
    obtain ⟨e1, e2⟩ := k2 x hs ht
    obtain ⟨f1, f2⟩ := qg_le e1 e2 d1 d2 (by grind)
    unfold rev
    constructor <;> grind
theorem rev_lip (s t : Rat) : ∀ p : List Int, ∃ L : Rat, 0 < L ∧ Lip s t L (rev p)
  | [] => ⟨1, by decide, fun x y _ _ _ => by unfold rev; constructor <;> grind⟩
  | c :: p => by
    obtain ⟨L, l1, l2⟩ := rev_lip s t p
    obtain ⟨B, b1, b2⟩ := rev_b s t p
    obtain ⟨K, k1, k2⟩ := ex_K s t
    refine ⟨K * L + B, by have := Rat.mul_pos k1 l1; grind, fun x y hs hxy ht => ?_⟩
    obtain ⟨a1, a2⟩ := l2 x y hs hxy ht
    obtain ⟨d1, d2⟩ := b2 y (by grind) ht
    obtain ⟨e1, e2⟩ := k2 x hs (by grind)
    obtain ⟨f1, f2⟩ := qg_le (q := x) (g := rev p x - rev p y) (e := L * (y - x)) e1 e2 (by grind) (by grind) (by grind)
    have g1 := Rat.mul_nonneg (a := B - rev p y) (b := y - x) (by grind) (by grind)
    have g2 := Rat.mul_nonneg (a := B + rev p y) (b := y - x) (by grind) (by grind)
    unfold rev
    constructor <;> grind
end Go.Sky
namespace Go.Sky
set_option linter.unusedVariables false
theorem rev_zero (x : Rat) : ∀ q : List Int, (∀ i, cf q i = 0) → rev q x = 0
  | [], _ => rfl
  | c :: q, h => by
    have h0 : c = 0 := h 0
    have h1 := rev_zero x q fun i => h (i + 1)
    unfold rev; rw [h1, h0]; grind
theorem rev_ext (x : Rat) : ∀ p q : List Int, (∀ i, cf p i = cf q i) → rev p x = rev q x
  | [], q, h => by rw [rev_zero x q fun i => (h i).symm.trans (cf_ge (Nat.zero_le _))]; rfl
  | c :: p, [], h => by rw [rev_zero x (c :: p) fun i => (h i).trans (cf_ge (Nat.zero_le _))]; rfl
  | c :: p, d :: q, h => by
    have h0 : c = d := h 0
    have h1 := rev_ext x p q fun i => h (i + 1)
    unfold rev; rw [h1, h0]
def ladd : List Int → List Int → List Int
  | [], q => q
  | p, [] => p
  | a :: p, b :: q => (a + b) :: ladd p q
theorem ladd_nil (p : List Int) : ladd p [] = p := by cases p <;> rfl
theorem rev_ladd (x : Rat) : ∀ p q : List Int, rev (ladd p q) x = rev p x + rev q x
  | [], q => by unfold ladd; show rev q x = 0 + rev q x; grind
  | a :: p, [] => by rw [ladd_nil]; show rev (a :: p) x = rev (a :: p) x + 0; grind
  | a :: p, b :: q => by
    have h := rev_ladd x p q
    unfold ladd rev; rw [h]; push_cast; grind
theorem cf_ladd : ∀ (p q : List Int) (i : Nat), cf (ladd p q) i = cf p i + cf q i
  | [], q, i => by unfold ladd; rw [show cf [] i = 0 from cf_ge (Nat.zero_le _)]; omega
  | a :: p, [], i => by rw [ladd_nil, show cf [] i = 0 from cf_ge (Nat.zero_le _)]; omega
  | a :: p, b :: q, 0 => rfl
  | a :: p, b :: q, i + 1 => cf_ladd p q i
theorem rev_smul (x : Rat) (c : Int) : ∀ p : List Int, rev (p.map fun a => c * a) x = (c : Rat) * rev p x
  | [] => by show (0 : Rat) = c * 0; grind
  | a :: p => by
    have h := rev_smul x c p
    simp only [List.map_cons]; unfold rev; rw [h]; push_cast; grind
theorem cf_smul (c : Int) : ∀ (p : List Int) (i : Nat), cf (p.map fun a => c * a) i = c * cf p i
  | [], i => by simp [cf]
  | a :: p, 0 => rfl
  | a :: p, i + 1 => cf_smul c p i
def lmul : List Int → List Int → List Int
  | [], _ => []
  | c :: p, q => ladd (q.map fun a => c * a) (0 :: lmul p q)
theorem rev_lmul (x : Rat) : ∀ p q : List Int, rev (lmul p q) x = rev p x * rev q x
  | [], q => by show (0 : Rat) = 0 * rev q x; grind
  | c :: p, q => by
    have h := rev_lmul x p q
    unfold lmul; rw [rev_ladd, rev_smul]
    show (c : Rat) * rev q x + (((0 : Int) : Rat) + x * rev (lmul p q) x) = ((c : Rat) + x * rev p x) * rev q x
    rw [h]; grind
end Go.Sky
namespace Go.Sky
set_option linter.unusedVariables false
theorem cf_lmul : ∀ (p q : List Int) (i : Nat), cf (lmul p q) i = sumTo (fun k => cf p k * cf q (i - k)) (i + 1)
  | [], q, i => by
    rw [show cf (lmul [] q) i = 0 from cf_ge (Nat.zero_le _)]
    exact (sumTo_z fun k _ => by rw [show cf [] k = 0 from cf_ge (Nat.zero_le _), Int.zero_mul]).symm
  | c :: p, q, 0 => by
    unfold lmul; rw [cf_ladd, cf_smul, sumTo_succ, sumTo_zero]
    show c * cf q 0 + 0 = 0 + c * cf q 0
    omega
  | c :: p, q, i + 1 => by
    have h := cf_lmul p q i
    unfold lmul; rw [cf_ladd, cf_smul, sumTo_first]
    show c * cf q (i + 1) + cf (lmul p q) i = c * cf q (i + 1) + _
    rw [h]
    congr 1
    refine sumTo_congr fun k hk => ?_
    show cf p k * cf q (i - k) = cf p k * cf q (i + 1 - (k + 1))
    rw [show i + 1 - (k + 1) = i - k by omega]
/-- a relation between coefficients, as one between values -/
theorem rel_rev {a c : Int} {x s y z : List Int} (h : ∀ t, a * cf x t = (ps s * ps y).c t - c * cf z t) (q : Rat) : (a : Rat) * rev x q = rev s q * rev y q - (c : Rat) * rev z q := by
  have h1 : ∀ t, cf (ladd (x.map fun b => a * b) (z.map fun b => c * b)) t = cf (lmul s y) t := fun t => by
    rw [cf_ladd, cf_smul, cf_smul, cf_lmul, h t, PS.mul_c]
    show sumTo (fun k => cf s k * cf y (t - k)) (t + 1) - c * cf z t + c * cf z t = _
    omega
  have h2 := rev_ext q _ _ h1
  rw [rev_ladd, rev_smul, rev_smul, rev_lmul] at h2
  grind
end Go.Sky
namespace Go.Sky
set_option linter.unusedVariables false
theorem rl3_snext {s t : Rat} {x y : List Int} (hx : Tr x) (hy : Tr y) (h0 : y ≠ []) (hl : y.length ≤ x.length) : Rl3 s t (rev x) (rev y) (rev (snext x y)) := by
  have l0 := List.length_pos_iff.2 h0
  obtain ⟨r1, r2, k, u, hk⟩ := rrem_id hy h0 x.length x hx (by omega)
  have hs := snext_ref (f := x.length) hx hy h0 hl (by omega)
  have htn : Tr (pneg (rrem x.length x y)) := tr_pscale _ _
  obtain ⟨m, n, hm, hn, hp⟩ := psim_pprim htn
  rw [hs] at hp
  have hK : 0 < rabs y ^ k := Int.pow_pos (rabs_pos hy h0)
  obtain ⟨B, b1, b2⟩ := rev_b s t u
  have hm' : (0 : Rat) < (m : Rat) := by exact_mod_cast hm
  have hn' : (0 : Rat) < (n : Rat) := by exact_mod_cast hn
  have hK' : (0 : Rat) < ((rabs y ^ k : Int) : Rat) := by exact_mod_cast hK
  refine ⟨(n : Rat) * ((rabs y ^ k : Int) : Rat), (m : Rat), (n : Rat) * B, Rat.mul_pos hn' hK', hm', Rat.mul_pos hn' b1, fun q hq1 hq2 => ⟨(n : Rat) * rev u q, ?_, ?_, ?_⟩⟩
  · have := Rat.mul_nonneg (a := (n : Rat)) (b := rev u q + B) (by grind) (by have := b2 q hq1 hq2; grind); grind
  · have := Rat.mul_nonneg (a := (n : Rat)) (b := B - rev u q) (by grind) (by have := b2 q hq1 hq2; grind); grind
  · have e1 := rel_rev (a := rabs y ^ k) (c := -1) (x := x) (s := u) (y := y) (z := rrem x.length x y) (fun t => by rw [hk t]; omega) q
    have e2 : rev ((snext x y).map fun b => m * b) q = rev ((rrem x.length x y).map fun b => (-n) * b) q := rev_ext q _ _ fun i => by
      rw [cf_smul, cf_smul, hp i, cf_pneg, Int.mul_neg, Int.neg_mul]
    rw [rev_smul, rev_smul] at e2
    push_cast at e1 e2 ⊢
    grind
end Go.Sky
namespace Go.Sky
set_option linter.unusedVariables false
theorem rl2_of {s t : Rat} {f g : Rat → Rat} (h : Rl3 s t f g (rev [])) : Rl2 s t f g := by
  obtain ⟨m, n, Q, hm, hn, hQ, hr⟩ := h
  refine ⟨m, Q, hm, hQ, fun x h1 h2 => ?_⟩
  obtain ⟨q, q1, q2, q3⟩ := hr x h1 h2
  refine ⟨q, q1, q2, ?_⟩
  have : rev [] x = 0 := rfl
  rw [this] at q3; grind
theorem rls_chain {s t : Rat} : ∀ (f : Nat) (a b : List Int), Tr a → Tr b → cok f a b → ∃ r, schain f a b = a :: r ∧ Rls s t (rev a) (r.map rev) ∧ (b = [] → r = []) ∧ (b ≠ [] → ∃ r', r = b :: r') := fun f => by
  induction f with
  | zero =>
    intro a b ha hb h
    have h0 : b = [] := h
    subst h0
    exact ⟨[], rfl, trivial, fun _ => rfl, fun h => absurd rfl h⟩
  | succ f ih =>
    intro a b ha hb h
    by_cases h0 : b = []
    · subst h0
      exact ⟨[], schain_nil _ _, trivial, fun _ => rfl, fun h => absurd rfl h⟩
    · obtain ⟨g, hg, hd, hle, hc, hs⟩ := cok_step h h0
      obtain rfl : f = g := by omega
      obtain ⟨r, h1, h2, h3, h4⟩ := ih b (snext a b) hb (tr_snext ha) hc
      have hR := rl3_snext (s := s) (t := t) ha hb h0 hle
      refine ⟨b :: r, by rw [hs, h1], ?_, fun h => absurd h h0, fun _ => ⟨r, rfl⟩⟩
      by_cases hz : snext a b = []
      · rw [h3 hz]
        rw [hz] at hR
        exact rl2_of hR
      · obtain ⟨r', rfl⟩ := h4 hz
        exact ⟨hR, h2⟩
end Go.Sky
namespace Go.Sky
set_option linter.unusedVariables false
theorem lip_mono {s t L M : Rat} {f : Rat → Rat} (h : L ≤ M) (hf : Lip s t L f) : Lip s t M f := fun x y h1 h2 h3 => by
  obtain ⟨a, b⟩ := hf x y h1 h2 h3
  have := Rat.mul_le_mul_of_nonneg_right h (show 0 ≤ y - x by grind)
  constructor <;> grind
theorem lip_all (s t : Rat) : ∀ ls : List (List Int), ∃ L : Rat, 0 < L ∧ ∀ g ∈ ls.map rev, Lip s t L g
  | [] => ⟨1, by decide, fun g hg => by cases hg⟩
  | p :: ls => by
    obtain ⟨L, l1, l2⟩ := lip_all s t ls
    obtain ⟨M, m1, m2⟩ := rev_lip s t p
    refine ⟨L + M, by grind, fun g hg => ?_⟩
    rw [List.map_cons] at hg
    rcases List.mem_cons.1 hg with rfl | hg
    · exact lip_mono (by grind) m2
    · exact lip_mono (by grind) (l2 g hg)
/-- no change of the number of changes of sign where the head has no root -/
theorem schain_const {s t δ : Rat} {f : Nat} {a b : List Int} (ha : Tr a) (hb : Tr b) (hc : cok f a b) (hst : s ≤ t) (hd : 0 < δ) (hB : ∀ x, s ≤ x → x ≤ t → Big δ x (rev a)) :
    vat ((schain f a b).map rev) s = vat ((schain f a b).map rev) t := by
  obtain ⟨r, h1, h2, _, _⟩ := rls_chain (s := s) (t := t) f a b ha hb hc
  obtain ⟨L, l1, l2⟩ := lip_all s t (schain f a b)
  rw [h1] at l2 ⊢
  exact vat_const l1 l2 hd hB h2 hst
end Go.Sky
namespace Go.Sky
set_option linter.unusedVariables false
/-- the bound of Cauchy, one side: values beyond a bound of the coefficients -/
theorem rev_abs {K x : Rat} (hK : 0 ≤ K) (hx : 1 < x) : ∀ p : List Int, (∀ c ∈ p, -K ≤ (c : Rat) ∧ (c : Rat) ≤ K) → -(K * (x ^ p.length - 1)) ≤ (x - 1) * rev p x ∧ (x - 1) * rev p x ≤ K * (x ^ p.length - 1)
  | [], _ => by simp only [List.length_nil]; show _ ≤ (x - 1) * 0 ∧ (x - 1) * 0 ≤ _; constructor <;> grind
  | c :: p, h => by
    obtain ⟨a, b⟩ := rev_abs hK hx p fun d hd => h d (List.mem_cons_of_mem _ hd)
    obtain ⟨c1, c2⟩ := h c (List.mem_cons_self ..)
    have e1 := Rat.mul_nonneg (a := x - 1) (b := K - c) (by grind) (by grind)
    have e2 := Rat.mul_nonneg (a := x - 1) (b := K + c) (by grind) (by grind)
    have e3 := Rat.mul_nonneg (a := x) (b := K * (x ^ p.length - 1) - (x - 1) * rev p x) (by grind) (by grind)
    have e4 := Rat.mul_nonneg (a := x) (b := K * (x ^ p.length - 1) + (x - 1) * rev p x) (by grind) (by grind)
    rw [List.length_cons, Rat.pow_succ]
    unfold rev
    clear h a b
    generalize x ^ p.length = P at *
    generalize rev p x = R at *
    generalize (c : Rat) = C at *
    constructor <;> grind
end Go.Sky
namespace Go.Sky
set_option linter.unusedVariables false
theorem rev_snoc (x : Rat) (l : Int) : ∀ p : List Int, rev (p ++ [l]) x = rev p x + (l : Rat) * x ^ p.length
  | [] => by show (l : Rat) + x * 0 = 0 + l * x ^ 0; rw [Rat.pow_zero]; grind
  | c :: p => by
    have h := rev_snoc x l p
    rw [List.cons_append, List.length_cons, Rat.pow_succ]
    unfold rev; rw [h]; grind
theorem pow_ge1 {x : Rat} (hx : 1 ≤ x) : ∀ n : Nat, 1 ≤ x ^ n
  | 0 => by rw [Rat.pow_zero]; decide
  | n + 1 => by
    have h := pow_ge1 hx n
    rw [Rat.pow_succ]
    have := Rat.mul_nonneg (a := x ^ n - 1) (b := x - 1) (by grind) (by grind)
    grind
/-- beyond the bound the lead says the sign -/
theorem rev_lead {K x : Rat} {l : Int} {p : List Int} (hK : 0 ≤ K) (hx : 1 < x) (h : ∀ c ∈ p, -K ≤ (c : Rat) ∧ (c : Rat) ≤ K) (hl : K + 1 ≤ (x - 1) * (l : Rat)) : 1 ≤ (x - 1) * rev (p ++ [l]) x := by
  obtain ⟨a, b⟩ := rev_abs hK hx p h
  have h1 := pow_ge1 (show 1 ≤ x by grind) p.length
  rw [rev_snoc]
  clear h b
  generalize x ^ p.length = P at *
  generalize rev p x = R at *
  generalize (l : Rat) = C at *
  have := Rat.mul_nonneg (a := (x - 1) * C - K - 1) (b := P) (by grind) (by grind)
  grind
end Go.Sky
namespace Go.Sky
set_option linter.unusedVariables false
/-- the polynomial at -x -/
def alt : List Int → List Int
  | [] => []
  | c :: p => c :: (alt p).map fun a => -1 * a
theorem length_alt : ∀ p : List Int, (alt p).length = p.length
  | [] => rfl
  | c :: p => by unfold alt; rw [List.length_cons, List.length_map, length_alt p, List.length_cons]
theorem rev_alt (x : Rat) : ∀ p : List Int, rev (alt p) x = rev p (-x)
  | [] => rfl
  | c :: p => by
    have h := rev_alt x p
    unfold alt rev; rw [rev_smul, h]; push_cast; grind
theorem cf_alt : ∀ (p : List Int) (i : Nat), cf (alt p) i = (if i % 2 = 0 then cf p i else - cf p i)
  | [], i => by rw [show cf (alt []) i = 0 from cf_ge (Nat.zero_le _), show cf [] i = 0 from cf_ge (Nat.zero_le _)]; split <;> rfl
  | c :: p, 0 => rfl
  | c :: p, i + 1 => by
    have h := cf_alt p i
    show cf ((alt p).map fun a => -1 * a) i = if (i + 1) % 2 = 0 then cf p i else - cf p i
    rw [cf_smul, h]
    split <;> split <;> omega
end Go.Sky
namespace Go.Sky
set_option linter.unusedVariables false
theorem smost_ge : ∀ (l : List Int) (m : Nat), m ≤ l.foldl (fun m c => max m c.natAbs) m ∧ ∀ c ∈ l, c.natAbs ≤ l.foldl (fun m c => max m c.natAbs) m
  | [], m => ⟨Nat.le_refl _, fun c hc => by cases hc⟩
  | a :: l, m => by
    obtain ⟨h1, h2⟩ := smost_ge l (max m a.natAbs)
    refine ⟨Nat.le_trans (Nat.le_max_left _ _) h1, fun c hc => ?_⟩
    rcases List.mem_cons.1 hc with rfl | hc
    · exact Nat.le_trans (Nat.le_max_right _ _) h1
    · exact h2 c hc
theorem split_last {xs : List Int} (h : xs ≠ []) : xs = xs.take (xs.length - 1) ++ [cf xs (xs.length - 1)] := by
  have hl := List.length_pos_iff.2 h
  have := take_snoc 0 xs (xs.length - 1) (by omega)
  rw [show xs.length - 1 + 1 = xs.length by omega, List.take_length] at this
  exact this
/-- beyond the bound of the roots -/
theorem beyond {xs : List Int} (h0 : xs ≠ []) (hl : 0 < cf xs (xs.length - 1)) {x : Rat} (hx : ((sbound xs : Int) : Rat) ≤ x) : 1 < x ∧ 1 ≤ (x - 1) * rev xs x := by
  have hk : ∀ c ∈ xs.take (xs.length - 1), c.natAbs ≤ smost xs := (smost_ge _ 0).2
  have hb : ((smost xs : Nat) : Int) + 1 ≤ (sbound xs - 1) * cf xs (xs.length - 1) := by
    unfold sbound
    have h1 : ((cf xs (xs.length - 1)).natAbs : Int) = cf xs (xs.length - 1) := by omega
    generalize cf xs (xs.length - 1) = l at *
    obtain ⟨n, rfl⟩ := Int.eq_ofNat_of_zero_le (Int.le_of_lt hl)
    have h2 : (Int.natAbs (n : Int)) = n := by omega
    rw [h2]
    have h3 := Nat.lt_mul_div_succ (smost xs) (show 0 < n by omega)
    have h4 : ((smost xs / n : Nat) : Int) + 2 - 1 = ((smost xs / n + 1 : Nat) : Int) := by omega
    rw [h4, ← Int.natCast_mul, Nat.mul_comm]
    omega
  have hb1 : 2 ≤ sbound xs := by
    unfold sbound
    generalize smost xs / (cf xs (xs.length - 1)).natAbs = q
    omega
  have hb2 : (2 : Rat) ≤ ((sbound xs : Int) : Rat) := by exact_mod_cast hb1
  have hl' : (0 : Rat) < ((cf xs (xs.length - 1) : Int) : Rat) := by exact_mod_cast hl
  have hb3 : ((smost xs : Nat) : Rat) + 1 ≤ (((sbound xs : Int) : Rat) - 1) * ((cf xs (xs.length - 1) : Int) : Rat) := by exact_mod_cast hb
  have hb4 : ((smost xs : Nat) : Rat) + 1 ≤ (x - 1) * ((cf xs (xs.length - 1) : Int) : Rat) := by
    have := Rat.mul_nonneg (a := x - ((sbound xs : Int) : Rat)) (b := ((cf xs (xs.length - 1) : Int) : Rat)) (by grind) (by grind)
    grind
  refine ⟨by grind, ?_⟩
  rw [split_last h0]
  refine rev_lead (K := ((smost xs : Nat) : Rat)) (by exact_mod_cast Nat.zero_le _) (by grind) (fun c hc => ?_) hb4
  have h5 := hk c hc
  constructor
  · have : -c ≤ ((smost xs : Nat) : Int) := by omega
    have h6 : -(c : Rat) ≤ ((smost xs : Nat) : Rat) := by exact_mod_cast this
    grind
  · have : c ≤ ((smost xs : Nat) : Int) := by omega
    exact_mod_cast this
end Go.Sky
namespace Go.Sky
set_option linter.unusedVariables false
theorem pev_cons (c : Int) (p : List Int) (X Y : Int) (h : p ≠ []) : pev (c :: p) X Y = c * Y ^ p.length + X * pev p X Y := by
  have hl := List.length_pos_iff.2 h
  unfold pev
  rw [List.length_cons, sumTo_first, ← sumTo_mul]
  congr 1
  · show c * (X ^ 0 * Y ^ (p.length + 1 - 1 - 0)) = _
    rw [Int.pow_zero, Int.one_mul, show p.length + 1 - 1 - 0 = p.length by omega]
  · refine sumTo_congr fun i hi => ?_
    show cf p i * (X ^ (i + 1) * Y ^ (p.length + 1 - 1 - (i + 1))) = X * (cf p i * (X ^ i * Y ^ (p.length - 1 - i)))
    rw [show p.length + 1 - 1 - (i + 1) = p.length - 1 - i by omega, Int.pow_succ]
    grind
theorem pev_rev {X Y : Int} (hY : 0 < Y) : ∀ p : List Int, ((pev p X Y : Int) : Rat) = rev p ((X : Rat) / (Y : Rat)) * (Y : Rat) ^ (p.length - 1)
  | [] => by show (0 : Rat) = 0 * _; grind
  | [c] => by
    have : pev [c] X Y = c := by unfold pev; show 0 + c * (X ^ 0 * Y ^ 0) = c; rw [Int.pow_zero, Int.pow_zero]; omega
    rw [this]; show (c : Rat) = (c + X / Y * 0) * (Y : Rat) ^ 0; rw [Rat.pow_zero]; grind
  | c :: d :: p => by
    have h := pev_rev (X := X) hY (d :: p)
    rw [pev_cons c (d :: p) X Y (by simp)]
    have hy : (Y : Rat) ≠ 0 := by have : (0 : Rat) < (Y : Rat) := by exact_mod_cast hY
                                  grind
    push_cast
    rw [h]
    show (c : Rat) * (Y : Rat) ^ (p.length + 1) + X * (rev (d :: p) (X / Y) * (Y : Rat) ^ (p.length + 1 - 1)) = ((c : Rat) + X / Y * rev (d :: p) (X / Y)) * (Y : Rat) ^ (p.length + 1 + 1 - 1)
    rw [show p.length + 1 - 1 = p.length by omega, show p.length + 1 + 1 - 1 = p.length + 1 by omega, Rat.pow_succ]
    generalize rev (d :: p) (X / Y) = R
    generalize (Y : Rat) ^ p.length = P
    have : (X : Rat) / Y * Y = X := by grind
    grind
theorem sign_rsg {z : Int} {r q : Rat} (hq : 0 < q) (h : (z : Rat) = r * q) : z.sign = rsg r := by
  rcases (show r < 0 ∨ r = 0 ∨ 0 < r by grind) with h1 | h1 | h1
  · rw [rsg_neg h1]
    have := Rat.mul_pos (a := -r) (b := q) (by grind) hq
    have h2 : (z : Rat) < 0 := by grind
    have h3 : z < 0 := by exact_mod_cast h2
    exact Int.sign_eq_neg_one_of_neg h3
  · subst h1
    have h2 : (z : Rat) = 0 := by grind
    have h3 : z = 0 := by exact_mod_cast h2
    subst h3; rfl
  · rw [rsg_pos h1]
    have := Rat.mul_pos h1 hq
    have h2 : (0 : Rat) < z := by grind
    have h3 : 0 < z := by exact_mod_cast h2
    exact Int.sign_eq_one_of_pos h3
theorem fat_rsg {X Y : Int} (hY : 0 < Y) (p : List Int) : fat X Y p = rsg (rev p ((X : Rat) / (Y : Rat))) := by
  have : (0 : Rat) < (Y : Rat) := by exact_mod_cast hY
  exact sign_rsg (Rat.pow_pos this) (pev_rev hY p)
end Go.Sky
namespace Go.Sky
set_option linter.unusedVariables false
theorem sm_congr {p q : List Int} (hl : p.length = q.length) (h : ∀ i, (cf p i).natAbs = (cf q i).natAbs) : ∀ i, i ≤ p.length → sm p i = sm q i
  | 0, _ => rfl
  | i + 1, hi => by rw [sm_succ (by omega), sm_succ (by omega), sm_congr hl h i (by omega), h i]
theorem sbound_congr {p q : List Int} (hl : p.length = q.length) (h : ∀ i, (cf p i).natAbs = (cf q i).natAbs) : sbound p = sbound q := by
  have h1 : smost p = smost q := by
    show sm p (p.length - 1) = sm q (q.length - 1)
    rw [← hl]; exact sm_congr hl h _ (by omega)
  unfold sbound; rw [h1, ← hl, h]
/-- far to the right, with a bound from below -/
theorem right_big {p : List Int} (h0 : p ≠ []) (hl : cf p (p.length - 1) ≠ 0) {x : Rat} (hx : ((sbound p : Int) : Rat) ≤ x) : 1 < x ∧ rsg (rev p x) = fr p ∧ (1 ≤ (x - 1) * rev p x ∨ (x - 1) * rev p x ≤ -1) := by
  rcases (show 0 < cf p (p.length - 1) ∨ cf p (p.length - 1) < 0 by omega) with h | h
  · obtain ⟨h1, h2⟩ := beyond h0 h hx
    have h3 : 0 < rev p x := by
      rcases (show 0 < rev p x ∨ rev p x ≤ 0 by grind) with h9 | h9
      · exact h9
      · have := Rat.mul_nonneg (a := x - 1) (b := -rev p x) (by grind) (by grind); grind
    exact ⟨h1, by rw [rsg_pos h3]; unfold fr; rw [Int.sign_eq_one_of_pos h], .inl h2⟩
  · have hlm : (p.map fun a => -1 * a).length = p.length := by simp
    have hb : sbound (p.map fun a => -1 * a) = sbound p := sbound_congr hlm fun i => by rw [cf_smul]; omega
    have hx2 : ((sbound (p.map fun a => -1 * a) : Int) : Rat) ≤ x := by rw [hb]; exact hx
    obtain ⟨h1, h2⟩ := beyond (xs := p.map fun a => -1 * a) (fun e => h0 (List.map_eq_nil_iff.1 e)) (by rw [hlm, cf_smul]; omega) hx2
    rw [rev_smul] at h2
    push_cast at h2
    have h3 : rev p x < 0 := by
      rcases (show rev p x < 0 ∨ 0 ≤ rev p x by grind) with h9 | h9
      · exact h9
      · have := Rat.mul_nonneg (a := x - 1) (b := rev p x) (by grind) (by grind); grind
    exact ⟨h1, by rw [rsg_neg h3]; unfold fr; rw [Int.sign_eq_neg_one_of_neg h], .inr (by grind)⟩
/-- far to the left -/
theorem left_big {p : List Int} (h0 : p ≠ []) (hl : cf p (p.length - 1) ≠ 0) {x : Rat} (hx : ((sbound p : Int) : Rat) ≤ x) : 1 < x ∧ rsg (rev p (-x)) = fl p ∧ (1 ≤ (x - 1) * rev p (-x) ∨ (x - 1) * rev p (-x) ≤ -1) := by
  have hla := length_alt p
  have l0 := List.length_pos_iff.2 h0
  have hb : sbound (alt p) = sbound p := sbound_congr hla fun i => by rw [cf_alt]; split <;> omega
  have hx2 : ((sbound (alt p) : Int) : Rat) ≤ x := by rw [hb]; exact hx
  obtain ⟨h1, h2, h3⟩ := right_big (p := alt p) (fun e => h0 (List.eq_nil_of_length_eq_zero (by rw [← hla, e]; rfl))) (by rw [hla, cf_alt]; split <;> omega) hx2
  rw [rev_alt] at h2 h3
  refine ⟨h1, ?_, h3⟩
  rw [h2]
  unfold fr fl
  rw [hla, cf_alt]
  by_cases hp : p.length % 2 = 0
  · rw [if_pos hp, if_neg (by omega), Int.sign_neg]
  · rw [if_neg hp, if_pos (by omega)]
end Go.Sky

