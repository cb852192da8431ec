/- rules, arithmetic and contracts: part 12
   Proved without conditions of its own: each theorem bears its own. -/
import Derived.Test.YtcegclhbeflgbaaGreatSf02
import Derived.Test.YtcegclhbeflgbaaGreatSf01
import Derived.Test.YtcegclhbeflgbaaGreatSf03
import Derived.Test.YtcegclhbeflgbaaGreatSf10
import Derived.Test.YtcegclhbeflgbaaGreatSf04
set_option linter.all false
namespace Go.Sky
open Go.Proofs
set_option maxRecDepth 20000
set_option maxHeartbeats 4000000
set_option linter.unusedVariables false
set_option linter.unusedSimpArgs false
theorem st_split_step (bh bo bl bs : Nat) (vl : Value) (ls : List (SL × List Int)) (hv : Int) (hvz : ∀ z ∈ ls, Vp z.2) (hll : ls.length ≤ 1000) (f : Nat) (ih : ∀ (vo : Value) (os : List (R2 × R2)) (a b : R2) (fr to : Int) (d : Nat) (ha : okQ a) (hb : okQ b) (hfr : -100000 ≤ fr ∧ fr ≤ 100000) (hto : -100000 ≤ to ∧ to ≤ 100000) (hok : ispOK (cvx ls) (evok ls) hv f a b fr to d) (hln : os.length + (isp (cvx ls) hv f a b fr to d).length ≤ 1000000), CalP Tryz.prog 85 #[iq (a, b), .int .i64 fr, .int .i64 to, .int .i64 (d : Int), .pointer (some ⟨bh, 0, none⟩), .pointer (some ⟨bo, 0, none⟩), .pointer (some ⟨bl, 0, none⟩), .pointer (some ⟨bs, 0, none⟩)] [rbox bh 3 #[.int .i64 hv], rbox bl 44 #[vl], deep 1 encS qZ vl ls, rbox bs 113 #[.func (.func 85) #[] #[.pointer (some ⟨bh, 0, none⟩), .pointer (some ⟨bo, 0, none⟩), .pointer (some ⟨bl, 0, none⟩), .pointer (some ⟨bs, 0, none⟩)]]] (gb bo 69 8 79 iq vo os) (G := Value) (fun _ => True) (fun _ => .int .i64 0) (fun g => gb bo 69 8 79 iq g (os ++ isp (cvx ls) hv f a b fr to d))) (vo : Value) (os : List (R2 × R2)) (a b : R2) (fr to : Int) (d : Nat) (ha : okQ a) (hb : okQ b) (hfr : -100000 ≤ fr ∧ fr ≤ 100000) (hto : -100000 ≤ to ∧ to ≤ 100000) (hok : ispOK (cvx ls) (evok ls) hv (f + 1) a b fr to d) (hln : os.length + (isp (cvx ls) hv (f + 1) a b fr to d).length ≤ 1000000) : CalP Tryz.prog 85 #[iq (a, b), .int .i64 fr, .int .i64 to, .int .i64 (d : Int), .pointer (some ⟨bh, 0, none⟩), .pointer (some ⟨bo, 0, none⟩), .pointer (some ⟨bl, 0, none⟩), .pointer (some ⟨bs, 0, none⟩)] [rbox bh 3 #[.int .i64 hv], rbox bl 44 #[vl], deep 1 encS qZ vl ls, rbox bs 113 #[.func (.func 85) #[] #[.pointer (some ⟨bh, 0, none⟩), .pointer (some ⟨bo, 0, none⟩), .pointer (some ⟨bl, 0, none⟩), .pointer (some ⟨bs, 0, none⟩)]]] (gb bo 69 8 79 iq vo os) (G := Value) (fun _ => True) (fun _ => .int .i64 0) (fun g => gb bo 69 8 79 iq g (os ++ (isp (cvx ls) hv (f + 1) a b fr to d))) := by
  refine calp_in Tryz.func85 rfl Tryz.ntmps85 rfl ⟨rfl, rfl, rfl, rfl, trivial⟩ ?_
  intro w0 sc hw hsc
  simp only [enumEnv, enumPre]
  obtain ⟨ha1, ha2, ha3⟩ := ha
  obtain ⟨hb1, hb2, hb3⟩ := hb
  have hcm := chg_range (sgx ls (fat (smid a b).1 (smid a b).2))
  rw [length_sgx] at hcm
  have hcv : cvx ls (smid a b) = chg (sgx ls (fat (smid a b).1 (smid a b).2)) := rfl
  refine e_imp (s_gsplit 1 60 rfl rfl rfl) ?_
  refine e_imp (s_nil 999 2 28 wv) ?_
  refine e_imp (s_pub 999 rfl rfl pV) ?_
  refine e_seq ?_
  refine e_reg ?_
  refine tt (t_box (i := 6) rfl rfl rfl rfl rfl rfl hw) rfl (fun bx _ => ?_)
  refine as_ rfl rfl ?_
  refine l_nil ?_
  refine x_then ?_
  refine e_seq ?_
  refine e_block ?_
  refine e_seq ?_
  refine e_reg ?_
  refine mv rfl rfl ?_
  refine mv rfl rfl ?_
  refine dt (d_eql rfl rfl rfl) rfl ?_
  refine as_ rfl rfl ?_
  refine l_nil ?_
  refine x_then ?_
  refine e_cond rfl (fun h231 => ?_) (fun h231 => ?_)
  · have hI : (isp (cvx ls) hv (f + 1) a b fr to d) = [] := by unfold isp; rw [if_pos h231]
    refine e_seq ?_
    refine e_reg ?_
    refine as_ rfl rfl ?_
    refine l_nil ?_
    refine x_then ?_
    refine e_ret ?_
    refine x_br ?_
    refine x_ret ?_
    refine x_imp (s_gjoin 1 60 rfl rfl rfl rfl rfl) ?_
    exact x_endp (.inl rfl) hsc vo _ (fun a w hs => res1 hs Tryz.results85 rfl) rfl trivial 1 (by rw [hI, List.append_nil] <;> rfl) rfl rfl rfl (pre_same 2 rfl rfl rfl (pre_same 3 rfl rfl rfl (pre_same 4 rfl rfl rfl (pre_same 5 rfl rfl rfl pre_nil))))
  · have hne : ¬ fr = to := h231
    refine e_jn [(1, _), (2, _), (3, _), (5, _), (6, _), (7, _), (8, _)] [(0, _), (2, _), (3, _), (4, _), (5, _), (1, _), (60, _), (999, _), (6, _)] (fun (_j : Unit) => [(21, .bool (decide (fr - to = 1 ∧ hv ≤ (d : Int))))]) (fun (_j : Unit) => []) (fun (_j : Unit) => True) ⟨rfl, rfl, rfl, rfl, rfl, rfl, rfl, trivial⟩ ⟨rfl, rfl, rfl, rfl, rfl, rfl, rfl, rfl, rfl, trivial⟩ ?_ ?_
    · refine e_reg ?_
      refine mv rfl rfl ?_
      refine mv rfl rfl ?_
      refine dt (d_sub rfl rfl rfl ⟨by omega, by omega⟩) rfl ?_
      refine dt (d_eql rfl rfl rfl) rfl ?_
      refine mv rfl rfl ?_
      refine l_split (d := 26) rfl (fun s233 => ?_) (fun s233 => ?_)
      · refine gdt (d_mv rfl rfl) rfl rfl rfl rfl ?_
        refine gdt (d_lr (i := 2) rfl rfl rfl Tryz.isAgg3 rfl) rfl rfl rfl rfl ?_
        refine gdt (d_geq rfl rfl rfl) rfl rfl rfl rfl ?_
        refine dt (d_pickt rfl rfl rfl) rfl ?_
        refine as_ rfl rfl ?_
        refine l_nil ?_
        exact x_jn () trivial ⟨by first | exact congrArg (fun z => some (Value.bool z)) (decide_eq_decide.2 (by omega)) | exact congrArg (fun z => some (Value.bool z)) (decide_eq_false (by omega)).symm, rfl, rfl, rfl, rfl, rfl, rfl, rfl, trivial⟩ ⟨rfl, rfl, rfl, rfl, rfl, rfl, rfl, rfl, rfl, trivial⟩
      · refine gsk rfl rfl rfl rfl rfl ?_
        refine gsk rfl rfl rfl rfl rfl ?_
        refine gsk rfl rfl rfl rfl rfl ?_
        refine dt (d_pickf rfl rfl rfl) rfl ?_
        refine as_ rfl rfl ?_
        refine l_nil ?_
        exact x_jn () trivial ⟨by first | exact congrArg (fun z => some (Value.bool z)) (decide_eq_decide.2 (by omega)) | exact congrArg (fun z => some (Value.bool z)) (decide_eq_false (by omega)).symm, rfl, rfl, rfl, rfl, rfl, rfl, rfl, trivial⟩ ⟨rfl, rfl, rfl, rfl, rfl, rfl, rfl, rfl, rfl, trivial⟩
    · rintro _j -
      simp only [List.cons_append, List.nil_append]
      refine e_cond rfl (fun h233 => ?_) (fun h233 => ?_)
      · have hI : (isp (cvx ls) hv (f + 1) a b fr to d) = [(a, b)] := by unfold isp; rw [if_neg hne, if_pos h233]
        rw [hI] at hln
        simp only [List.length_singleton] at hln
        refine e_seq ?_
        refine e_reg ?_
        refine dt (d_lb (i := 1) rfl rfl rfl Tryz.isAgg69 rfl) rfl ?_
        refine dt (d_lb8 (i := 6) rfl rfl rfl Tryz.isAgg79 Tryz.sizeOf79 rfl rfl rfl rfl rfl rfl rfl rfl) rfl ?_
        refine tt (t_bsg (i := 7) (ivs := [(0, _)]) (enc := iq) [(a, b)] rfl rfl rfl ⟨rfl, rfl, trivial⟩ Tryz.underlying69 Tryz.ti79 rfl rfl rfl (fill18 _ _ _ _ _ _ _ _ _ _ _ _ _ _ _ _) rfl rfl pY.cells rfl rfl hw) rfl (fun v _ => ?_)
        refine tt (t_appa (i := 60) (j := 7) (by_ := 96) rfl rfl rfl rfl rfl rfl (by decide) rfl (rd_osl pY) Tryz.underlying69 Tryz.ti79 rfl pY rfl rfl rfl (by simp; omega) (by decide) rfl hw) rfl (fun v_2 _ => ?_)
        refine tt (t_st1 (i := 1) rfl rfl rfl rfl rfl (by decide) Tryz.sizeOf69 (one_rd (i := 60) rfl (rd_osl pY)) rfl hw trivial) rfl (fun _ _ => ?_)
        refine l_nil ?_
        refine x_then ?_
        refine e_seq ?_
        refine e_reg ?_
        refine as_ rfl rfl ?_
        refine l_nil ?_
        refine x_then ?_
        refine e_ret ?_
        refine x_br ?_
        refine x_ret ?_
        refine x_imp (s_gjoin 1 60 rfl rfl rfl rfl rfl) ?_
        exact x_endp (.inl rfl) hsc v_2 _ (fun a w hs => res1 hs Tryz.results85 rfl) rfl trivial 1 (by rw [hI] <;> rfl) rfl rfl rfl (pre_same 2 rfl rfl rfl (pre_same 3 rfl rfl rfl (pre_same 4 rfl rfl rfl (pre_same 5 rfl rfl rfl pre_nil))))
      · have hnl : ¬ (fr - to = 1 ∧ hv ≤ (d : Int)) := h233
        obtain ⟨hdl, hmid, hev, hk1, hk2⟩ : d < 1000 ∧ midOK a b ∧ evok ls (smid a b) ∧ ispOK (cvx ls) (evok ls) hv f a (smid a b) fr (cvx ls (smid a b)) (d + 1) ∧ ispOK (cvx ls) (evok ls) hv f (smid a b) b (cvx ls (smid a b)) to (d + 1) := by
          rcases hok with h | h | h
          · exact absurd h hne
          · exact absurd h hnl
          · exact h
        have hI : (isp (cvx ls) hv (f + 1) a b fr to d) = isp (cvx ls) hv f a (smid a b) fr (cvx ls (smid a b)) (d + 1) ++ isp (cvx ls) hv f (smid a b) b (cvx ls (smid a b)) to (d + 1) := by
          conv => lhs; unfold isp
          rw [if_neg hne, if_neg hnl]
        rw [hI, List.length_append] at hln
        obtain ⟨hm1, hm2⟩ := midOK_bl hmid
        have hm3 := midOK_pos hmid ha3 hb3
        have hme := midOK_err hmid
        have hcr : -100000 ≤ cvx ls (smid a b) ∧ cvx ls (smid a b) ≤ 100000 := by rw [hcv]; omega
        refine e_seq ?_
        refine e_reg ?_
        refine mv rfl rfl ?_
        refine dt (d_geq rfl rfl rfl) rfl ?_
        refine as_ rfl rfl ?_
        refine l_nil ?_
        refine x_then ?_
        refine e_cond rfl (fun h236 => ?_) (fun h236 => ?_)
        · exfalso; omega
        · refine e_skip ?_
          refine x_bn ?_
          refine x_then ?_
          refine e_seq ?_
          refine e_reg ?_
          refine dt (d_fa rfl rfl Tryz.underlying79 rfl Tryz.sizeOf49 rfl rfl) rfl ?_
          refine dt (d_lb4 (i := 6) rfl rfl rfl Tryz.isAgg49 Tryz.sizeOf49 rfl rfl rfl rfl) rfl ?_
          refine dt (d_fa rfl rfl Tryz.underlying79 rfl Tryz.sizeOf49 rfl rfl) rfl ?_
          refine dt (d_lb4 (i := 6) rfl rfl rfl Tryz.isAgg49 Tryz.sizeOf49 rfl rfl rfl rfl) rfl ?_
          refine tt (t_call (n := 7) (st_middle _ _ _ _ ha1 ha2 hb1 hb2 ha3 hb3 hmid.1) rfl rfl rfl ⟨rfl, rfl, trivial⟩ Tryz.call86 pre_nil rfl hw) rfl (fun _ _ => ?_)
          refine mv rfl rfl ?_
          refine dt (d_ex rfl rfl rfl) rfl ?_
          refine dt (d_ex rfl rfl rfl) rfl ?_
          refine tt (t_alloc (i := 8) rfl rfl rfl Tryz.zeroValue49 rfl rfl hw) rfl (fun bx_2 _ => ?_)
          refine tt (t_stw (i := 8) rfl rfl rfl rfl rfl (by decide) rfl Tryz.sizeOf49 rfl rfl ⟨(one_rfl rfl), (one_rfl rfl), (one_rfl rfl), (one_rfl rfl), trivial⟩ rfl hw trivial) rfl (fun _ _ => ?_)
          refine as_ rfl rfl ?_
          refine l_nil ?_
          refine x_then ?_
          refine e_seq ?_
          refine e_seq ?_
          refine e_reg ?_
          refine mv rfl rfl ?_
          refine dt (det_is (r' := .bool false) (d_neq rfl rfl rfl) (congrArg Value.bool (by rw [hme]; rfl))) rfl ?_
          refine l_nil ?_
          refine x_then ?_
          refine e_condf rfl ?_
          refine e_skip ?_
          refine x_then ?_
          refine e_seq ?_
          refine e_reg ?_
          refine dt (d_lr (i := 3) rfl rfl rfl Tryz.isAgg44 rfl) rfl ?_
          refine dt (d_lb4 (i := 8) rfl rfl rfl Tryz.isAgg49 Tryz.sizeOf49 rfl rfl rfl rfl) rfl ?_
          refine tt (t_call (n := 8) (st_at _ _ _ _ hm1 hm2 hm3 hvz hev) rfl rfl rfl ⟨rfl, rfl, trivial⟩ Tryz.call77 (pre_same 4 rfl rfl rfl pre_nil) rfl hw) rfl (fun _ _ => ?_)
          refine mv rfl rfl ?_
          refine dt (d_ex rfl rfl rfl) rfl ?_
          refine dt (d_ex rfl rfl rfl) rfl ?_
          refine as_ rfl rfl ?_
          refine as_ rfl rfl ?_
          refine l_nil ?_
          refine x_then ?_
          refine e_seq ?_
          refine e_seq ?_
          refine e_reg ?_
          refine mv rfl rfl ?_
          refine dt (det_is (r' := .bool false) (d_neq rfl rfl rfl) (congrArg Value.bool (by decide))) rfl ?_
          refine l_nil ?_
          refine x_then ?_
          refine e_condf rfl ?_
          refine e_skip ?_
          refine x_then ?_
          refine e_seq ?_
          refine e_seq ?_
          refine e_reg ?_
          refine dt (d_lr (i := 5) rfl rfl rfl Tryz.isAgg113 rfl) rfl ?_
          refine dt (d_fa rfl rfl Tryz.underlying79 rfl Tryz.sizeOf49 rfl rfl) rfl ?_
          refine dt (d_lb4 (i := 6) rfl rfl rfl Tryz.isAgg49 Tryz.sizeOf49 rfl rfl rfl rfl) rfl ?_
          refine dt (d_lb4 (i := 8) rfl rfl rfl Tryz.isAgg49 Tryz.sizeOf49 rfl rfl rfl rfl) rfl ?_
          refine dt (d_bld (ivs := [(0, _), (1, _)]) rfl ⟨rfl, rfl, rfl, rfl, trivial⟩ (fun a w hs => b79_01)) rfl ?_
          refine mv rfl rfl ?_
          refine mv rfl rfl ?_
          refine mv rfl rfl ?_
          refine dt (d_add rfl rfl rfl ⟨by omega, by omega⟩) rfl ?_
          refine l_imp (s_gjoin 1 60 rfl rfl rfl rfl rfl) ?_
          refine tt (t_callp (i := 1) (fs := []) (vs := [_, _, _, _]) (us := [_, _, _, _]) (ih _ _ a (smid a b) fr (cvx ls (smid a b)) (d + 1) ⟨ha1, ha2, ha3⟩ ⟨hm1, hm2, hm3⟩ hfr hcr hk1 (by omega)) rfl rfl rfl rfl ⟨rfl, rfl, rfl, rfl, trivial⟩ Tryz.call85 rfl rfl (by decide) (pre_same 2 rfl rfl rfl (pre_same 3 rfl rfl rfl (pre_same 4 rfl rfl rfl (pre_same 5 rfl rfl rfl pre_nil)))) rfl hw (fun _ _ => trivial)) rfl (fun vg _ => ?_)
          refine l_imp (s_gsplit 1 60 rfl rfl rfl) ?_
          refine as_ rfl rfl ?_
          refine l_nil ?_
          refine x_then ?_
          refine e_seq ?_
          refine e_reg ?_
          refine mv rfl rfl ?_
          refine dt (det_is (r' := .bool false) (d_neq rfl rfl rfl) (congrArg Value.bool (by decide))) rfl ?_
          refine l_nil ?_
          refine x_then ?_
          refine e_condf rfl ?_
          refine e_skip ?_
          refine x_then ?_
          refine e_seq ?_
          refine e_reg ?_
          refine dt (d_lr (i := 5) rfl rfl rfl Tryz.isAgg113 rfl) rfl ?_
          refine dt (d_lb4 (i := 8) rfl rfl rfl Tryz.isAgg49 Tryz.sizeOf49 rfl rfl rfl rfl) rfl ?_
          refine dt (d_fa rfl rfl Tryz.underlying79 rfl Tryz.sizeOf49 rfl rfl) rfl ?_
          refine dt (d_lb4 (i := 6) rfl rfl rfl Tryz.isAgg49 Tryz.sizeOf49 rfl rfl rfl rfl) rfl ?_
          refine dt (d_bld (ivs := [(0, _), (1, _)]) rfl ⟨rfl, rfl, rfl, rfl, trivial⟩ (fun a w hs => b79_01)) rfl ?_
          refine mv rfl rfl ?_
          refine mv rfl rfl ?_
          refine mv rfl rfl ?_
          refine dt (d_add rfl rfl rfl ⟨by omega, by omega⟩) rfl ?_
          refine l_imp (s_gjoin 1 60 rfl rfl rfl rfl rfl) ?_
          refine tt (t_callp (i := 1) (fs := []) (vs := [_, _, _, _]) (us := [_, _, _, _]) (ih _ _ (smid a b) b (cvx ls (smid a b)) to (d + 1) ⟨hm1, hm2, hm3⟩ ⟨hb1, hb2, hb3⟩ hcr hto hk2 (by rw [List.length_append]; omega)) rfl rfl rfl rfl ⟨rfl, rfl, rfl, rfl, trivial⟩ Tryz.call85 rfl rfl (by decide) (pre_same 2 rfl rfl rfl (pre_same 3 rfl rfl rfl (pre_same 4 rfl rfl rfl (pre_same 5 rfl rfl rfl pre_nil)))) rfl hw (fun _ _ => trivial)) rfl (fun vg_2 _ => ?_)
          refine l_imp (s_gsplit 1 60 rfl rfl rfl) ?_
          refine as_ rfl rfl ?_
          refine l_nil ?_
          refine x_then ?_
          refine e_ret ?_
          refine x_imp (s_gjoin 1 60 rfl rfl rfl rfl rfl) ?_
          exact x_endp (.inl rfl) hsc vg_2 _ (fun a w hs => res1 hs Tryz.results85 rfl) rfl trivial 1 (by rw [hI, ← List.append_assoc] <;> rfl) rfl rfl rfl (pre_same 2 rfl rfl rfl (pre_same 3 rfl rfl rfl (pre_same 4 rfl rfl rfl (pre_same 5 rfl rfl rfl pre_nil))))
end Go.Sky
namespace Go.Sky
open Go.Proofs
set_option linter.unusedVariables false
theorem st_split (bh bo bl bs : Nat) (vl : Value) (ls : List (SL × List Int)) (hv : Int) (hvz : ∀ z ∈ ls, Vp z.2) (hll : ls.length ≤ 1000) : ∀ (f : Nat) (vo : Value) (os : List (R2 × R2)) (a b : R2) (fr to : Int) (d : Nat) (ha : okQ a) (hb : okQ b) (hfr : -100000 ≤ fr ∧ fr ≤ 100000) (hto : -100000 ≤ to ∧ to ≤ 100000) (hok : ispOK (cvx ls) (evok ls) hv f a b fr to d) (hln : os.length + (isp (cvx ls) hv f a b fr to d).length ≤ 1000000), CalP Tryz.prog 85 #[iq (a, b), .int .i64 fr, .int .i64 to, .int .i64 (d : Int), .pointer (some ⟨bh, 0, none⟩), .pointer (some ⟨bo, 0, none⟩), .pointer (some ⟨bl, 0, none⟩), .pointer (some ⟨bs, 0, none⟩)] [rbox bh 3 #[.int .i64 hv], rbox bl 44 #[vl], deep 1 encS qZ vl ls, rbox bs 113 #[.func (.func 85) #[] #[.pointer (some ⟨bh, 0, none⟩), .pointer (some ⟨bo, 0, none⟩), .pointer (some ⟨bl, 0, none⟩), .pointer (some ⟨bs, 0, none⟩)]]] (gb bo 69 8 79 iq vo os) (G := Value) (fun _ => True) (fun _ => .int .i64 0) (fun g => gb bo 69 8 79 iq g (os ++ (isp (cvx ls) hv f a b fr to d)))
  | 0, vo, os, a, b, fr, to, d, ha, hb, hfr, hto, hok, hln => hok.elim
  | f + 1, vo, os, a, b, fr, to, d, ha, hb, hfr, hto, hok, hln => st_split_step bh bo bl bs vl ls hv hvz hll f (st_split bh bo bl bs vl ls hv hvz hll f) vo os a b fr to d ha hb hfr hto hok hln
end Go.Sky
namespace Go.Sky
open Go.Proofs
set_option maxRecDepth 20000
set_option maxHeartbeats 4000000
set_option linter.unusedVariables false
set_option linter.unusedSimpArgs false
theorem st_isolate (v : Value) (xs : List Int) (hv : Vp xs) (a b : R2) (hq : Int) (ha : okQ a) (hb : okQ b) (hh : 0 ≤ hq ∧ hq ≤ 200) (hk : chk2r xs a.1 a.2 b.1 b.2 = 0) (F : Nat) (hF : F ≤ 900) (f : Nat) (hI : isOK F xs f a b hq) : Cal Tryz.prog 35 #[v, .agg #[.bool (decide (a.1 < 0)), .string (bstr a.1.natAbs), .bool (decide (a.2 < 0)), .string (bstr a.2.natAbs)], .agg #[.bool (decide (b.1 < 0)), .string (bstr b.1.natAbs), .bool (decide (b.2 < 0)), .string (bstr b.2.natAbs)], .int .i64 hq] [slp 2 wv v xs] true (G := Value) (fun r => True) (fun r => .tuple #[r, .int .i64 0]) (fun r => [slp 8 iq r (sisol F xs f a b hq)]) := by
  refine cal_in Tryz.func35 rfl Tryz.ntmps35 rfl ⟨rfl, trivial⟩ ?_
  intro w0 sc hw hsc
  simp only [enumEnv, enumPre]
  obtain ⟨h0, hf⟩ := chk2_fits hk
  obtain ⟨hC, hE1, hE2, hR1, hR2, hI1, hI2⟩ := hI
  obtain ⟨hr11, hr12, hr13⟩ := nr_num hR1
  obtain ⟨hr21, hr22, hr23⟩ := nr_num hR2
  have hsl1 := slow_ok ha hR1
  have hsl2 := slow_ok hb hR2
  obtain ⟨ha1, ha2, ha3⟩ := ha
  obtain ⟨hb1, hb2, hb3⟩ := hb
  have hll := length_schain F (sqf F xs) (pprim (pder (sqf F xs)))
  have hcr1 := chg_range ((chn F xs).map (fat a.1 a.2))
  have hcr2 := chg_range ((chn F xs).map (fat b.1 b.2))
  rw [List.length_map] at hcr1 hcr2
  have hll2 : (chn F xs).length ≤ F + 1 := hll
  refine e_imp (s_nil 999 2 28 wv) ?_
  refine e_imp (s_pub 999 rfl rfl pV) ?_
  refine e_seq ?_
  refine e_reg ?_
  refine tt (t_box (i := 2) rfl rfl rfl rfl rfl rfl hw) rfl (fun bx _ => ?_)
  refine tt (t_box (i := 3) rfl rfl rfl rfl rfl rfl hw) rfl (fun bx_2 _ => ?_)
  refine tt (t_box (i := 4) rfl rfl rfl rfl rfl rfl hw) rfl (fun bx_3 _ => ?_)
  refine as_ rfl rfl ?_
  refine as_ rfl rfl ?_
  refine l_nil ?_
  refine x_then ?_
  refine e_seq ?_
  refine e_seq ?_
  refine e_reg ?_
  refine dt (d_lb (i := 4) rfl rfl rfl Tryz.isAgg3 rfl) rfl ?_
  refine dt (det_is (r' := .bool false) (d_lss rfl rfl rfl) (congrArg Value.bool (decide_eq_false (by omega)))) rfl ?_
  refine mv rfl rfl ?_
  refine gdt (d_lb (i := 4) rfl rfl rfl Tryz.isAgg3 rfl) rfl rfl rfl rfl ?_
  refine gdt (det_is (r' := .bool false) (d_gtr rfl rfl rfl) (congrArg Value.bool (decide_eq_false (by omega)))) rfl rfl rfl rfl ?_
  refine dt (d_pickf rfl rfl rfl) rfl ?_
  refine l_nil ?_
  refine x_then ?_
  refine e_condf rfl ?_
  refine e_skip ?_
  refine x_then ?_
  refine e_seq ?_
  refine e_seq ?_
  refine e_reg ?_
  refine mv rfl rfl ?_
  refine dt (d_lb4 (i := 2) rfl rfl rfl Tryz.isAgg49 Tryz.sizeOf49 rfl rfl rfl rfl) rfl ?_
  refine dt (d_lb4 (i := 3) rfl rfl rfl Tryz.isAgg49 Tryz.sizeOf49 rfl rfl rfl rfl) rfl ?_
  refine tt (t_bsg (i := 5) (ivs := [(0, _), (1, _)]) (enc := rq) [(a.1, a.2), (b.1, b.2)] rfl rfl rfl ⟨rfl, rfl, rfl, rfl, trivial⟩ Tryz.underlying87 Tryz.ti49 rfl rfl rfl (fill24 _ _ _ _ _ _ _ _ _ _ _ _) rfl rfl pQ.cells rfl rfl hw) rfl (fun v _ => ?_)
  refine tt (t_call (n := 5) (st_check2 _ _ hv _ _ _ _ _ ha1 ha2 hb1 hb2 ha3 hb3) rfl rfl rfl ⟨rfl, rfl, trivial⟩ Tryz.call51 (pre_same 1 rfl rfl rfl (pre_lend 5 rfl rfl pQ pre_nil)) rfl hw) rfl (fun _ _ => ?_)
  refine as_ rfl rfl ?_
  refine l_nil ?_
  refine x_then ?_
  refine e_seq ?_
  refine e_reg ?_
  refine mv rfl rfl ?_
  refine dt (det_is (r' := .bool false) (d_neq rfl rfl rfl) (congrArg Value.bool (by rw [hk]; rfl))) rfl ?_
  refine l_nil ?_
  refine x_then ?_
  refine e_condf rfl ?_
  refine e_skip ?_
  refine x_then ?_
  refine e_seq ?_
  refine e_reg ?_
  refine mv rfl rfl ?_
  refine tt (t_call (n := 6) (st_chain _ _ hv h0 hf F hC) rfl rfl rfl ⟨rfl, trivial⟩ Tryz.call20 (pre_same 1 rfl rfl rfl pre_nil) rfl hw) rfl (fun g hg => ?_)
  have hgc := hg
  have hvz := mem_snd hgc (vp_chn hv h0 hC)
  have hcq := cvx_eq hgc
  have hlz : g.2.length ≤ 1000 := by have := congrArg List.length hgc; rw [List.length_map] at this; omega
  have hcv1 : -100000 ≤ cvx g.2 a ∧ cvx g.2 a ≤ 100000 := by rw [hcq]; unfold cvc cnt; omega
  have hcv2 : -100000 ≤ cvx g.2 b ∧ cvx g.2 b ≤ 100000 := by rw [hcq]; unfold cvc cnt; omega
  have hok : ispOK (cvx g.2) (evok g.2) hq f (slow a) (slow b) (cvx g.2 a) (cvx g.2 b) 0 := by rw [hcq, evok_eq hgc]; exact hI1
  have hln : ([] : List (R2 × R2)).length + (isp (cvx g.2) hq f (slow a) (slow b) (cvx g.2 a) (cvx g.2 b) 0).length ≤ 1000000 := by rw [hcq, List.length_nil, Nat.zero_add]; exact hI2
  refine mv rfl rfl ?_
  refine dt (d_ex rfl rfl rfl) rfl ?_
  refine dt (d_ex rfl rfl rfl) rfl ?_
  refine tt (t_alloc (i := 7) rfl rfl rfl Tryz.zeroValue44 rfl rfl hw) rfl (fun bx_4 _ => ?_)
  refine tt (t_st1 (i := 7) rfl rfl rfl rfl rfl (by decide) Tryz.sizeOf44 (one_rd (i := 6) rfl rd_deep) rfl hw trivial) rfl (fun _ _ => ?_)
  refine as_ rfl rfl ?_
  refine l_nil ?_
  refine x_then ?_
  refine e_seq ?_
  refine e_seq ?_
  refine e_reg ?_
  refine mv rfl rfl ?_
  refine dt (det_is (r' := .bool false) (d_neq rfl rfl rfl) (congrArg Value.bool (by decide))) rfl ?_
  refine l_nil ?_
  refine x_then ?_
  refine e_condf rfl ?_
  refine e_skip ?_
  refine x_then ?_
  refine e_seq ?_
  refine e_reg ?_
  refine tt (t_alloc (i := 8) rfl rfl rfl Tryz.zeroValue69 rfl rfl hw) rfl (fun bx_5 _ => ?_)
  refine l_nil ?_
  refine x_then ?_
  refine e_seq ?_
  refine e_reg ?_
  refine tt (t_alloc (i := 9) rfl rfl rfl Tryz.zeroValue113 rfl rfl hw) rfl (fun bx_6 _ => ?_)
  refine l_nil ?_
  refine x_then ?_
  refine e_seq ?_
  refine e_reg ?_
  refine dt (d_mkc (vs := []) (us := [_, _, _, _]) rfl trivial ⟨rfl, rfl, rfl, rfl, trivial⟩) rfl ?_
  refine tt (t_stw (i := 9) rfl rfl rfl rfl rfl (by decide) rfl Tryz.sizeOf113 rfl rfl ⟨(one_rfl rfl), trivial⟩ rfl hw trivial) rfl (fun _ _ => ?_)
  refine l_nil ?_
  refine x_then ?_
  refine e_seq ?_
  refine e_reg ?_
  refine dt (d_fa rfl rfl Tryz.underlying49 rfl Tryz.sizeOf28 rfl rfl) rfl ?_
  refine dt (d_lb2 (i := 2) rfl rfl rfl Tryz.isAgg28 Tryz.sizeOf28 rfl rfl) rfl ?_
  refine dt (d_fa rfl rfl Tryz.underlying49 rfl Tryz.sizeOf28 rfl rfl) rfl ?_
  refine dt (d_lb2 (i := 2) rfl rfl rfl Tryz.isAgg28 Tryz.sizeOf28 rfl rfl) rfl ?_
  refine tt (t_call (n := 9) (wide_ratio _ _ ha1 ha2 (by omega)) rfl rfl rfl ⟨rfl, rfl, trivial⟩ Tryz.call87 pre_nil rfl hw) rfl (fun _ _ => ?_)
  refine mv rfl rfl ?_
  refine dt (d_ex rfl rfl rfl) rfl ?_
  refine dt (d_ex rfl rfl rfl) rfl ?_
  refine tt (t_alloc (i := 10) rfl rfl rfl Tryz.zeroValue49 rfl rfl hw) rfl (fun bx_7 _ => ?_)
  refine tt (t_stw (i := 10) rfl rfl rfl rfl rfl (by decide) rfl Tryz.sizeOf49 rfl rfl ⟨(one_rfl rfl), (one_rfl rfl), (one_rfl rfl), (one_rfl rfl), trivial⟩ rfl hw trivial) rfl (fun _ _ => ?_)
  refine as_ rfl rfl ?_
  refine l_nil ?_
  refine x_then ?_
  refine e_seq ?_
  refine e_seq ?_
  refine e_reg ?_
  refine mv rfl rfl ?_
  refine dt (det_is (r' := .bool false) (d_neq rfl rfl rfl) (congrArg Value.bool (by rw [hr13]; rfl))) rfl ?_
  refine l_nil ?_
  refine x_then ?_
  refine e_condf rfl ?_
  refine e_skip ?_
  refine x_then ?_
  refine e_seq ?_
  refine e_reg ?_
  refine dt (d_fa rfl rfl Tryz.underlying49 rfl Tryz.sizeOf28 rfl rfl) rfl ?_
  refine dt (d_lb2 (i := 3) rfl rfl rfl Tryz.isAgg28 Tryz.sizeOf28 rfl rfl) rfl ?_
  refine dt (d_fa rfl rfl Tryz.underlying49 rfl Tryz.sizeOf28 rfl rfl) rfl ?_
  refine dt (d_lb2 (i := 3) rfl rfl rfl Tryz.isAgg28 Tryz.sizeOf28 rfl rfl) rfl ?_
  refine tt (t_call (n := 10) (wide_ratio _ _ hb1 hb2 (by omega)) rfl rfl rfl ⟨rfl, rfl, trivial⟩ Tryz.call87 pre_nil rfl hw) rfl (fun _ _ => ?_)
  refine mv rfl rfl ?_
  refine dt (d_ex rfl rfl rfl) rfl ?_
  refine dt (d_ex rfl rfl rfl) rfl ?_
  refine tt (t_alloc (i := 11) rfl rfl rfl Tryz.zeroValue49 rfl rfl hw) rfl (fun bx_8 _ => ?_)
  refine tt (t_stw (i := 11) rfl rfl rfl rfl rfl (by decide) rfl Tryz.sizeOf49 rfl rfl ⟨(one_rfl rfl), (one_rfl rfl), (one_rfl rfl), (one_rfl rfl), trivial⟩ rfl hw trivial) rfl (fun _ _ => ?_)
  refine as_ rfl rfl ?_
  refine l_nil ?_
  refine x_then ?_
  refine e_seq ?_
  refine e_seq ?_
  refine e_reg ?_
  refine mv rfl rfl ?_
  refine dt (det_is (r' := .bool false) (d_neq rfl rfl rfl) (congrArg Value.bool (by rw [hr23]; rfl))) rfl ?_
  refine l_nil ?_
  refine x_then ?_
  refine e_condf rfl ?_
  refine e_skip ?_
  refine x_then ?_
  refine e_seq ?_
  refine e_reg ?_
  refine dt (d_lb (i := 7) rfl rfl rfl Tryz.isAgg44 rfl) rfl ?_
  refine dt (d_lb4 (i := 2) rfl rfl rfl Tryz.isAgg49 Tryz.sizeOf49 rfl rfl rfl rfl) rfl ?_
  refine tt (t_call (n := 11) (st_at _ _ _ _ ha1 ha2 ha3 hvz (by rw [← evok_eq hgc] at hE1; exact hE1)) rfl rfl rfl ⟨rfl, rfl, trivial⟩ Tryz.call77 (pre_same 6 rfl rfl rfl pre_nil) rfl hw) rfl (fun _ _ => ?_)
  refine mv rfl rfl ?_
  refine dt (d_ex rfl rfl rfl) rfl ?_
  refine dt (d_ex rfl rfl rfl) rfl ?_
  refine as_ rfl rfl ?_
  refine as_ rfl rfl ?_
  refine l_nil ?_
  refine x_then ?_
  refine e_seq ?_
  refine e_seq ?_
  refine e_reg ?_
  refine mv rfl rfl ?_
  refine dt (det_is (r' := .bool false) (d_neq rfl rfl rfl) (congrArg Value.bool (by decide))) rfl ?_
  refine l_nil ?_
  refine x_then ?_
  refine e_condf rfl ?_
  refine e_skip ?_
  refine x_then ?_
  refine e_seq ?_
  refine e_reg ?_
  refine dt (d_lb (i := 7) rfl rfl rfl Tryz.isAgg44 rfl) rfl ?_
  refine dt (d_lb4 (i := 3) rfl rfl rfl Tryz.isAgg49 Tryz.sizeOf49 rfl rfl rfl rfl) rfl ?_
  refine tt (t_call (n := 11) (st_at _ _ _ _ hb1 hb2 hb3 hvz (by rw [← evok_eq hgc] at hE2; exact hE2)) rfl rfl rfl ⟨rfl, rfl, trivial⟩ Tryz.call77 (pre_same 6 rfl rfl rfl pre_nil) rfl hw) rfl (fun _ _ => ?_)
  refine mv rfl rfl ?_
  refine dt (d_ex rfl rfl rfl) rfl ?_
  refine dt (d_ex rfl rfl rfl) rfl ?_
  refine as_ rfl rfl ?_
  refine as_ rfl rfl ?_
  refine l_nil ?_
  refine x_then ?_
  refine e_seq ?_
  refine e_seq ?_
  refine e_reg ?_
  refine mv rfl rfl ?_
  refine dt (det_is (r' := .bool false) (d_neq rfl rfl rfl) (congrArg Value.bool (by decide))) rfl ?_
  refine l_nil ?_
  refine x_then ?_
  refine e_condf rfl ?_
  refine e_skip ?_
  refine x_then ?_
  refine e_seq ?_
  refine e_seq ?_
  refine e_reg ?_
  refine dt (d_lb (i := 9) rfl rfl rfl Tryz.isAgg113 rfl) rfl ?_
  refine dt (d_lb4 (i := 10) rfl rfl rfl Tryz.isAgg49 Tryz.sizeOf49 rfl rfl rfl rfl) rfl ?_
  refine dt (d_lb4 (i := 11) rfl rfl rfl Tryz.isAgg49 Tryz.sizeOf49 rfl rfl rfl rfl) rfl ?_
  refine dt (d_bld (ivs := [(0, _), (1, _)]) rfl ⟨rfl, rfl, rfl, rfl, trivial⟩ (fun a w hs => b79_01)) rfl ?_
  refine mv rfl rfl ?_
  refine mv rfl rfl ?_
  refine l_imp (s_nil 60 8 79 iq) ?_
  refine l_imp (s_gjoin 8 60 rfl rfl rfl rfl rfl) ?_
  refine tt (t_callp (i := 8) (fs := []) (vs := [_, _, _, _]) (us := [_, _, _, _]) (st_split _ _ _ _ _ _ hq hvz hlz f _ [] (slow a) (slow b) (cvx g.2 a) (cvx g.2 b) 0 hsl1 hsl2 hcv1 hcv2 hok hln) rfl rfl rfl rfl ⟨rfl, rfl, rfl, rfl, trivial⟩ Tryz.call85 rfl rfl (by decide) (pre_lendb 4 rfl rfl (pre_lendb 7 rfl rfl (pre_same 6 rfl rfl rfl (pre_lendb 9 rfl rfl pre_nil)))) rfl hw (fun _ _ => trivial)) rfl (fun vg _ => ?_)
  refine l_imp (s_gsplit 8 60 rfl rfl rfl) ?_
  refine as_ rfl rfl ?_
  refine l_nil ?_
  refine x_then ?_
  refine e_seq ?_
  refine e_reg ?_
  refine mv rfl rfl ?_
  refine dt (det_is (r' := .bool false) (d_neq rfl rfl rfl) (congrArg Value.bool (by decide))) rfl ?_
  refine l_nil ?_
  refine x_then ?_
  refine e_condf rfl ?_
  refine e_skip ?_
  refine x_then ?_
  refine e_seq ?_
  refine e_reg ?_
  refine dt (d_lb (i := 8) rfl rfl rfl Tryz.isAgg69 rfl) rfl ?_
  refine as_ rfl rfl ?_
  refine as_ rfl rfl ?_
  refine l_nil ?_
  refine x_then ?_
  refine e_ret ?_
  exact x_end (.inl rfl) hsc _ _ (fun a w hs => res2 hs Tryz.results35 rfl rfl) rfl trivial rfl (give_owne 60 rfl rfl pY (by rw [List.nil_append, hcq] <;> rfl) give_nil)
end Go.Sky
namespace Go.Sky
open Go.Proofs
set_option maxRecDepth 20000
set_option maxHeartbeats 4000000
set_option linter.unusedVariables false
set_option linter.unusedSimpArgs false
theorem law_w (x : Int) (hx : inI x) : Cal Tryz.prog 38 #[.int .i64 x] [] false (G := Unit) (fun _ => True) (fun _ => wv x) (fun _ => []) := by
 refine cal_in Tryz.func38 rfl Tryz.ntmps38 rfl trivial ?_
 intro w0 sc hw hsc
 simp only [enumEnv, enumPre]
 have hxa := hx.1
 have hxb := hx.2
 have hbx := inI_bl hx
 refine e_seq (e_reg (tt (t_alloc (i := 1) rfl rfl rfl Tryz.zeroValue28 rfl rfl hw) rfl (fun b _ => ?_)))
 refine l_nil (x_then (e_seq (e_reg (mv rfl rfl (tt (t_call (n := 2) (r_num _ hx) rfl rfl rfl ⟨rfl, trivial⟩ Tryz.call43 pre_nil rfl hw) rfl (fun v _ => ?_))))))
 refine tt (t_call (n := 2) (r_to _ _ (by omega)) rfl rfl rfl ⟨rfl, trivial⟩ Tryz.call17 (pre_same 2 rfl rfl rfl pre_nil) rfl hw) rfl (fun _ _ => ?_)
 refine tt (t_stw (i := 1) rfl rfl rfl rfl rfl (by decide) rfl Tryz.sizeOf28 rfl rfl ⟨(one_rfl rfl), (one_rfl rfl), trivial⟩ rfl hw trivial) rfl (fun _ _ => ?_)
 refine l_nil (x_then (e_ret ?_))
 exact x_end (.inl rfl) hsc () _ (fun a w hs => res1 hs Tryz.results38 (rv_cell (i := 1) rfl rfl Tryz.isAgg28 Tryz.sizeOf28 rfl)) rfl trivial rfl give_nil
theorem law_p (v : Value) (l : List Int) (hl : ∀ x ∈ l, inI x) (hlen : l.length ≤ 1000) : Cal Tryz.prog 39 #[v] [slp 1 encZ v l] true (G := Value) (fun r => True) (fun r => r) (fun r => [slp 2 wv r (tzl l)]) := by
 refine cal_in Tryz.func39 rfl Tryz.ntmps39 rfl ⟨rfl, trivial⟩ ?_
 intro w0 sc hw hsc
 simp only [enumEnv, enumPre]
 have hsz := sz_ints hl
 refine e_seq (e_reg (as_ rfl rfl (l_nil (x_then (e_seq (e_reg (mv rfl rfl (tt (t_call (n := 2) (rp_nums _ _ hl hlen) rfl rfl rfl ⟨rfl, trivial⟩ Tryz.call33 (pre_same 1 rfl rfl rfl pre_nil) rfl hw) rfl (fun g hg => ?_)))))))))
 refine tt (t_call (n := 3) (rp_to _ _ (by rw [hg]; exact (Sz.tzl hsz).mono (by omega)) (by have h7 := congrArg List.length hg; rw [length_ints] at h7; have h8 := tzl_le l; omega)) rfl rfl rfl ⟨rfl, trivial⟩ Tryz.call25 (pre_same 2 rfl rfl rfl pre_nil) rfl hw) rfl (fun v _ => ?_)
 refine as_ rfl rfl (l_nil (x_then (e_ret ?_)))
 exact x_end (.inl rfl) hsc _ _ (fun a w hs => res1 hs Tryz.results39 rfl) rfl trivial rfl (give_samee 3 rfl rfl rfl (congrArg (slp 2 wv _) hg) give_nil)
theorem law_q (x y : Int) (hx : inI x) (hy : inI y) : Cal Tryz.prog 22 #[.int .i64 x, .int .i64 y] [] false (G := Unit) (fun _ => True) (fun _ => .agg #[.bool (decide (x < 0)), .string (bstr x.natAbs), .bool (decide (y < 0)), .string (bstr y.natAbs)]) (fun _ => []) := by
 refine cal_in Tryz.func22 rfl Tryz.ntmps22 rfl trivial ?_
 intro w0 sc hw hsc
 simp only [enumEnv, enumPre]
 refine e_seq (e_reg (tt (t_alloc (i := 1) rfl rfl rfl Tryz.zeroValue49 rfl rfl hw) rfl (fun b _ => ?_)))
 refine l_nil (x_then (e_seq (e_reg (mv rfl rfl (tt (t_call (n := 1) (law_w _ hx) rfl rfl rfl ⟨rfl, trivial⟩ Tryz.call38 pre_nil rfl hw) rfl (fun _ _ => ?_))))))
 refine mv rfl rfl (tt (t_call (n := 1) (law_w _ hy) rfl rfl rfl ⟨rfl, trivial⟩ Tryz.call38 pre_nil rfl hw) rfl (fun _ _ => ?_))
 refine dt (d_bld (ivs := [(0, _), (1, _)]) rfl ⟨rfl, rfl, rfl, rfl, trivial⟩ (fun a w hs => b49_01)) rfl ?_
 refine tt (t_stw (i := 1) rfl rfl rfl rfl rfl (by decide) rfl Tryz.sizeOf49 rfl rfl ⟨(one_rfl rfl), (one_rfl rfl), (one_rfl rfl), (one_rfl rfl), trivial⟩ rfl hw trivial) rfl (fun _ _ => ?_)
 refine l_nil (x_then (e_ret ?_))
 exact x_end (.inl rfl) hsc () _ (fun a w hs => res1 hs Tryz.results22 (rv_cell (i := 1) rfl rfl Tryz.isAgg49 Tryz.sizeOf49 rfl)) rfl trivial rfl give_nil
theorem law_same3 (v u : Value) (zs : List (R2 × R2)) (l : List Int) (hl : ∀ x ∈ l, inI x) (h1 : 2 * zs.length = l.length) (hb : l.length ≤ 1000) (h2 : ∀ i, i < zs.length → zs.getD i ((0, 0), (0, 0)) = ((l.getD (2 * i) 0, 1), (l.getD (2 * i + 1) 0, 1))) : Cal Tryz.prog 50 #[v, u] [slp 8 iq v zs, slp 1 encZ u l] false (G := Unit) (fun _ => True) (fun _ => .bool true) (fun _ => []) := by
 refine cal_in Tryz.func50 rfl Tryz.ntmps50 rfl ⟨rfl, rfl, trivial⟩ ?_
 intro w0 sc hw hsc
 simp only [enumEnv, enumPre]
 refine e_imp (s_nil 999 2 28 wv) ?_
 refine e_imp (s_pub 999 rfl rfl pV) ?_
 refine e_seq (e_reg (as_ rfl rfl (l_nil (x_then (e_seq (e_seq (e_reg (mv rfl rfl (dt (d_len rfl rfl (i := 1) rfl rd_slp Tryz.underlying69) rfl ?_)))))))))
 refine dt (d_mul rfl rfl rfl ⟨by omega, by omega⟩) rfl ?_
 refine mv rfl rfl (dt (d_len rfl rfl (i := 2) rfl rd_slp Tryz.underlying37) rfl ?_)
 refine dt (d_neq rfl rfl rfl) rfl ?_
 refine l_nil (x_then (e_cond rfl (fun h19 => ?_) (fun h19 => ?_)))
 ·exfalso; omega
 ·refine e_skip ?_
  refine x_then (e_seq (e_seq (e_reg (mv rfl rfl (dt (d_len rfl rfl (i := 1) rfl rd_slp Tryz.underlying69) rfl ?_)))))
  refine mv rfl rfl (l_nil (x_then (e_block (e_lp [(1, _), (13, _), (14, _)] [(0, _), (1, _), (2, _), (999, _)] (fun (i : Nat) => [(15, .int .i64 (i : Int))]) (fun (i : Nat) => []) (fun (i : Nat) => (i ≤ zs.length)) (fun (i : Nat) => zs.length - i) 0 (by first | omega | (dsimp only <;> omega)) ⟨rfl, rfl, rfl, rfl, trivial⟩ ⟨rfl, rfl, rfl, rfl, trivial⟩ ?_))))
  rintro i hi
  simp only [List.cons_append, List.nil_append]
  refine e_seq (e_reg (dt (d_lss rfl rfl rfl) rfl ?_))
  refine l_nil (x_then (e_seq (e_cond rfl (fun h22 => ?_) (fun h22 => ?_))))
  ·refine e_skip ?_
   refine x_then (e_seq (e_block (e_seq (e_reg (mv rfl rfl (dt (d_ixa (ii := 1) rfl rfl rfl rfl rd_slp Tryz.underlying69 Tryz.sizeOf79 rfl (by first | omega | (simp only [List.length_set]; omega))) rfl ?_))))))
   refine dt (d_lde (ii := 1) ((0, 0), (0, 0)) rfl rfl rfl rd_slp pY (by first | omega | (simp only [List.length_set]; omega))) rfl ?_
   refine tt (t_alloc (i := 3) rfl rfl rfl Tryz.zeroValue79 rfl rfl hw) rfl (fun bx _ => ?_)
   refine as_ rfl rfl (tt (t_stw (i := 3) rfl rfl rfl rfl rfl (by decide) rfl Tryz.sizeOf79 rfl rfl ⟨(one_rfl rfl), (one_rfl rfl), (one_rfl rfl), (one_rfl rfl), (one_rfl rfl), (one_rfl rfl), (one_rfl rfl), (one_rfl rfl), trivial⟩ rfl hw trivial) rfl (fun _ _ => ?_))
   refine l_nil (x_then (e_seq (e_dreg (fun _ => False) [(0, 0), (1, 0), (2, 0), (3, 0), (4, 0), (5, 0), (7, 0), (8, 0), (9, 0), (10, 0), (11, 0), (12, 0), (6, 1), (13, 1), (14, 0), (15, 0)] (by kernel_rfl) ?_ ?_)))
   ·kernel_rfl
   refine r0' rfl rfl rfl rfl (st0 (d_lb8 (i := 3) rfl rfl rfl Tryz.isAgg79 Tryz.sizeOf79 rfl rfl rfl rfl rfl rfl rfl rfl)) ?_
   refine r0' rfl rfl rfl rfl (st0 (d_mv rfl rfl)) ?_
   refine r0' rfl rfl rfl rfl (st0 (d_mv rfl rfl)) ?_
   refine r0' rfl rfl rfl rfl (st0 (d_mul rfl rfl rfl ⟨by omega, by omega⟩)) ?_
   refine r0' rfl rfl rfl rfl (st0 (d_ixa (ii := 2) (i := (2 * i)) rfl rfl rfl rfl rd_slp Tryz.underlying37 Tryz.sizeOf3 (by omega) (by omega))) ?_
   refine r0' rfl rfl rfl rfl (st0 (d_lde (ii := 2) 0 rfl rfl rfl rd_slp pZ (by first | omega | (simp only [List.length_set]; omega)))) ?_
   refine r0' rfl rfl rfl rfl (st0 (d_mv rfl rfl)) ?_
   refine r0' rfl rfl rfl rfl (st0 (d_mv rfl rfl)) ?_
   refine r0' rfl rfl rfl rfl (st0 (d_mul rfl rfl rfl ⟨by omega, by omega⟩)) ?_
   refine r0' rfl rfl rfl rfl (st0 (d_add rfl rfl rfl ⟨by omega, by omega⟩)) ?_
   refine r0' rfl rfl rfl rfl (st0 (d_ixa (ii := 2) (i := (2 * i + 1)) rfl rfl rfl rfl rd_slp Tryz.underlying37 Tryz.sizeOf3 (by omega) (by omega))) ?_
   refine r0' rfl rfl rfl rfl (st0 (d_lde (ii := 2) 0 rfl rfl rfl rd_slp pZ (by first | omega | (simp only [List.length_set]; omega)))) ?_
   refine r1' rfl rfl (t_call (n := 3) (law_q _ _ (getD_inI hl _) ⟨by decide, by decide⟩) rfl rfl rfl ⟨rfl, rfl, trivial⟩ Tryz.call22 pre_nil rfl hw) (fun _ _ => ?_)
   refine r1' rfl rfl (t_call (n := 3) (law_q _ _ (getD_inI hl _) ⟨by decide, by decide⟩) rfl rfl rfl ⟨rfl, rfl, trivial⟩ Tryz.call22 pre_nil rfl hw) (fun _ _ => ?_)
   refine r0' rfl rfl rfl rfl (st0 (d_bld (ivs := [(0, _), (1, _)]) rfl ⟨rfl, rfl, rfl, rfl, trivial⟩ (fun a w hs => b79_01))) ?_
   refine r0' rfl rfl rfl rfl (st0 (det_is (r' := .bool false) (d_eqg rfl rfl rfl eg79 (fun w => neq79 w _ _ _ _ _ _ _ _ _ _ _ _ _ _ _ _)) (congrArg Value.bool (by simp only [h2 i (by omega)]; simp [eqW_refl])))) ?_
   refine r_end ?_
   refine x_then (e_condf rfl ?_)
   refine e_skip ?_
   refine x_bn ?_
   refine x_then (e_reg (dt (d_add rfl rfl rfl ⟨by omega, by omega⟩) rfl ?_))
   refine mv rfl rfl (l_nil ?_)
   exact x_rnd (i + 1) (by first | omega | (dsimp only <;> omega)) (by first | omega | (dsimp only <;> omega)) ⟨rfl, rfl, rfl, rfl, trivial⟩ ⟨rfl, rfl, rfl, rfl, trivial⟩
  ·refine e_exit ?_
   refine x_exit (x_exit (x_be ?_))
   refine x_then (e_seq (e_reg (as_ rfl rfl (l_nil (x_then (e_ret ?_))))))
   exact x_end (.inl rfl) hsc () _ (fun a w hs => res1 hs Tryz.results50 rfl) rfl trivial rfl give_nil
end Go.Sky
namespace Go.Sky
open Go.Proofs
set_option linter.unusedVariables false
set_option maxRecDepth 20000
instance sqDec (F : Nat) (xs : List Int) : Decidable (sqOK F xs) := by unfold sqOK; infer_instance
instance cokDec : ∀ f a b, Decidable (cok f a b)
  | 0, _, b => inferInstanceAs (Decidable (b = []))
  | f + 1, a, b => @instDecidableOr _ _ _ (@instDecidableAnd _ _ _ (@instDecidableAnd _ _ _ (cokDec f b (snext a b))))
instance chDec (F : Nat) (xs : List Int) : Decidable (chOK F xs) := by unfold chOK; infer_instance
instance evDec (F : Nat) (xs : List Int) : DecidablePred (evc F xs) := fun m => by unfold evc; infer_instance
instance isDec (F : Nat) (xs : List Int) (f : Nat) (a b : R2) (hq : Int) : Decidable (isOK F xs f a b hq) := by unfold isOK; infer_instance
instance okQDec (a : R2) : Decidable (okQ a) := by unfold okQ; infer_instance
theorem k_sq1 (v : Value) : Cal Tryz.prog 19 #[v] [slp 2 wv v [1, 2, 1]] true (G := Value) (fun r => True) (fun r => .tuple #[r, .int .i64 0]) (fun r => [slp 2 wv r [1, 1]]) := by
  have h := st_sqf v [1, 2, 1] (vp_b (by decide +kernel)) (by decide +kernel) (by decide +kernel) 12 (by decide +kernel)
  rw [show sqf 12 [1, 2, 1] = [1, 1] by decide +kernel] at h
  exact h
theorem k_sq2 (v : Value) : Cal Tryz.prog 19 #[v] [slp 2 wv v [0, 0, -6]] true (G := Value) (fun r => True) (fun r => .tuple #[r, .int .i64 0]) (fun r => [slp 2 wv r [0, 1]]) := by
  have h := st_sqf v [0, 0, -6] (vp_b (by decide +kernel)) (by decide +kernel) (by decide +kernel) 12 (by decide +kernel)
  rw [show sqf 12 [0, 0, -6] = [0, 1] by decide +kernel] at h
  exact h
theorem k_sq3 (v : Value) : Cal Tryz.prog 19 #[v] [slp 2 wv v [5]] true (G := Value) (fun r => True) (fun r => .tuple #[r, .int .i64 0]) (fun r => [slp 2 wv r [1]]) := by
  have h := st_sqf v [5] (vp_b (by decide +kernel)) (by decide +kernel) (by decide +kernel) 12 (by decide +kernel)
  rw [show sqf 12 [5] = [1] by decide +kernel] at h
  exact h
theorem k_ch1 (v : Value) : Cal Tryz.prog 20 #[v] [slp 2 wv v [-2, 0, 1]] true (G := Value × List (SL × List Int)) (fun r => r.2.map Prod.snd = [[-2, 0, 1], [0, 1], [1]]) (fun r => .tuple #[r.1, .int .i64 0]) (fun r => [deep 1 encS qZ r.1 r.2]) := by
  have h := st_chain v [-2, 0, 1] (vp_b (by decide +kernel)) (by decide +kernel) (by decide +kernel) 12 (by decide +kernel)
  rw [show chn 12 [-2, 0, 1] = [[-2, 0, 1], [0, 1], [1]] by decide +kernel] at h
  exact h
theorem k_ch2 (v : Value) : Cal Tryz.prog 20 #[v] [slp 2 wv v [-4]] true (G := Value × List (SL × List Int)) (fun r => r.2.map Prod.snd = [[1]]) (fun r => .tuple #[r.1, .int .i64 0]) (fun r => [deep 1 encS qZ r.1 r.2]) := by
  have h := st_chain v [-4] (vp_b (by decide +kernel)) (by decide +kernel) (by decide +kernel) 12 (by decide +kernel)
  rw [show chn 12 [-4] = [[1]] by decide +kernel] at h
  exact h
theorem k_cnt1 (v : Value) : Cal Tryz.prog 28 #[v, .agg #[.bool (decide ((0 : Int) < 0)), .string (bstr (0 : Int).natAbs), .bool (decide ((1 : Int) < 0)), .string (bstr (1 : Int).natAbs)], .agg #[.bool (decide ((2 : Int) < 0)), .string (bstr (2 : Int).natAbs), .bool (decide ((1 : Int) < 0)), .string (bstr (1 : Int).natAbs)]] [slp 2 wv v [-2, 0, 1]] false (G := Unit) (fun _ => True) (fun _ => .tuple #[.int .i64 1, .int .i64 0]) (fun _ => []) := by
  have h := st_count v [-2, 0, 1] (vp_b (by decide +kernel)) 0 1 2 1 (by decide +kernel) (by decide +kernel) (by decide +kernel) (by decide +kernel) (by decide) (by decide) 12 (by decide) (by decide +kernel) (by decide +kernel) (by decide +kernel) (by decide +kernel)
  rw [show cnt 12 [-2, 0, 1] 0 1 - cnt 12 [-2, 0, 1] 2 1 = 1 by decide +kernel] at h
  exact h
theorem k_cnt2 (v : Value) : Cal Tryz.prog 28 #[v, .agg #[.bool (decide ((-2 : Int) < 0)), .string (bstr (-2 : Int).natAbs), .bool (decide ((1 : Int) < 0)), .string (bstr (1 : Int).natAbs)], .agg #[.bool (decide ((2 : Int) < 0)), .string (bstr (2 : Int).natAbs), .bool (decide ((1 : Int) < 0)), .string (bstr (1 : Int).natAbs)]] [slp 2 wv v [-2, 0, 1]] false (G := Unit) (fun _ => True) (fun _ => .tuple #[.int .i64 2, .int .i64 0]) (fun _ => []) := by
  have h := st_count v [-2, 0, 1] (vp_b (by decide +kernel)) (-2) 1 2 1 (by decide +kernel) (by decide +kernel) (by decide +kernel) (by decide +kernel) (by decide) (by decide) 12 (by decide) (by decide +kernel) (by decide +kernel) (by decide +kernel) (by decide +kernel)
  rw [show cnt 12 [-2, 0, 1] (-2) 1 - cnt 12 [-2, 0, 1] 2 1 = 2 by decide +kernel] at h
  exact h
theorem k_cnt3 (v : Value) : Cal Tryz.prog 28 #[v, .agg #[.bool (decide ((0 : Int) < 0)), .string (bstr (0 : Int).natAbs), .bool (decide ((1 : Int) < 0)), .string (bstr (1 : Int).natAbs)], .agg #[.bool (decide ((1 : Int) < 0)), .string (bstr (1 : Int).natAbs), .bool (decide ((1 : Int) < 0)), .string (bstr (1 : Int).natAbs)]] [slp 2 wv v [0, 1]] false (G := Unit) (fun _ => True) (fun _ => .tuple #[.int .i64 0, .int .i64 0]) (fun _ => []) := by
  have h := st_count v [0, 1] (vp_b (by decide +kernel)) 0 1 1 1 (by decide +kernel) (by decide +kernel) (by decide +kernel) (by decide +kernel) (by decide) (by decide) 12 (by decide) (by decide +kernel) (by decide +kernel) (by decide +kernel) (by decide +kernel)
  rw [show cnt 12 [0, 1] 0 1 - cnt 12 [0, 1] 1 1 = 0 by decide +kernel] at h
  exact h
theorem k_cnt4 (v : Value) : Cal Tryz.prog 28 #[v, .agg #[.bool (decide ((-1 : Int) < 0)), .string (bstr (-1 : Int).natAbs), .bool (decide ((1 : Int) < 0)), .string (bstr (1 : Int).natAbs)], .agg #[.bool (decide ((0 : Int) < 0)), .string (bstr (0 : Int).natAbs), .bool (decide ((1 : Int) < 0)), .string (bstr (1 : Int).natAbs)]] [slp 2 wv v [0, 1]] false (G := Unit) (fun _ => True) (fun _ => .tuple #[.int .i64 1, .int .i64 0]) (fun _ => []) := by
  have h := st_count v [0, 1] (vp_b (by decide +kernel)) (-1) 1 0 1 (by decide +kernel) (by decide +kernel) (by decide +kernel) (by decide +kernel) (by decide) (by decide) 12 (by decide) (by decide +kernel) (by decide +kernel) (by decide +kernel) (by decide +kernel)
  rw [show cnt 12 [0, 1] (-1) 1 - cnt 12 [0, 1] 0 1 = 1 by decide +kernel] at h
  exact h
theorem k_cne1 (v : Value) : Cal Tryz.prog 28 #[v, .agg #[.bool (decide ((0 : Int) < 0)), .string (bstr (0 : Int).natAbs), .bool (decide ((1 : Int) < 0)), .string (bstr (1 : Int).natAbs)], .agg #[.bool (decide ((1 : Int) < 0)), .string (bstr (1 : Int).natAbs), .bool (decide ((1 : Int) < 0)), .string (bstr (1 : Int).natAbs)]] [slp 2 wv v []] false (G := Unit) (fun _ => True) (fun _ => .tuple #[.int .i64 0, .int .i64 3]) (fun _ => []) := by
  have h := st_count_err v [] (vp_b (by decide +kernel)) 0 1 1 1 (by decide +kernel) (by decide +kernel) (by decide +kernel) (by decide +kernel) (by decide) (by decide) (by decide +kernel)
  rw [show chk2r [] 0 1 1 1 = 3 by decide +kernel] at h
  exact h
theorem k_cne2 (v : Value) : Cal Tryz.prog 28 #[v, .agg #[.bool (decide ((1 : Int) < 0)), .string (bstr (1 : Int).natAbs), .bool (decide ((1 : Int) < 0)), .string (bstr (1 : Int).natAbs)], .agg #[.bool (decide ((0 : Int) < 0)), .string (bstr (0 : Int).natAbs), .bool (decide ((1 : Int) < 0)), .string (bstr (1 : Int).natAbs)]] [slp 2 wv v [1, 1]] false (G := Unit) (fun _ => True) (fun _ => .tuple #[.int .i64 0, .int .i64 3]) (fun _ => []) := by
  have h := st_count_err v [1, 1] (vp_b (by decide +kernel)) 1 1 0 1 (by decide +kernel) (by decide +kernel) (by decide +kernel) (by decide +kernel) (by decide) (by decide) (by decide +kernel)
  rw [show chk2r [1, 1] 1 1 0 1 = 3 by decide +kernel] at h
  exact h
theorem k_tot1 (v : Value) : Cal Tryz.prog 29 #[v] [slp 2 wv v [1, 0, 1]] false (G := Unit) (fun _ => True) (fun _ => .tuple #[.int .i64 0, .int .i64 0]) (fun _ => []) := by
  have h := st_total v [1, 0, 1] (vp_b (by decide +kernel)) 12 (by decide) (by decide +kernel) (by decide +kernel) (by decide +kernel)
  rw [show sleft 12 [1, 0, 1] - sright 12 [1, 0, 1] = 0 by decide +kernel] at h
  exact h
theorem k_tot2 (v : Value) : Cal Tryz.prog 29 #[v] [slp 2 wv v [0, -1, 0, 1]] false (G := Unit) (fun _ => True) (fun _ => .tuple #[.int .i64 3, .int .i64 0]) (fun _ => []) := by
  have h := st_total v [0, -1, 0, 1] (vp_b (by decide +kernel)) 12 (by decide) (by decide +kernel) (by decide +kernel) (by decide +kernel)
  rw [show sleft 12 [0, -1, 0, 1] - sright 12 [0, -1, 0, 1] = 3 by decide +kernel] at h
  exact h
theorem k_bd1 (v : Value) : Cal Tryz.prog 12 #[v] [slp 2 wv v [-2, 0, 1]] false (G := Unit) (fun _ => True) (fun _ => .tuple #[wv 4, .int .i64 0]) (fun _ => []) := by
  have h := st_bound v [-2, 0, 1] (vp_b (by decide +kernel)) (by decide +kernel)
  rw [show sbound [-2, 0, 1] = 4 by decide +kernel] at h
  exact h
theorem k_bd2 (v : Value) : Cal Tryz.prog 12 #[v] [slp 2 wv v [3]] false (G := Unit) (fun _ => True) (fun _ => .tuple #[wv 2, .int .i64 0]) (fun _ => []) := by
  have h := st_bound v [3] (vp_b (by decide +kernel)) (by decide +kernel)
  rw [show sbound [3] = 2 by decide +kernel] at h
  exact h
theorem k_is1 (v : Value) : Cal Tryz.prog 35 #[v, .agg #[.bool (decide ((-2 : Int) < 0)), .string (bstr (-2 : Int).natAbs), .bool (decide ((1 : Int) < 0)), .string (bstr (1 : Int).natAbs)], .agg #[.bool (decide ((2 : Int) < 0)), .string (bstr (2 : Int).natAbs), .bool (decide ((1 : Int) < 0)), .string (bstr (1 : Int).natAbs)], .int .i64 2] [slp 2 wv v [-2, 0, 1]] true (G := Value) (fun r => True) (fun r => .tuple #[r, .int .i64 0]) (fun r => [slp 8 iq r [((-2, 1), (-1, 1)), ((1, 1), (2, 1))]]) := by
  have h := st_isolate v [-2, 0, 1] (vp_b (by decide +kernel)) ((-2 : Int), (1 : Int)) ((2 : Int), (1 : Int)) 2 (by decide +kernel) (by decide +kernel) (by decide) (by decide +kernel) 12 (by decide) 20 (by decide +kernel)
  rw [show sisol 12 [-2, 0, 1] 20 ((-2 : Int), (1 : Int)) ((2 : Int), (1 : Int)) 2 = [((-2, 1), (-1, 1)), ((1, 1), (2, 1))] by decide +kernel] at h
  exact h
theorem k_is2 (v : Value) : Cal Tryz.prog 35 #[v, .agg #[.bool (decide ((0 : Int) < 0)), .string (bstr (0 : Int).natAbs), .bool (decide ((1 : Int) < 0)), .string (bstr (1 : Int).natAbs)], .agg #[.bool (decide ((4 : Int) < 0)), .string (bstr (4 : Int).natAbs), .bool (decide ((1 : Int) < 0)), .string (bstr (1 : Int).natAbs)], .int .i64 0] [slp 2 wv v [1, -2, 1]] true (G := Value) (fun r => True) (fun r => .tuple #[r, .int .i64 0]) (fun r => [slp 8 iq r [((0, 1), (4, 1))]]) := by
  have h := st_isolate v [1, -2, 1] (vp_b (by decide +kernel)) ((0 : Int), (1 : Int)) ((4 : Int), (1 : Int)) 0 (by decide +kernel) (by decide +kernel) (by decide) (by decide +kernel) 12 (by decide) 20 (by decide +kernel)
  rw [show sisol 12 [1, -2, 1] 20 ((0 : Int), (1 : Int)) ((4 : Int), (1 : Int)) 0 = [((0, 1), (4, 1))] by decide +kernel] at h
  exact h
theorem k_p (v : Value) (l xs : List Int) (h1 : (l.all fun x => decide (-1000000 ≤ x) && decide (x ≤ 1000000)) = true) (h2 : l.length ≤ 1000) (hx : tzl l = xs) : Cal Tryz.prog 39 #[v] [slp 1 encZ v l] true (G := Value) (fun r => True) (fun r => r) (fun r => [slp 2 wv r xs]) := by
  subst hx; exact law_p v l (inI_all h1) h2
end Go.Sky
namespace Go.Sky
open Go.Proofs
set_option maxRecDepth 20000
set_option maxHeartbeats 4000000
set_option linter.unusedVariables false
set_option linter.unusedSimpArgs false
set_option maxHeartbeats 4000000 in
theorem law_known  : Cal Tryz.prog 11 #[] [] false (G := Unit) (fun _ => True) (fun _ => .bool true) (fun _ => []) := by
 refine cal_in Tryz.func11 rfl Tryz.ntmps11 rfl trivial ?_
 intro w0 sc hw hsc
 simp only [enumEnv, enumPre]
 refine e_imp (s_nil 999 2 28 wv) ?_
 refine e_imp (s_pub 999 rfl rfl pV) ?_
 refine e_seq (e_reg (as_ rfl rfl (l_nil (x_then (e_seq (e_reg (tt (t_bsg (i := 1) (ivs := [(0, _), (1, _), (2, _)]) (enc := encZ) ([1, 2, 1] : List Int) rfl rfl rfl ⟨rfl, rfl, rfl, rfl, rfl, rfl, trivial⟩ Tryz.underlying37 Tryz.ti3 rfl rfl rfl rfl rfl rfl pZ.cells rfl rfl hw) rfl (fun v _ => ?_))))))))
 refine l_imp (s_pub 1 rfl rfl pZ) ?_
 refine tt (t_call (n := 2) (k_p _ [1, 2, 1] [1, 2, 1] (by decide +kernel) (by decide) (by decide +kernel)) rfl rfl rfl ⟨rfl, trivial⟩ Tryz.call39 (pre_same 1 rfl rfl rfl pre_nil) rfl hw) rfl (fun v_2 _ => ?_)
 refine tt (t_call (n := 3) (k_sq1 _) rfl rfl rfl ⟨rfl, trivial⟩ Tryz.call19 (pre_same 2 rfl rfl rfl pre_nil) rfl hw) rfl (fun _ _ => ?_)
 refine mv rfl rfl (dt (d_ex rfl rfl rfl) rfl ?_)
 refine dt (d_ex rfl rfl rfl) rfl ?_
 refine as_ rfl rfl (as_ rfl rfl (l_nil (x_then (e_seq (e_reg (tt (t_bsg (i := 4) (ivs := [(0, _), (1, _), (2, _)]) (enc := encZ) ([0, 0, -6] : List Int) rfl rfl rfl ⟨rfl, rfl, rfl, rfl, rfl, rfl, trivial⟩ Tryz.underlying37 Tryz.ti3 rfl rfl rfl rfl rfl rfl pZ.cells rfl rfl hw) rfl (fun v_3 _ => ?_)))))))
 refine l_imp (s_pub 4 rfl rfl pZ) ?_
 refine tt (t_call (n := 5) (k_p _ [0, 0, -6] [0, 0, -6] (by decide +kernel) (by decide) (by decide +kernel)) rfl rfl rfl ⟨rfl, trivial⟩ Tryz.call39 (pre_same 4 rfl rfl rfl pre_nil) rfl hw) rfl (fun v_4 _ => ?_)
 refine tt (t_call (n := 6) (k_sq2 _) rfl rfl rfl ⟨rfl, trivial⟩ Tryz.call19 (pre_same 5 rfl rfl rfl pre_nil) rfl hw) rfl (fun _ _ => ?_)
 refine mv rfl rfl (dt (d_ex rfl rfl rfl) rfl ?_)
 refine dt (d_ex rfl rfl rfl) rfl ?_
 refine as_ rfl rfl (as_ rfl rfl (l_nil (x_then (e_seq (e_reg (tt (t_bsg (i := 7) (ivs := [(0, _)]) (enc := encZ) ([5] : List Int) rfl rfl rfl ⟨rfl, rfl, trivial⟩ Tryz.underlying37 Tryz.ti3 rfl rfl rfl rfl rfl rfl pZ.cells rfl rfl hw) rfl (fun v_5 _ => ?_)))))))
 refine l_imp (s_pub 7 rfl rfl pZ) ?_
 refine tt (t_call (n := 8) (k_p _ [5] [5] (by decide +kernel) (by decide) (by decide +kernel)) rfl rfl rfl ⟨rfl, trivial⟩ Tryz.call39 (pre_same 7 rfl rfl rfl pre_nil) rfl hw) rfl (fun v_6 _ => ?_)
 refine tt (t_call (n := 9) (k_sq3 _) rfl rfl rfl ⟨rfl, trivial⟩ Tryz.call19 (pre_same 8 rfl rfl rfl pre_nil) rfl hw) rfl (fun _ _ => ?_)
 refine mv rfl rfl (dt (d_ex rfl rfl rfl) rfl ?_)
 refine dt (d_ex rfl rfl rfl) rfl ?_
 refine as_ rfl rfl (as_ rfl rfl (l_nil (x_then (e_seq (e_seq (e_reg (mv rfl rfl (tt (t_bsg (i := 10) (ivs := [(0, _), (1, _)]) (enc := encZ) ([1, 1] : List Int) rfl rfl rfl ⟨rfl, rfl, rfl, rfl, trivial⟩ Tryz.underlying37 Tryz.ti3 rfl rfl rfl rfl rfl rfl pZ.cells rfl rfl hw) rfl (fun v_7 _ => ?_)))))))))
 refine l_imp (s_pub 10 rfl rfl pZ) ?_
 refine tt (t_call (n := 11) (k_p _ [1, 1] [1, 1] (by decide +kernel) (by decide) (by decide +kernel)) rfl rfl rfl ⟨rfl, trivial⟩ Tryz.call39 (pre_same 10 rfl rfl rfl pre_nil) rfl hw) rfl (fun v_8 _ => ?_)
 refine tt (t_call (n := 11) (r_same_ii _ _ _ _) rfl rfl rfl ⟨rfl, rfl, trivial⟩ Tryz.call24 (pre_same 3 rfl rfl rfl (pre_same 11 rfl rfl rfl pre_nil)) rfl hw) rfl (fun _ _ => ?_)
 refine dt (det_is (r' := .bool false) (d_not rfl rfl) (congrArg Value.bool (by first | decide | (simp only [hk0, hk1, hk2, hk3]; decide)))) rfl ?_
 refine mv rfl rfl (gdt (d_mv rfl rfl) rfl rfl rfl rfl ?_)
 refine gdt (det_is (r' := .bool false) (d_neq rfl rfl rfl) (congrArg Value.bool (by first | decide | (simp only [hkl, hkm]; decide)))) rfl rfl rfl rfl ?_
 refine dt (d_pickf rfl rfl rfl) rfl ?_
 refine mv rfl rfl (gdt (d_mv rfl rfl) rfl rfl rfl rfl ?_)
 refine gtt (t_bsg (i := 12) (ivs := [(0, _), (1, _)]) (enc := encZ) ([0, 1] : List Int) rfl rfl rfl ⟨rfl, rfl, rfl, rfl, trivial⟩ Tryz.underlying37 Tryz.ti3 rfl rfl rfl rfl rfl rfl pZ.cells rfl rfl hw) rfl rfl rfl rfl (fun v_9 _ => ?_)
 refine l_imp (s_pub 12 rfl rfl pZ) ?_
 refine gtt (t_call (n := 13) (k_p _ [0, 1] [0, 1] (by decide +kernel) (by decide) (by decide +kernel)) rfl rfl rfl ⟨rfl, trivial⟩ Tryz.call39 (pre_same 12 rfl rfl rfl pre_nil) rfl hw) rfl rfl rfl rfl (fun v_10 _ => ?_)
 refine gtt (t_call (n := 13) (r_same_ii _ _ _ _) rfl rfl rfl ⟨rfl, rfl, trivial⟩ Tryz.call24 (pre_same 6 rfl rfl rfl (pre_same 13 rfl rfl rfl pre_nil)) rfl hw) rfl rfl rfl rfl (fun _ _ => ?_)
 refine gdt (det_is (r' := .bool false) (d_not rfl rfl) (congrArg Value.bool (by first | decide | (simp only [hk0, hk1, hk2, hk3]; decide)))) rfl rfl rfl rfl ?_
 refine dt (d_pickf rfl rfl rfl) rfl ?_
 refine mv rfl rfl (gdt (d_mv rfl rfl) rfl rfl rfl rfl ?_)
 refine gdt (det_is (r' := .bool false) (d_neq rfl rfl rfl) (congrArg Value.bool (by first | decide | (simp only [hkl, hkm]; decide)))) rfl rfl rfl rfl ?_
 refine dt (d_pickf rfl rfl rfl) rfl ?_
 refine mv rfl rfl (gdt (d_mv rfl rfl) rfl rfl rfl rfl ?_)
 refine gtt (t_bsg (i := 14) (ivs := [(0, _)]) (enc := encZ) ([1] : List Int) rfl rfl rfl ⟨rfl, rfl, trivial⟩ Tryz.underlying37 Tryz.ti3 rfl rfl rfl rfl rfl rfl pZ.cells rfl rfl hw) rfl rfl rfl rfl (fun v_11 _ => ?_)
 refine l_imp (s_pub 14 rfl rfl pZ) ?_
 refine gtt (t_call (n := 15) (k_p _ [1] [1] (by decide +kernel) (by decide) (by decide +kernel)) rfl rfl rfl ⟨rfl, trivial⟩ Tryz.call39 (pre_same 14 rfl rfl rfl pre_nil) rfl hw) rfl rfl rfl rfl (fun v_12 _ => ?_)
 refine gtt (t_call (n := 15) (r_same_ii _ _ _ _) rfl rfl rfl ⟨rfl, rfl, trivial⟩ Tryz.call24 (pre_same 9 rfl rfl rfl (pre_same 15 rfl rfl rfl pre_nil)) rfl hw) rfl rfl rfl rfl (fun _ _ => ?_)
 refine gdt (det_is (r' := .bool false) (d_not rfl rfl) (congrArg Value.bool (by first | decide | (simp only [hk0, hk1, hk2, hk3]; decide)))) rfl rfl rfl rfl ?_
 refine dt (d_pickf rfl rfl rfl) rfl ?_
 refine mv rfl rfl (gdt (d_mv rfl rfl) rfl rfl rfl rfl ?_)
 refine gdt (det_is (r' := .bool false) (d_neq rfl rfl rfl) (congrArg Value.bool (by first | decide | (simp only [hkl, hkm]; decide)))) rfl rfl rfl rfl ?_
 refine dt (d_pickf rfl rfl rfl) rfl ?_
 refine l_nil (x_then (e_condf rfl ?_))
 refine e_skip ?_
 refine x_then (e_seq (e_reg (tt (t_bsg (i := 16) (ivs := [(0, _), (1, _), (2, _)]) (enc := encZ) ([-2, 0, 1] : List Int) rfl rfl rfl ⟨rfl, rfl, rfl, rfl, rfl, rfl, trivial⟩ Tryz.underlying37 Tryz.ti3 rfl rfl rfl rfl rfl rfl pZ.cells rfl rfl hw) rfl (fun v_13 _ => ?_))))
 refine l_imp (s_pub 16 rfl rfl pZ) ?_
 refine tt (t_call (n := 17) (k_p _ [-2, 0, 1] [-2, 0, 1] (by decide +kernel) (by decide) (by decide +kernel)) rfl rfl rfl ⟨rfl, trivial⟩ Tryz.call39 (pre_same 16 rfl rfl rfl pre_nil) rfl hw) rfl (fun v_14 _ => ?_)
 refine tt (t_call (n := 18) (k_ch1 _) rfl rfl rfl ⟨rfl, trivial⟩ Tryz.call20 (pre_same 17 rfl rfl rfl pre_nil) rfl hw) rfl (fun g hg => ?_)
 refine mv rfl rfl (dt (d_ex rfl rfl rfl) rfl ?_)
 refine dt (d_ex rfl rfl rfl) rfl ?_
 refine as_ rfl rfl (as_ rfl rfl (l_nil (x_then (e_seq (e_reg (tt (t_bsg (i := 19) (ivs := [(0, _)]) (enc := encZ) ([-4] : List Int) rfl rfl rfl ⟨rfl, rfl, trivial⟩ Tryz.underlying37 Tryz.ti3 rfl rfl rfl rfl rfl rfl pZ.cells rfl rfl hw) rfl (fun v_15 _ => ?_)))))))
 refine l_imp (s_pub 19 rfl rfl pZ) ?_
 refine tt (t_call (n := 20) (k_p _ [-4] [-4] (by decide +kernel) (by decide) (by decide +kernel)) rfl rfl rfl ⟨rfl, trivial⟩ Tryz.call39 (pre_same 19 rfl rfl rfl pre_nil) rfl hw) rfl (fun v_16 _ => ?_)
 refine tt (t_call (n := 21) (k_ch2 _) rfl rfl rfl ⟨rfl, trivial⟩ Tryz.call20 (pre_same 20 rfl rfl rfl pre_nil) rfl hw) rfl (fun g_2 hg_2 => ?_)
 refine mv rfl rfl (dt (d_ex rfl rfl rfl) rfl ?_)
 refine dt (d_ex rfl rfl rfl) rfl ?_
 refine as_ rfl rfl (as_ rfl rfl (l_nil (x_then (e_seq (e_seq ?_)))))
 have hkl := snd_len hg
 have hkm := snd_len hg_2
 simp only [List.length_cons, List.length_nil] at hkl hkm
 have hk0 := snd_getD hg 0
 refine e_imp (s_deep 18 92 (g.2.getD 0 Z0) rfl rfl (getD_mem (by omega)) rfl) ?_
 have hk1 := snd_getD hg 1
 refine e_imp (s_deep 18 93 (g.2.getD 1 Z0) rfl rfl (getD_mem (by omega)) rfl) ?_
 have hk2 := snd_getD hg 2
 refine e_imp (s_deep 18 94 (g.2.getD 2 Z0) rfl rfl (getD_mem (by omega)) rfl) ?_
 have hk3 := snd_getD hg_2 0
 refine e_imp (s_deep 21 95 (g_2.2.getD 0 Z0) rfl rfl (getD_mem (by omega)) rfl) ?_
 refine e_drega (fun _ => False) [] (by kernel_rfl) ?_
 refine a_lin' (n := 44) [(0, 0), (1, 0), (2, 0), (3, 0), (4, 0), (5, 0), (6, 0), (7, 1)] (by kernel_rfl) ?_
 refine r0' rfl rfl rfl rfl (st0 (d_mv rfl rfl)) ?_
 refine r0' rfl rfl rfl rfl (st0 (d_len rfl rfl (i := 18) rfl rd_deep Tryz.underlying44)) ?_
 refine r0' rfl rfl rfl rfl (st0 (det_is (r' := .bool false) (d_neq rfl rfl rfl) (congrArg Value.bool (by first | decide | (simp only [hkl, hkm]; decide))))) ?_
 refine r0' rfl rfl rfl rfl (st0 (d_mv rfl rfl)) ?_
 refine r0g (st0 (d_mv rfl rfl)) rfl rfl rfl rfl rfl rfl rfl ?_
 refine r0g (st0 (d_ixa (ii := 18) rfl rfl rfl rfl rd_deep Tryz.underlying44 Tryz.sizeOf23 rfl (by first | omega | (simp only [List.length_set]; omega)))) rfl rfl rfl rfl rfl rfl rfl ?_
 refine r0g (st0 (d_lde (ii := 18) Z0 rfl rfl rfl rd_deep pS (by first | omega | (simp only [List.length_set]; omega)))) rfl rfl rfl rfl rfl rfl rfl ?_
 refine r1g' rfl rfl rfl rfl rfl (t_bsg (i := 22) (ivs := [(0, _), (1, _), (2, _)]) (enc := encZ) ([-2, 0, 1] : List Int) rfl rfl rfl ⟨rfl, rfl, rfl, rfl, rfl, rfl, trivial⟩ Tryz.underlying37 Tryz.ti3 rfl rfl rfl rfl rfl rfl pZ.cells rfl rfl hw) (fun v_17 _ => ?_)
 refine r_fin ?_
 refine a_imp (s_pub 22 rfl rfl pZ) ?_
 refine a_lin' (n := 35) [(8, 1), (9, 1), (10, 0), (11, 0), (12, 0), (13, 0), (14, 0), (15, 0), (16, 1)] (by kernel_rfl) ?_
 refine r1g' rfl rfl rfl rfl rfl (t_call (n := 23) (k_p _ [-2, 0, 1] [-2, 0, 1] (by decide +kernel) (by decide) (by decide +kernel)) rfl rfl rfl ⟨rfl, trivial⟩ Tryz.call39 (pre_same 22 rfl rfl rfl pre_nil) rfl hw) (fun v_18 _ => ?_)
 refine r1g' rfl rfl rfl rfl rfl (t_call (n := 23) (r_same_ii _ _ _ _) rfl rfl rfl ⟨rfl, rfl, trivial⟩ Tryz.call24 (pre_same 92 rfl rfl rfl (pre_same 23 rfl rfl rfl pre_nil)) rfl hw) (fun _ _ => ?_)
 refine r0g (st0 (det_is (r' := .bool false) (d_not rfl rfl) (congrArg Value.bool (by first | decide | (simp only [hk0, hk1, hk2, hk3]; decide))))) rfl rfl rfl rfl rfl rfl rfl ?_
 refine r0' rfl rfl rfl rfl (st0 (d_pickf rfl rfl rfl)) ?_
 refine r0' rfl rfl rfl rfl (st0 (d_mv rfl rfl)) ?_
 refine r0g (st0 (d_mv rfl rfl)) rfl rfl rfl rfl rfl rfl rfl ?_
 refine r0g (st0 (d_ixa (ii := 18) rfl rfl rfl rfl rd_deep Tryz.underlying44 Tryz.sizeOf23 rfl (by first | omega | (simp only [List.length_set]; omega)))) rfl rfl rfl rfl rfl rfl rfl ?_
 refine r0g (st0 (d_lde (ii := 18) Z0 rfl rfl rfl rd_deep pS (by first | omega | (simp only [List.length_set]; omega)))) rfl rfl rfl rfl rfl rfl rfl ?_
 refine r1g' rfl rfl rfl rfl rfl (t_bsg (i := 24) (ivs := [(0, _), (1, _)]) (enc := encZ) ([0, 1] : List Int) rfl rfl rfl ⟨rfl, rfl, rfl, rfl, trivial⟩ Tryz.underlying37 Tryz.ti3 rfl rfl rfl rfl rfl rfl pZ.cells rfl rfl hw) (fun v_19 _ => ?_)
 refine r_fin ?_
 refine a_imp (s_pub 24 rfl rfl pZ) ?_
 refine a_lin' (n := 26) [(17, 1), (18, 1), (19, 0), (20, 0), (21, 0), (22, 0), (23, 0), (24, 0), (25, 1)] (by kernel_rfl) ?_
 refine r1g' rfl rfl rfl rfl rfl (t_call (n := 25) (k_p _ [0, 1] [0, 1] (by decide +kernel) (by decide) (by decide +kernel)) rfl rfl rfl ⟨rfl, trivial⟩ Tryz.call39 (pre_same 24 rfl rfl rfl pre_nil) rfl hw) (fun v_20 _ => ?_)
 refine r1g' rfl rfl rfl rfl rfl (t_call (n := 25) (r_same_ii _ _ _ _) rfl rfl rfl ⟨rfl, rfl, trivial⟩ Tryz.call24 (pre_same 93 rfl rfl rfl (pre_same 25 rfl rfl rfl pre_nil)) rfl hw) (fun _ _ => ?_)
 refine r0g (st0 (det_is (r' := .bool false) (d_not rfl rfl) (congrArg Value.bool (by first | decide | (simp only [hk0, hk1, hk2, hk3]; decide))))) rfl rfl rfl rfl rfl rfl rfl ?_
 refine r0' rfl rfl rfl rfl (st0 (d_pickf rfl rfl rfl)) ?_
 refine r0' rfl rfl rfl rfl (st0 (d_mv rfl rfl)) ?_
 refine r0g (st0 (d_mv rfl rfl)) rfl rfl rfl rfl rfl rfl rfl ?_
 refine r0g (st0 (d_ixa (ii := 18) rfl rfl rfl rfl rd_deep Tryz.underlying44 Tryz.sizeOf23 rfl (by first | omega | (simp only [List.length_set]; omega)))) rfl rfl rfl rfl rfl rfl rfl ?_
 refine r0g (st0 (d_lde (ii := 18) Z0 rfl rfl rfl rd_deep pS (by first | omega | (simp only [List.length_set]; omega)))) rfl rfl rfl rfl rfl rfl rfl ?_
 refine r1g' rfl rfl rfl rfl rfl (t_bsg (i := 26) (ivs := [(0, _)]) (enc := encZ) ([1] : List Int) rfl rfl rfl ⟨rfl, rfl, trivial⟩ Tryz.underlying37 Tryz.ti3 rfl rfl rfl rfl rfl rfl pZ.cells rfl rfl hw) (fun v_21 _ => ?_)
 refine r_fin ?_
 refine a_imp (s_pub 26 rfl rfl pZ) ?_
 refine a_lin' (n := 8) [(26, 1), (27, 1), (28, 0), (29, 0), (30, 0), (31, 0), (32, 0), (33, 0), (34, 0), (35, 0), (36, 0), (37, 0), (38, 0), (39, 0), (40, 0), (41, 0), (42, 0), (43, 1)] (by kernel_rfl) ?_
 refine r1g' rfl rfl rfl rfl rfl (t_call (n := 27) (k_p _ [1] [1] (by decide +kernel) (by decide) (by decide +kernel)) rfl rfl rfl ⟨rfl, trivial⟩ Tryz.call39 (pre_same 26 rfl rfl rfl pre_nil) rfl hw) (fun v_22 _ => ?_)
 refine r1g' rfl rfl rfl rfl rfl (t_call (n := 27) (r_same_ii _ _ _ _) rfl rfl rfl ⟨rfl, rfl, trivial⟩ Tryz.call24 (pre_same 94 rfl rfl rfl (pre_same 27 rfl rfl rfl pre_nil)) rfl hw) (fun _ _ => ?_)
 refine r0g (st0 (det_is (r' := .bool false) (d_not rfl rfl) (congrArg Value.bool (by first | decide | (simp only [hk0, hk1, hk2, hk3]; decide))))) rfl rfl rfl rfl rfl rfl rfl ?_
 refine r0' rfl rfl rfl rfl (st0 (d_pickf rfl rfl rfl)) ?_
 refine r0' rfl rfl rfl rfl (st0 (d_mv rfl rfl)) ?_
 refine r0g (st0 (d_mv rfl rfl)) rfl rfl rfl rfl rfl rfl rfl ?_
 refine r0g (st0 (det_is (r' := .bool false) (d_neq rfl rfl rfl) (congrArg Value.bool (by first | decide | (simp only [hkl, hkm]; decide))))) rfl rfl rfl rfl rfl rfl rfl ?_
 refine r0' rfl rfl rfl rfl (st0 (d_pickf rfl rfl rfl)) ?_
 refine r0' rfl rfl rfl rfl (st0 (d_mv rfl rfl)) ?_
 refine r0g (st0 (d_mv rfl rfl)) rfl rfl rfl rfl rfl rfl rfl ?_
 refine r0g (st0 (d_len rfl rfl (i := 21) rfl rd_deep Tryz.underlying44)) rfl rfl rfl rfl rfl rfl rfl ?_
 refine r0g (st0 (det_is (r' := .bool false) (d_neq rfl rfl rfl) (congrArg Value.bool (by first | decide | (simp only [hkl, hkm]; decide))))) rfl rfl rfl rfl rfl rfl rfl ?_
 refine r0' rfl rfl rfl rfl (st0 (d_pickf rfl rfl rfl)) ?_
 refine r0' rfl rfl rfl rfl (st0 (d_mv rfl rfl)) ?_
 refine r0g (st0 (d_mv rfl rfl)) rfl rfl rfl rfl rfl rfl rfl ?_
 refine r0g (st0 (d_ixa (ii := 21) rfl rfl rfl rfl rd_deep Tryz.underlying44 Tryz.sizeOf23 rfl (by first | omega | (simp only [List.length_set]; omega)))) rfl rfl rfl rfl rfl rfl rfl ?_
 refine r0g (st0 (d_lde (ii := 21) Z0 rfl rfl rfl rd_deep pS (by first | omega | (simp only [List.length_set]; omega)))) rfl rfl rfl rfl rfl rfl rfl ?_
 refine r1g' rfl rfl rfl rfl rfl (t_bsg (i := 28) (ivs := [(0, _)]) (enc := encZ) ([1] : List Int) rfl rfl rfl ⟨rfl, rfl, trivial⟩ Tryz.underlying37 Tryz.ti3 rfl rfl rfl rfl rfl rfl pZ.cells rfl rfl hw) (fun v_23 _ => ?_)
 refine r_fin ?_
 refine a_imp (s_pub 28 rfl rfl pZ) ?_
 refine a_lin' (n := 0) [(44, 1), (45, 1), (46, 0), (47, 0), (48, 0), (49, 0), (50, 0), (51, 0)] (by kernel_rfl) ?_
 refine r1g' rfl rfl rfl rfl rfl (t_call (n := 29) (k_p _ [1] [1] (by decide +kernel) (by decide) (by decide +kernel)) rfl rfl rfl ⟨rfl, trivial⟩ Tryz.call39 (pre_same 28 rfl rfl rfl pre_nil) rfl hw) (fun v_24 _ => ?_)
 refine r1g' rfl rfl rfl rfl rfl (t_call (n := 29) (r_same_ii _ _ _ _) rfl rfl rfl ⟨rfl, rfl, trivial⟩ Tryz.call24 (pre_same 95 rfl rfl rfl (pre_same 29 rfl rfl rfl pre_nil)) rfl hw) (fun _ _ => ?_)
 refine r0g (st0 (det_is (r' := .bool false) (d_not rfl rfl) (congrArg Value.bool (by first | decide | (simp only [hk0, hk1, hk2, hk3]; decide))))) rfl rfl rfl rfl rfl rfl rfl ?_
 refine r0' rfl rfl rfl rfl (st0 (d_pickf rfl rfl rfl)) ?_
 refine r0' rfl rfl rfl rfl (st0 (d_mv rfl rfl)) ?_
 refine r0g (st0 (d_mv rfl rfl)) rfl rfl rfl rfl rfl rfl rfl ?_
 refine r0g (st0 (det_is (r' := .bool false) (d_neq rfl rfl rfl) (congrArg Value.bool (by first | decide | (simp only [hkl, hkm]; decide))))) rfl rfl rfl rfl rfl rfl rfl ?_
 refine r0' rfl rfl rfl rfl (st0 (d_pickf rfl rfl rfl)) ?_
 refine r_fin ?_
 refine a_done (by kernel_rfl) ?_
 refine x_then (e_condf rfl ?_)
 refine e_skip ?_
 refine x_then (e_seq (e_reg (tt (t_bsg (i := 30) (ivs := [(0, _), (1, _), (2, _)]) (enc := encZ) ([-2, 0, 1] : List Int) rfl rfl rfl ⟨rfl, rfl, rfl, rfl, rfl, rfl, trivial⟩ Tryz.underlying37 Tryz.ti3 rfl rfl rfl rfl rfl rfl pZ.cells rfl rfl hw) rfl (fun v_25 _ => ?_))))
 refine l_imp (s_pub 30 rfl rfl pZ) ?_
 refine tt (t_call (n := 31) (k_p _ [-2, 0, 1] [-2, 0, 1] (by decide +kernel) (by decide) (by decide +kernel)) rfl rfl rfl ⟨rfl, trivial⟩ Tryz.call39 (pre_same 30 rfl rfl rfl pre_nil) rfl hw) rfl (fun v_26 _ => ?_)
 refine tt (t_call (n := 31) (law_q _ _ ⟨by decide, by decide⟩ ⟨by decide, by decide⟩) rfl rfl rfl ⟨rfl, rfl, trivial⟩ Tryz.call22 pre_nil rfl hw) rfl (fun _ _ => ?_)
 refine tt (t_call (n := 31) (law_q _ _ ⟨by decide, by decide⟩ ⟨by decide, by decide⟩) rfl rfl rfl ⟨rfl, rfl, trivial⟩ Tryz.call22 pre_nil rfl hw) rfl (fun _ _ => ?_)
 refine tt (t_call (n := 31) (k_cnt1 _) rfl rfl rfl ⟨rfl, rfl, rfl, trivial⟩ Tryz.call28 (pre_same 31 rfl rfl rfl pre_nil) rfl hw) rfl (fun _ _ => ?_)
 refine mv rfl rfl (dt (d_ex rfl rfl rfl) rfl ?_)
 refine dt (d_ex rfl rfl rfl) rfl ?_
 refine as_ rfl rfl (as_ rfl rfl (l_nil (x_then (e_seq (e_reg (tt (t_bsg (i := 32) (ivs := [(0, _), (1, _), (2, _)]) (enc := encZ) ([-2, 0, 1] : List Int) rfl rfl rfl ⟨rfl, rfl, rfl, rfl, rfl, rfl, trivial⟩ Tryz.underlying37 Tryz.ti3 rfl rfl rfl rfl rfl rfl pZ.cells rfl rfl hw) rfl (fun v_27 _ => ?_)))))))
 refine l_imp (s_pub 32 rfl rfl pZ) ?_
 refine tt (t_call (n := 33) (k_p _ [-2, 0, 1] [-2, 0, 1] (by decide +kernel) (by decide) (by decide +kernel)) rfl rfl rfl ⟨rfl, trivial⟩ Tryz.call39 (pre_same 32 rfl rfl rfl pre_nil) rfl hw) rfl (fun v_28 _ => ?_)
 refine tt (t_call (n := 33) (law_q _ _ ⟨by decide, by decide⟩ ⟨by decide, by decide⟩) rfl rfl rfl ⟨rfl, rfl, trivial⟩ Tryz.call22 pre_nil rfl hw) rfl (fun _ _ => ?_)
 refine tt (t_call (n := 33) (law_q _ _ ⟨by decide, by decide⟩ ⟨by decide, by decide⟩) rfl rfl rfl ⟨rfl, rfl, trivial⟩ Tryz.call22 pre_nil rfl hw) rfl (fun _ _ => ?_)
 refine tt (t_call (n := 33) (k_cnt2 _) rfl rfl rfl ⟨rfl, rfl, rfl, trivial⟩ Tryz.call28 (pre_same 33 rfl rfl rfl pre_nil) rfl hw) rfl (fun _ _ => ?_)
 refine mv rfl rfl (dt (d_ex rfl rfl rfl) rfl ?_)
 refine dt (d_ex rfl rfl rfl) rfl ?_
 refine as_ rfl rfl (as_ rfl rfl (l_nil (x_then (e_seq (e_reg (tt (t_bsg (i := 34) (ivs := [(0, _), (1, _)]) (enc := encZ) ([0, 1] : List Int) rfl rfl rfl ⟨rfl, rfl, rfl, rfl, trivial⟩ Tryz.underlying37 Tryz.ti3 rfl rfl rfl rfl rfl rfl pZ.cells rfl rfl hw) rfl (fun v_29 _ => ?_)))))))
 refine l_imp (s_pub 34 rfl rfl pZ) ?_
 refine tt (t_call (n := 35) (k_p _ [0, 1] [0, 1] (by decide +kernel) (by decide) (by decide +kernel)) rfl rfl rfl ⟨rfl, trivial⟩ Tryz.call39 (pre_same 34 rfl rfl rfl pre_nil) rfl hw) rfl (fun v_30 _ => ?_)
 refine tt (t_call (n := 35) (law_q _ _ ⟨by decide, by decide⟩ ⟨by decide, by decide⟩) rfl rfl rfl ⟨rfl, rfl, trivial⟩ Tryz.call22 pre_nil rfl hw) rfl (fun _ _ => ?_)
 refine tt (t_call (n := 35) (law_q _ _ ⟨by decide, by decide⟩ ⟨by decide, by decide⟩) rfl rfl rfl ⟨rfl, rfl, trivial⟩ Tryz.call22 pre_nil rfl hw) rfl (fun _ _ => ?_)
 refine tt (t_call (n := 35) (k_cnt3 _) rfl rfl rfl ⟨rfl, rfl, rfl, trivial⟩ Tryz.call28 (pre_same 35 rfl rfl rfl pre_nil) rfl hw) rfl (fun _ _ => ?_)
 refine mv rfl rfl (dt (d_ex rfl rfl rfl) rfl ?_)
 refine dt (d_ex rfl rfl rfl) rfl ?_
 refine as_ rfl rfl (as_ rfl rfl (l_nil (x_then (e_seq (e_reg (tt (t_bsg (i := 36) (ivs := [(0, _), (1, _)]) (enc := encZ) ([0, 1] : List Int) rfl rfl rfl ⟨rfl, rfl, rfl, rfl, trivial⟩ Tryz.underlying37 Tryz.ti3 rfl rfl rfl rfl rfl rfl pZ.cells rfl rfl hw) rfl (fun v_31 _ => ?_)))))))
 refine l_imp (s_pub 36 rfl rfl pZ) ?_
 refine tt (t_call (n := 37) (k_p _ [0, 1] [0, 1] (by decide +kernel) (by decide) (by decide +kernel)) rfl rfl rfl ⟨rfl, trivial⟩ Tryz.call39 (pre_same 36 rfl rfl rfl pre_nil) rfl hw) rfl (fun v_32 _ => ?_)
 refine tt (t_call (n := 37) (law_q _ _ ⟨by decide, by decide⟩ ⟨by decide, by decide⟩) rfl rfl rfl ⟨rfl, rfl, trivial⟩ Tryz.call22 pre_nil rfl hw) rfl (fun _ _ => ?_)
 refine tt (t_call (n := 37) (law_q _ _ ⟨by decide, by decide⟩ ⟨by decide, by decide⟩) rfl rfl rfl ⟨rfl, rfl, trivial⟩ Tryz.call22 pre_nil rfl hw) rfl (fun _ _ => ?_)
 refine tt (t_call (n := 37) (k_cnt4 _) rfl rfl rfl ⟨rfl, rfl, rfl, trivial⟩ Tryz.call28 (pre_same 37 rfl rfl rfl pre_nil) rfl hw) rfl (fun _ _ => ?_)
 refine mv rfl rfl (dt (d_ex rfl rfl rfl) rfl ?_)
 refine dt (d_ex rfl rfl rfl) rfl ?_
 refine as_ rfl rfl (as_ rfl rfl (l_nil (x_then (e_seq (e_seq (e_reg (mv rfl rfl (dt (det_is (r' := .bool false) (d_neq rfl rfl rfl) (congrArg Value.bool (by first | decide | (simp only [hkl, hkm]; decide)))) rfl ?_))))))))
 refine mv rfl rfl (gdt (d_mv rfl rfl) rfl rfl rfl rfl ?_)
 refine gdt (det_is (r' := .bool false) (d_neq rfl rfl rfl) (congrArg Value.bool (by first | decide | (simp only [hkl, hkm]; decide)))) rfl rfl rfl rfl ?_
 refine dt (d_pickf rfl rfl rfl) rfl ?_
 refine mv rfl rfl (gdt (d_mv rfl rfl) rfl rfl rfl rfl ?_)
 refine gdt (det_is (r' := .bool false) (d_neq rfl rfl rfl) (congrArg Value.bool (by first | decide | (simp only [hkl, hkm]; decide)))) rfl rfl rfl rfl ?_
 refine dt (d_pickf rfl rfl rfl) rfl ?_
 refine mv rfl rfl (gdt (d_mv rfl rfl) rfl rfl rfl rfl ?_)
 refine gdt (det_is (r' := .bool false) (d_neq rfl rfl rfl) (congrArg Value.bool (by first | decide | (simp only [hkl, hkm]; decide)))) rfl rfl rfl rfl ?_
 refine dt (d_pickf rfl rfl rfl) rfl ?_
 refine mv rfl rfl (gdt (d_mv rfl rfl) rfl rfl rfl rfl ?_)
 refine gdt (det_is (r' := .bool false) (d_neq rfl rfl rfl) (congrArg Value.bool (by first | decide | (simp only [hkl, hkm]; decide)))) rfl rfl rfl rfl ?_
 refine dt (d_pickf rfl rfl rfl) rfl ?_
 refine mv rfl rfl (gdt (d_mv rfl rfl) rfl rfl rfl rfl ?_)
 refine gdt (det_is (r' := .bool false) (d_neq rfl rfl rfl) (congrArg Value.bool (by first | decide | (simp only [hkl, hkm]; decide)))) rfl rfl rfl rfl ?_
 refine dt (d_pickf rfl rfl rfl) rfl ?_
 refine mv rfl rfl (gdt (d_mv rfl rfl) rfl rfl rfl rfl ?_)
 refine gdt (det_is (r' := .bool false) (d_neq rfl rfl rfl) (congrArg Value.bool (by first | decide | (simp only [hkl, hkm]; decide)))) rfl rfl rfl rfl ?_
 refine dt (d_pickf rfl rfl rfl) rfl ?_
 refine mv rfl rfl (gdt (d_mv rfl rfl) rfl rfl rfl rfl ?_)
 refine gdt (det_is (r' := .bool false) (d_neq rfl rfl rfl) (congrArg Value.bool (by first | decide | (simp only [hkl, hkm]; decide)))) rfl rfl rfl rfl ?_
 refine dt (d_pickf rfl rfl rfl) rfl ?_
 refine l_nil (x_then (e_condf rfl ?_))
 refine e_skip ?_
 refine x_then (e_seq (e_reg (tt (t_bsg (i := 38) (ivs := [(0, _), (1, _), (2, _)]) (enc := encZ) ([1, 0, 1] : List Int) rfl rfl rfl ⟨rfl, rfl, rfl, rfl, rfl, rfl, trivial⟩ Tryz.underlying37 Tryz.ti3 rfl rfl rfl rfl rfl rfl pZ.cells rfl rfl hw) rfl (fun v_33 _ => ?_))))
 refine l_imp (s_pub 38 rfl rfl pZ) ?_
 refine tt (t_call (n := 39) (k_p _ [1, 0, 1] [1, 0, 1] (by decide +kernel) (by decide) (by decide +kernel)) rfl rfl rfl ⟨rfl, trivial⟩ Tryz.call39 (pre_same 38 rfl rfl rfl pre_nil) rfl hw) rfl (fun v_34 _ => ?_)
 refine tt (t_call (n := 39) (k_tot1 _) rfl rfl rfl ⟨rfl, trivial⟩ Tryz.call29 (pre_same 39 rfl rfl rfl pre_nil) rfl hw) rfl (fun _ _ => ?_)
 refine mv rfl rfl (dt (d_ex rfl rfl rfl) rfl ?_)
 refine dt (d_ex rfl rfl rfl) rfl ?_
 refine as_ rfl rfl (as_ rfl rfl (l_nil (x_then (e_seq (e_reg (tt (t_bsg (i := 40) (ivs := [(0, _), (1, _), (2, _), (3, _)]) (enc := encZ) ([0, -1, 0, 1] : List Int) rfl rfl rfl ⟨rfl, rfl, rfl, rfl, rfl, rfl, rfl, rfl, trivial⟩ Tryz.underlying37 Tryz.ti3 rfl rfl rfl rfl rfl rfl pZ.cells rfl rfl hw) rfl (fun v_35 _ => ?_)))))))
 refine l_imp (s_pub 40 rfl rfl pZ) ?_
 refine tt (t_call (n := 41) (k_p _ [0, -1, 0, 1] [0, -1, 0, 1] (by decide +kernel) (by decide) (by decide +kernel)) rfl rfl rfl ⟨rfl, trivial⟩ Tryz.call39 (pre_same 40 rfl rfl rfl pre_nil) rfl hw) rfl (fun v_36 _ => ?_)
 refine tt (t_call (n := 41) (k_tot2 _) rfl rfl rfl ⟨rfl, trivial⟩ Tryz.call29 (pre_same 41 rfl rfl rfl pre_nil) rfl hw) rfl (fun _ _ => ?_)
 refine mv rfl rfl (dt (d_ex rfl rfl rfl) rfl ?_)
 refine dt (d_ex rfl rfl rfl) rfl ?_
 refine as_ rfl rfl (as_ rfl rfl (l_nil (x_then (e_seq (e_reg (tt (t_bsg (i := 42) (ivs := [(0, _), (1, _), (2, _)]) (enc := encZ) ([-2, 0, 1] : List Int) rfl rfl rfl ⟨rfl, rfl, rfl, rfl, rfl, rfl, trivial⟩ Tryz.underlying37 Tryz.ti3 rfl rfl rfl rfl rfl rfl pZ.cells rfl rfl hw) rfl (fun v_37 _ => ?_)))))))
 refine l_imp (s_pub 42 rfl rfl pZ) ?_
 refine tt (t_call (n := 43) (k_p _ [-2, 0, 1] [-2, 0, 1] (by decide +kernel) (by decide) (by decide +kernel)) rfl rfl rfl ⟨rfl, trivial⟩ Tryz.call39 (pre_same 42 rfl rfl rfl pre_nil) rfl hw) rfl (fun v_38 _ => ?_)
 refine tt (t_call (n := 43) (k_bd1 _) rfl rfl rfl ⟨rfl, trivial⟩ Tryz.call12 (pre_same 43 rfl rfl rfl pre_nil) rfl hw) rfl (fun _ _ => ?_)
 refine mv rfl rfl (dt (d_ex rfl rfl rfl) rfl ?_)
 refine dt (d_ex rfl rfl rfl) rfl ?_
 refine tt (t_alloc (i := 44) rfl rfl rfl Tryz.zeroValue28 rfl rfl hw) rfl (fun bx _ => ?_)
 refine tt (t_stw (i := 44) rfl rfl rfl rfl rfl (by decide) rfl Tryz.sizeOf28 rfl rfl ⟨(one_rfl rfl), (one_rfl rfl), trivial⟩ rfl hw trivial) rfl (fun _ _ => ?_)
 refine as_ rfl rfl (l_nil (x_then (e_seq (e_reg (tt (t_bsg (i := 45) (ivs := [(0, _)]) (enc := encZ) ([3] : List Int) rfl rfl rfl ⟨rfl, rfl, trivial⟩ Tryz.underlying37 Tryz.ti3 rfl rfl rfl rfl rfl rfl pZ.cells rfl rfl hw) rfl (fun v_39 _ => ?_))))))
 refine l_imp (s_pub 45 rfl rfl pZ) ?_
 refine tt (t_call (n := 46) (k_p _ [3] [3] (by decide +kernel) (by decide) (by decide +kernel)) rfl rfl rfl ⟨rfl, trivial⟩ Tryz.call39 (pre_same 45 rfl rfl rfl pre_nil) rfl hw) rfl (fun v_40 _ => ?_)
 refine tt (t_call (n := 46) (k_bd2 _) rfl rfl rfl ⟨rfl, trivial⟩ Tryz.call12 (pre_same 46 rfl rfl rfl pre_nil) rfl hw) rfl (fun _ _ => ?_)
 refine mv rfl rfl (dt (d_ex rfl rfl rfl) rfl ?_)
 refine dt (d_ex rfl rfl rfl) rfl ?_
 refine tt (t_alloc (i := 47) rfl rfl rfl Tryz.zeroValue28 rfl rfl hw) rfl (fun bx_2 _ => ?_)
 refine tt (t_stw (i := 47) rfl rfl rfl rfl rfl (by decide) rfl Tryz.sizeOf28 rfl rfl ⟨(one_rfl rfl), (one_rfl rfl), trivial⟩ rfl hw trivial) rfl (fun _ _ => ?_)
 refine as_ rfl rfl (l_nil (x_then (e_seq (e_seq (e_dreg (fun _ => False) [(0, 0), (1, 0), (2, 0), (3, 0), (4, 0), (5, 0), (6, 0), (7, 0), (8, 0), (9, 0), (10, 0), (11, 0), (12, 0), (13, 0), (14, 0), (15, 0), (16, 1), (17, 0), (18, 0), (19, 0), (20, 0), (21, 0), (22, 0), (23, 0), (24, 0), (25, 1), (26, 0), (27, 0), (28, 0), (29, 0), (30, 0), (31, 0)] (by kernel_rfl) ?_ ?_)))))
 ·kernel_rfl
 refine r0' rfl rfl rfl rfl (st0 (d_mv rfl rfl)) ?_
 refine r0' rfl rfl rfl rfl (st0 (det_is (r' := .bool false) (d_neq rfl rfl rfl) (congrArg Value.bool (by first | decide | (simp only [hkl, hkm]; decide))))) ?_
 refine r0' rfl rfl rfl rfl (st0 (d_mv rfl rfl)) ?_
 refine r0g (st0 (d_mv rfl rfl)) rfl rfl rfl rfl rfl rfl rfl ?_
 refine r0g (st0 (det_is (r' := .bool false) (d_neq rfl rfl rfl) (congrArg Value.bool (by first | decide | (simp only [hkl, hkm]; decide))))) rfl rfl rfl rfl rfl rfl rfl ?_
 refine r0' rfl rfl rfl rfl (st0 (d_pickf rfl rfl rfl)) ?_
 refine r0' rfl rfl rfl rfl (st0 (d_mv rfl rfl)) ?_
 refine r0g (st0 (d_mv rfl rfl)) rfl rfl rfl rfl rfl rfl rfl ?_
 refine r0g (st0 (det_is (r' := .bool false) (d_neq rfl rfl rfl) (congrArg Value.bool (by first | decide | (simp only [hkl, hkm]; decide))))) rfl rfl rfl rfl rfl rfl rfl ?_
 refine r0' rfl rfl rfl rfl (st0 (d_pickf rfl rfl rfl)) ?_
 refine r0' rfl rfl rfl rfl (st0 (d_mv rfl rfl)) ?_
 refine r0g (st0 (d_mv rfl rfl)) rfl rfl rfl rfl rfl rfl rfl ?_
 refine r0g (st0 (det_is (r' := .bool false) (d_neq rfl rfl rfl) (congrArg Value.bool (by first | decide | (simp only [hkl, hkm]; decide))))) rfl rfl rfl rfl rfl rfl rfl ?_
 refine r0' rfl rfl rfl rfl (st0 (d_pickf rfl rfl rfl)) ?_
 refine r0' rfl rfl rfl rfl (st0 (d_mv rfl rfl)) ?_
 refine r0g (st0 (d_lb2 (i := 44) rfl rfl rfl Tryz.isAgg28 Tryz.sizeOf28 rfl rfl)) rfl rfl rfl rfl rfl rfl rfl ?_
 refine r1g' rfl rfl rfl rfl rfl (t_call (n := 47) (law_w _ ⟨by decide, by decide⟩) rfl rfl rfl ⟨rfl, trivial⟩ Tryz.call38 pre_nil rfl hw) (fun _ _ => ?_)
 refine r0g (st0 (det_is (r' := .bool false) (d_eqg rfl rfl rfl eg28 (fun w => neq28 w _ _ _ _)) (congrArg Value.bool (by simp [eqW_refl])))) rfl rfl rfl rfl rfl rfl rfl ?_
 refine r0' rfl rfl rfl rfl (st0 (d_pickf rfl rfl rfl)) ?_
 refine r0' rfl rfl rfl rfl (st0 (d_mv rfl rfl)) ?_
 refine r0g (st0 (d_mv rfl rfl)) rfl rfl rfl rfl rfl rfl rfl ?_
 refine r0g (st0 (det_is (r' := .bool false) (d_neq rfl rfl rfl) (congrArg Value.bool (by first | decide | (simp only [hkl, hkm]; decide))))) rfl rfl rfl rfl rfl rfl rfl ?_
 refine r0' rfl rfl rfl rfl (st0 (d_pickf rfl rfl rfl)) ?_
 refine r0' rfl rfl rfl rfl (st0 (d_mv rfl rfl)) ?_
 refine r0g (st0 (d_lb2 (i := 47) rfl rfl rfl Tryz.isAgg28 Tryz.sizeOf28 rfl rfl)) rfl rfl rfl rfl rfl rfl rfl ?_
 refine r1g' rfl rfl rfl rfl rfl (t_call (n := 47) (law_w _ ⟨by decide, by decide⟩) rfl rfl rfl ⟨rfl, trivial⟩ Tryz.call38 pre_nil rfl hw) (fun _ _ => ?_)
 refine r0g (st0 (det_is (r' := .bool false) (d_eqg rfl rfl rfl eg28 (fun w => neq28 w _ _ _ _)) (congrArg Value.bool (by simp [eqW_refl])))) rfl rfl rfl rfl rfl rfl rfl ?_
 refine r0' rfl rfl rfl rfl (st0 (d_pickf rfl rfl rfl)) ?_
 refine r0' rfl rfl rfl rfl (st0 (d_mv rfl rfl)) ?_
 refine r0g (st0 (d_mv rfl rfl)) rfl rfl rfl rfl rfl rfl rfl ?_
 refine r0g (st0 (det_is (r' := .bool false) (d_neq rfl rfl rfl) (congrArg Value.bool (by first | decide | (simp only [hkl, hkm]; decide))))) rfl rfl rfl rfl rfl rfl rfl ?_
 refine r0' rfl rfl rfl rfl (st0 (d_pickf rfl rfl rfl)) ?_
 refine r_end ?_
 refine x_then (e_condf rfl ?_)
 refine e_skip ?_
 refine x_then (e_seq (e_reg (tt (t_bsg (i := 48) (ivs := [(0, _), (1, _), (2, _)]) (enc := encZ) ([-2, 0, 1] : List Int) rfl rfl rfl ⟨rfl, rfl, rfl, rfl, rfl, rfl, trivial⟩ Tryz.underlying37 Tryz.ti3 rfl rfl rfl rfl rfl rfl pZ.cells rfl rfl hw) rfl (fun v_41 _ => ?_))))
 refine l_imp (s_pub 48 rfl rfl pZ) ?_
 refine tt (t_call (n := 49) (k_p _ [-2, 0, 1] [-2, 0, 1] (by decide +kernel) (by decide) (by decide +kernel)) rfl rfl rfl ⟨rfl, trivial⟩ Tryz.call39 (pre_same 48 rfl rfl rfl pre_nil) rfl hw) rfl (fun v_42 _ => ?_)
 refine tt (t_call (n := 49) (law_q _ _ ⟨by decide, by decide⟩ ⟨by decide, by decide⟩) rfl rfl rfl ⟨rfl, rfl, trivial⟩ Tryz.call22 pre_nil rfl hw) rfl (fun _ _ => ?_)
 refine tt (t_call (n := 49) (law_q _ _ ⟨by decide, by decide⟩ ⟨by decide, by decide⟩) rfl rfl rfl ⟨rfl, rfl, trivial⟩ Tryz.call22 pre_nil rfl hw) rfl (fun _ _ => ?_)
 refine tt (t_call (n := 50) (k_is1 _) rfl rfl rfl ⟨rfl, rfl, rfl, rfl, trivial⟩ Tryz.call35 (pre_same 49 rfl rfl rfl pre_nil) rfl hw) rfl (fun _ _ => ?_)
 refine mv rfl rfl (dt (d_ex rfl rfl rfl) rfl ?_)
 refine dt (d_ex rfl rfl rfl) rfl ?_
 refine as_ rfl rfl (as_ rfl rfl (l_nil (x_then (e_seq (e_reg (tt (t_bsg (i := 51) (ivs := [(0, _), (1, _), (2, _)]) (enc := encZ) ([1, -2, 1] : List Int) rfl rfl rfl ⟨rfl, rfl, rfl, rfl, rfl, rfl, trivial⟩ Tryz.underlying37 Tryz.ti3 rfl rfl rfl rfl rfl rfl pZ.cells rfl rfl hw) rfl (fun v_43 _ => ?_)))))))
 refine l_imp (s_pub 51 rfl rfl pZ) ?_
 refine tt (t_call (n := 52) (k_p _ [1, -2, 1] [1, -2, 1] (by decide +kernel) (by decide) (by decide +kernel)) rfl rfl rfl ⟨rfl, trivial⟩ Tryz.call39 (pre_same 51 rfl rfl rfl pre_nil) rfl hw) rfl (fun v_44 _ => ?_)
 refine tt (t_call (n := 52) (law_q _ _ ⟨by decide, by decide⟩ ⟨by decide, by decide⟩) rfl rfl rfl ⟨rfl, rfl, trivial⟩ Tryz.call22 pre_nil rfl hw) rfl (fun _ _ => ?_)
 refine tt (t_call (n := 52) (law_q _ _ ⟨by decide, by decide⟩ ⟨by decide, by decide⟩) rfl rfl rfl ⟨rfl, rfl, trivial⟩ Tryz.call22 pre_nil rfl hw) rfl (fun _ _ => ?_)
 refine tt (t_call (n := 53) (k_is2 _) rfl rfl rfl ⟨rfl, rfl, rfl, rfl, trivial⟩ Tryz.call35 (pre_same 52 rfl rfl rfl pre_nil) rfl hw) rfl (fun _ _ => ?_)
 refine mv rfl rfl (dt (d_ex rfl rfl rfl) rfl ?_)
 refine dt (d_ex rfl rfl rfl) rfl ?_
 refine as_ rfl rfl (as_ rfl rfl (l_nil (x_then (e_seq (e_reg (tt (t_call (n := 53) (law_q _ _ ⟨by decide, by decide⟩ ⟨by decide, by decide⟩) rfl rfl rfl ⟨rfl, rfl, trivial⟩ Tryz.call22 pre_nil rfl hw) rfl (fun _ _ => ?_)))))))
 refine tt (t_call (n := 53) (law_q _ _ ⟨by decide, by decide⟩ ⟨by decide, by decide⟩) rfl rfl rfl ⟨rfl, rfl, trivial⟩ Tryz.call22 pre_nil rfl hw) rfl (fun _ _ => ?_)
 refine tt (t_call (n := 53) (k_cne1 _) rfl rfl rfl ⟨rfl, rfl, rfl, trivial⟩ Tryz.call28 (pre_same 999 rfl rfl rfl pre_nil) rfl hw) rfl (fun _ _ => ?_)
 refine mv rfl rfl (dt (d_ex rfl rfl rfl) rfl ?_)
 refine dt (d_ex rfl rfl rfl) rfl ?_
 refine as_ rfl rfl (l_nil (x_then (e_seq (e_reg (tt (t_bsg (i := 54) (ivs := [(0, _), (1, _)]) (enc := encZ) ([1, 1] : List Int) rfl rfl rfl ⟨rfl, rfl, rfl, rfl, trivial⟩ Tryz.underlying37 Tryz.ti3 rfl rfl rfl rfl rfl rfl pZ.cells rfl rfl hw) rfl (fun v_45 _ => ?_))))))
 refine l_imp (s_pub 54 rfl rfl pZ) ?_
 refine tt (t_call (n := 55) (k_p _ [1, 1] [1, 1] (by decide +kernel) (by decide) (by decide +kernel)) rfl rfl rfl ⟨rfl, trivial⟩ Tryz.call39 (pre_same 54 rfl rfl rfl pre_nil) rfl hw) rfl (fun v_46 _ => ?_)
 refine tt (t_call (n := 55) (law_q _ _ ⟨by decide, by decide⟩ ⟨by decide, by decide⟩) rfl rfl rfl ⟨rfl, rfl, trivial⟩ Tryz.call22 pre_nil rfl hw) rfl (fun _ _ => ?_)
 refine tt (t_call (n := 55) (law_q _ _ ⟨by decide, by decide⟩ ⟨by decide, by decide⟩) rfl rfl rfl ⟨rfl, rfl, trivial⟩ Tryz.call22 pre_nil rfl hw) rfl (fun _ _ => ?_)
 refine tt (t_call (n := 55) (k_cne2 _) rfl rfl rfl ⟨rfl, rfl, rfl, trivial⟩ Tryz.call28 (pre_same 55 rfl rfl rfl pre_nil) rfl hw) rfl (fun _ _ => ?_)
 refine mv rfl rfl (dt (d_ex rfl rfl rfl) rfl ?_)
 refine dt (d_ex rfl rfl rfl) rfl ?_
 refine as_ rfl rfl (l_nil (x_then (e_seq (e_reg (mv rfl rfl (tt (t_bsg (i := 56) (ivs := [(0, _), (1, _), (2, _), (3, _)]) (enc := encZ) ([-2, -1, 1, 2] : List Int) rfl rfl rfl ⟨rfl, rfl, rfl, rfl, rfl, rfl, rfl, rfl, trivial⟩ Tryz.underlying37 Tryz.ti3 rfl rfl rfl rfl rfl rfl pZ.cells rfl rfl hw) rfl (fun v_47 _ => ?_)))))))
 refine tt (t_call (n := 56) (law_same3 _ _ _ _ (inI_all (by decide +kernel)) (by decide) (by decide) (by decide +kernel)) rfl rfl rfl ⟨rfl, rfl, trivial⟩ Tryz.call50 (pre_same 50 rfl rfl rfl (pre_lend 56 rfl rfl pZ pre_nil)) rfl hw) rfl (fun _ _ => ?_)
 refine mv rfl rfl (gdt (d_mv rfl rfl) rfl rfl rfl rfl ?_)
 refine gdt (det_is (r' := .bool true) (d_eql rfl rfl rfl) (congrArg Value.bool (by first | decide | (simp only [hkl, hkm]; decide)))) rfl rfl rfl rfl ?_
 refine dt (d_pickt rfl rfl rfl) rfl ?_
 refine mv rfl rfl (gdt (d_mv rfl rfl) rfl rfl rfl rfl ?_)
 refine gtt (t_bsg (i := 57) (ivs := [(0, _), (1, _)]) (enc := encZ) ([0, 4] : List Int) rfl rfl rfl ⟨rfl, rfl, rfl, rfl, trivial⟩ Tryz.underlying37 Tryz.ti3 rfl rfl rfl rfl rfl rfl pZ.cells rfl rfl hw) rfl rfl rfl rfl (fun v_48 _ => ?_)
 refine gtt (t_call (n := 57) (law_same3 _ _ _ _ (inI_all (by decide +kernel)) (by decide) (by decide) (by decide +kernel)) rfl rfl rfl ⟨rfl, rfl, trivial⟩ Tryz.call50 (pre_same 53 rfl rfl rfl (pre_lend 57 rfl rfl pZ pre_nil)) rfl hw) rfl rfl rfl rfl (fun _ _ => ?_)
 refine dt (d_pickt rfl rfl rfl) rfl ?_
 refine mv rfl rfl (gdt (d_mv rfl rfl) rfl rfl rfl rfl ?_)
 refine gdt (det_is (r' := .bool true) (d_eql rfl rfl rfl) (congrArg Value.bool (by first | decide | (simp only [hkl, hkm]; decide)))) rfl rfl rfl rfl ?_
 refine dt (d_pickt rfl rfl rfl) rfl ?_
 refine mv rfl rfl (gdt (d_mv rfl rfl) rfl rfl rfl rfl ?_)
 refine gdt (det_is (r' := .bool true) (d_eql rfl rfl rfl) (congrArg Value.bool (by first | decide | (simp only [hkl, hkm]; decide)))) rfl rfl rfl rfl ?_
 refine dt (d_pickt rfl rfl rfl) rfl ?_
 refine mv rfl rfl (gdt (d_mv rfl rfl) rfl rfl rfl rfl ?_)
 refine gdt (det_is (r' := .bool true) (d_eql rfl rfl rfl) (congrArg Value.bool (by first | decide | (simp only [hkl, hkm]; decide)))) rfl rfl rfl rfl ?_
 refine dt (d_pickt rfl rfl rfl) rfl ?_
 refine as_ rfl rfl (l_nil (x_then (e_ret ?_)))
 exact x_end (.inl rfl) hsc () _ (fun a w hs => res1 hs Tryz.results11 rfl) rfl trivial rfl give_nil
end Go.Sky
namespace Go.Sky
set_option linter.unusedVariables false
theorem sign_lt {c : Int} : c.sign < 0 ↔ c < 0 := sign_neg_iff c
theorem bd_r1 {xs : List Int} {i : Nat} {c : Int} (hi : i < xs.length) (hc : c = cf xs i) (h1 : c.sign < 0) (h2 : 0 < (-c - ((sm xs i : Nat) : Int)).sign) : ((sm xs (i + 1) : Nat) : Int) = -c := by
  have := sign_lt.1 h1; have := int_sign_pos h2; rw [sm_succ hi, ← hc]; omega
theorem bd_r2 {xs : List Int} {i : Nat} {c : Int} (hi : i < xs.length) (hc : c = cf xs i) (h1 : c.sign < 0) (h2 : ¬ 0 < (-c - ((sm xs i : Nat) : Int)).sign) : ((sm xs (i + 1) : Nat) : Int) = ((sm xs i : Nat) : Int) := by
  have := sign_lt.1 h1
  have : ¬ 0 < -c - ((sm xs i : Nat) : Int) := fun h => h2 (by rw [int_pos_sign h]; decide)
  rw [sm_succ hi, ← hc]; omega
theorem bd_r3 {xs : List Int} {i : Nat} {c : Int} (hi : i < xs.length) (hc : c = cf xs i) (h1 : ¬ c.sign < 0) (h2 : 0 < (c - ((sm xs i : Nat) : Int)).sign) : ((sm xs (i + 1) : Nat) : Int) = c := by
  have : ¬ c < 0 := fun h => h1 (sign_lt.2 h)
  have := int_sign_pos h2; rw [sm_succ hi, ← hc]; omega
theorem bd_r4 {xs : List Int} {i : Nat} {c : Int} (hi : i < xs.length) (hc : c = cf xs i) (h1 : ¬ c.sign < 0) (h2 : ¬ 0 < (c - ((sm xs i : Nat) : Int)).sign) : ((sm xs (i + 1) : Nat) : Int) = ((sm xs i : Nat) : Int) := by
  have : ¬ c < 0 := fun h => h1 (sign_lt.2 h)
  have : ¬ 0 < c - ((sm xs i : Nat) : Int) := fun h => h2 (by rw [int_pos_sign h]; decide)
  rw [sm_succ hi, ← hc]; omega
theorem bd_e1 {xs : List Int} {c : Int} {n : Nat} (hn : xs.length = n) (h : xs ≠ []) (hc : c = cf xs (n - 1)) (h1 : c.sign < 0) : ((sm xs (n - 1) : Nat) : Int) / -c + 2 = sbound xs := by
  subst hn
  rw [← sbound_eq h, ← hc, show -c = ((c.natAbs : Nat) : Int) by have := sign_lt.1 h1; omega]; rfl
theorem bd_e2 {xs : List Int} {c : Int} {n : Nat} (hn : xs.length = n) (h : xs ≠ []) (hc : c = cf xs (n - 1)) (h1 : ¬ c.sign < 0) : ((sm xs (n - 1) : Nat) : Int) / c + 2 = sbound xs := by
  subst hn
  have h2 : ¬ c < 0 := fun h => h1 (sign_lt.2 h)
  rw [← sbound_eq h, ← hc, show ((c.natAbs : Nat) : Int) = c by omega]; rfl
theorem bd_b (m : Nat) (c : Int) : bl ((m : Int) / c).natAbs ≤ bl m := bl_mono (by have := Int.natAbs_ediv_le_natAbs (m : Int) c; rwa [Int.natAbs_natCast] at this)
end Go.Sky
namespace Go.Sky
abbrev RWL := List (Bool × ByteArray)
def smallR (r : RWL) : Bool := decide (r.length ≤ 8) && r.all fun c => decide (c.2.size ≤ 6)
theorem small_no8 {r : RWL} (h : (8 : Int) < (r.length : Int)) : smallR r = false := by
  unfold smallR; rw [decide_eq_false (by omega)]; rfl
theorem small_no6 {r : RWL} {i : Nat} (hi : i < r.length) (h : (6 : Int) < ((r.getD i (false, ⟨#[]⟩)).2.size : Int)) : smallR r = false := by
  unfold smallR
  rw [show (r.all fun c => decide (c.2.size ≤ 6)) = false from ?_]
  · simp
  · rw [List.all_eq_false]
    refine ⟨r.getD i (false, ⟨#[]⟩), getD_mem hi, ?_⟩
    rw [decide_eq_false (by omega)]; decide
theorem small_yes {r : RWL} (h8 : ¬ (8 : Int) < (r.length : Int)) (h : ∀ k, k < r.length → (r.getD k (false, ⟨#[]⟩)).2.size ≤ 6) : smallR r = true := by
  unfold smallR
  rw [decide_eq_true (by omega), Bool.true_and, List.all_eq_true]
  intro c hc
  obtain ⟨k, hk, rfl⟩ := List.mem_iff_getElem.1 hc
  have := h k hk
  rw [List.getD_eq_getElem?_getD, List.getElem?_eq_getElem hk] at this
  exact decide_eq_true this
theorem small_le {r : RWL} (h : smallR r = true) : r.length ≤ 8 ∧ ∀ c ∈ r, c.2.size ≤ 6 := by
  unfold smallR at h
  rw [Bool.and_eq_true, List.all_eq_true] at h
  exact ⟨of_decide_eq_true h.1, fun c hc => of_decide_eq_true (h.2 c hc)⟩
end Go.Sky
namespace Go.Sky
noncomputable def dec (r : RWL) : List Int := if h : okP r = true then (okP_ex h).choose else []
theorem dec_ok {r : RWL} (h : okP r = true) : Vp (dec r) ∧ r = (dec r).map wr := by
  unfold dec; rw [dif_pos h]; exact (okP_ex h).choose_spec
noncomputable def bdE (r : RWL) : Int := if okP r = true then chk0 (dec r) else 2
noncomputable def bdZ (r : RWL) : Int := if bdE r = 0 then sbound (dec r) else 0
theorem slp_dec {r : RWL} (h : okP r = true) (v : Value) (w : World) (hh : (slp 2 encW v r).holds w) : (slp 2 wv v (dec r)).holds w :=
  slp_wr' v (dec r) w ((dec_ok h).2 ▸ hh)
theorem bdE_no {r : RWL} (h : okP r = false) : bdE r = 2 := by unfold bdE; rw [if_neg (by rw [h]; decide)]
theorem bdE_ok {r : RWL} (h : okP r = true) : bdE r = chk0 (dec r) := by unfold bdE; rw [if_pos h]
theorem bdZ_no {r : RWL} (h : bdE r ≠ 0) : bdZ r = 0 := by unfold bdZ; rw [if_neg h]
theorem bdZ_ok {r : RWL} (h : bdE r = 0) : bdZ r = sbound (dec r) := by unfold bdZ; rw [if_pos h]
end Go.Sky
namespace Go.Sky
open Go.Proofs
set_option maxRecDepth 20000
set_option maxHeartbeats 4000000
set_option linter.unusedVariables false
set_option linter.unusedSimpArgs false
theorem r3_fits (v : Value) (zs : List (Int × SL)) (hs : Sz 1000000 (ints zs)) (hl : zs.length ≤ 30) : Cal Tryz.prog 16 #[v] [pp v zs] false (G := Unit) (fun _ => True) (fun _ => .bool (decide (sfits (ints zs)))) (fun _ => []) := by
  refine cal_in Tryz.func16 rfl Tryz.ntmps16 rfl ⟨rfl, trivial⟩ ?_
  intro w0 sc hw hsc
  simp only [enumEnv, enumPre]
  have hli := length_ints zs
  have hmz := msz_le hs
  have q1 : (zs.length + 2) * (zs.length + 2) ≤ 32 * 32 := Nat.mul_le_mul (by omega) (by omega)
  have q2 : (zs.length + 2) * (zs.length + 2) * (msz (ints zs) + 16) ≤ 32 * 32 * 1000016 := Nat.mul_le_mul q1 (by omega)
  have q3 : ((zs.length : Int) - 1 + 3) * ((zs.length : Int) - 1 + 3) = (((zs.length + 2) * (zs.length + 2) : Nat) : Int) := by rw [show (zs.length : Int) - 1 + 3 = ((zs.length + 2 : Nat) : Int) by omega]; push_cast; rfl
  have q4 : ((zs.length : Int) - 1 + 3) * ((zs.length : Int) - 1 + 3) * ((msz (ints zs) : Int) + 16) = (((zs.length + 2) * (zs.length + 2) * (msz (ints zs) + 16) : Nat) : Int) := by rw [q3]; push_cast; rfl
  refine e_seq ?_
  refine e_reg ?_
  refine as_ rfl rfl ?_
  refine l_nil ?_
  refine x_then ?_
  refine e_seq ?_
  refine e_reg ?_
  refine mv rfl rfl ?_
  refine dt (d_len rfl rfl (i := 1) rfl rd_deep Tryz.underlying33) rfl ?_
  refine dt (d_sub rfl rfl rfl ⟨by omega, by omega⟩) rfl ?_
  refine as_ rfl rfl ?_
  refine l_nil ?_
  refine x_then ?_
  refine e_seq ?_
  refine e_reg ?_
  refine mv rfl rfl ?_
  refine dt (d_len rfl rfl (i := 1) rfl rd_deep Tryz.underlying33) rfl ?_
  refine dt (d_eql rfl rfl rfl) rfl ?_
  refine mv rfl rfl ?_
  refine l_split (d := 10) rfl (fun s20 => ?_) (fun s20 => ?_)
  · refine gsk rfl rfl rfl rfl rfl ?_
    refine gsk rfl rfl rfl rfl rfl ?_
    refine gsk rfl rfl rfl rfl rfl ?_
    refine gsk rfl rfl rfl rfl rfl ?_
    refine gsk rfl rfl rfl rfl rfl ?_
    refine gsk rfl rfl rfl rfl rfl ?_
    refine gsk rfl rfl rfl rfl rfl ?_
    refine gsk rfl rfl rfl rfl rfl ?_
    refine gsk rfl rfl rfl rfl rfl ?_
    refine gsk rfl rfl rfl rfl rfl ?_
    refine dt (d_pickt rfl rfl rfl) rfl ?_
    refine as_ rfl rfl ?_
    refine l_nil ?_
    refine x_then ?_
    refine e_ret ?_
    exact x_end (.inl rfl) hsc () _ (fun a w hs => res1 hs Tryz.results16 rfl) (by first | exact sf_t (by omega) | (rw [q4]; exact sf_i (by omega) (by rw [hli] <;> rfl))) trivial rfl give_nil
  · refine gdt (d_mv rfl rfl) rfl rfl rfl rfl ?_
    refine gdt (d_add rfl rfl rfl ⟨by omega, by omega⟩) rfl rfl rfl rfl ?_
    refine gdt (d_mv rfl rfl) rfl rfl rfl rfl ?_
    refine gdt (d_add rfl rfl rfl ⟨by omega, by omega⟩) rfl rfl rfl rfl ?_
    refine gdt (d_mul rfl rfl rfl (by rw [q3]; exact ⟨by omega, by omega⟩)) rfl rfl rfl rfl ?_
    refine gdt (d_mv rfl rfl) rfl rfl rfl rfl ?_
    refine gtt (t_call (n := 1) (rp_bits _ _ (hs.mono (by omega)) (by omega)) rfl rfl rfl ⟨rfl, trivial⟩ Tryz.call59 (pre_same 1 rfl rfl rfl pre_nil) rfl hw) rfl rfl rfl rfl (fun _ _ => ?_)
    refine gdt (d_add rfl rfl rfl ⟨by omega, by omega⟩) rfl rfl rfl rfl ?_
    refine gdt (d_mul rfl rfl rfl (by rw [q4]; exact ⟨by omega, by omega⟩)) rfl rfl rfl rfl ?_
    refine gdt (d_leq rfl rfl rfl) rfl rfl rfl rfl ?_
    refine dt (d_pickf rfl rfl rfl) rfl ?_
    refine as_ rfl rfl ?_
    refine l_nil ?_
    refine x_then ?_
    refine e_ret ?_
    exact x_end (.inl rfl) hsc () _ (fun a w hs => res1 hs Tryz.results16 rfl) (by first | exact sf_t (by omega) | (rw [q4]; exact sf_i (by omega) (by rw [hli] <;> rfl))) trivial rfl give_nil
set_option maxHeartbeats 4000000 in
theorem r3_bound (v : Value) (zs : List (Int × SL)) (hs : Sz 1000000 (ints zs)) (hl : zs.length ≤ 30) (h0 : zs.length ≠ 0) (ht : Tr (ints zs)) : Cal Tryz.prog 18 #[v] [pp v zs] true (G := Value) (fun r => True) (fun r => .agg #[.bool (decide (sbound (ints zs) < 0)), r]) (fun r => [d9p r (sbound (ints zs)).natAbs]) := by
  refine cal_in Tryz.func18 rfl Tryz.ntmps18 rfl ⟨rfl, trivial⟩ ?_
  intro w0 sc hw hsc
  simp only [enumEnv, enumPre]
  have hli := length_ints zs
  have hsb := fun k => sm_b hs k
  have hne : ints zs ≠ [] := fun e => h0 (by rw [← hli, e]; rfl)
  have hcl := cf_ints zs (zs.length - 1)
  have hlz : cf (ints zs) (zs.length - 1) ≠ 0 := by rcases ht with h | h; exact absurd h hne; rwa [hli] at h
  refine e_seq ?_
  refine e_reg ?_
  refine tt (t_alloc (i := 2) rfl rfl rfl Tryz.zeroValue39 rfl rfl hw) rfl (fun b _ => ?_)
  refine l_nil ?_
  refine x_then ?_
  refine e_seq ?_
  refine e_reg ?_
  refine dt (d_bld (ivs := []) rfl trivial (fun a w hs => b39_)) rfl ?_
  refine tt (t_alloc (i := 97) rfl rfl rfl Tryz.zeroValue39 rfl rfl hw) rfl (fun b_2 _ => ?_)
  refine tt (t_stw (i := 97) rfl rfl rfl rfl rfl (by decide) rfl Tryz.sizeOf39 rfl rfl ⟨(one_rfl rfl), (one_rfl rfl), trivial⟩ rfl hw trivial) rfl (fun _ _ => ?_)
  refine l_nil ?_
  refine x_then ?_
  refine e_seq ?_
  refine e_seq ?_
  refine e_reg ?_
  refine as_ rfl rfl ?_
  refine l_nil ?_
  refine x_then ?_
  refine e_block ?_
  refine e_imp (s_nil 98 1 3 encN) ?_
  refine e_imp (s_pub 98 rfl rfl pN) ?_
  refine e_lp [(0, _), (2, _), (3, _)] [(0, _), (1, _), (2, _)] (fun (q : Nat × Value) => [(4, .int .i64 (q.1 : Int))]) (fun (q : Nat × Value) => [(97, box b_2 39 #[.bool (decide (((sm (ints zs) q.1 : Nat) : Int) < 0)), q.2]), (98, d9p q.2 (((sm (ints zs) q.1 : Nat) : Int)).natAbs)]) (fun (q : Nat × Value) => (q.1 ≤ zs.length - 1)) (fun (q : Nat × Value) => zs.length - 1 - q.1) (0, .slice none 0 0) (by first | omega | (dsimp only <;> omega)) ⟨rfl, rfl, rfl, rfl, trivial⟩ ⟨rfl, rfl, rfl, rfl, rfl, trivial⟩ ?_
  rintro ⟨i, vs⟩ hi
  dsimp only at hi
  simp only [List.cons_append, List.nil_append]
  have hci := cf_ints zs i
  have h1 := hsb i
  have h2 := hs i
  refine e_seq ?_
  refine e_seq ?_
  refine e_reg ?_
  refine mv rfl rfl ?_
  refine mv rfl rfl ?_
  refine dt (d_len rfl rfl (i := 1) rfl rd_deep Tryz.underlying33) rfl ?_
  refine dt (d_sub rfl rfl rfl ⟨by omega, by omega⟩) rfl ?_
  refine dt (d_lss rfl rfl rfl) rfl ?_
  refine l_nil ?_
  refine x_then ?_
  refine e_cond rfl (fun h103 => ?_) (fun h103 => ?_)
  · refine e_skip ?_
    refine x_then ?_
    refine e_seq ?_
    refine e_block ?_
    refine e_seq ?_
    refine e_reg ?_
    refine mv rfl rfl ?_
    refine mv rfl rfl ?_
    refine dt (d_ixa (ii := 1) rfl rfl rfl rfl rd_deep Tryz.underlying33 Tryz.sizeOf39 rfl (by first | omega | (simp only [List.length_set]; omega))) rfl ?_
    refine dt (d_lde (ii := 1) I0 rfl rfl rfl rd_deep pI (by first | omega | (simp only [List.length_set]; omega))) rfl ?_
    refine tt (t_alloc (i := 3) rfl rfl rfl Tryz.zeroValue39 rfl rfl hw) rfl (fun b_3 _ => ?_)
    refine tt (t_stw (i := 3) rfl rfl rfl rfl rfl (by decide) rfl Tryz.sizeOf39 rfl rfl ⟨(one_rfl rfl), (one_rfl rfl), trivial⟩ rfl hw trivial) rfl (fun _ _ => ?_)
    refine l_nil ?_
    refine x_then ?_
    refine e_seq ?_
    refine e_seq ?_
    refine e_imp (s_deep 1 91 (zs.getD i I0) rfl rfl (getD_mem (by omega)) rfl) ?_
    refine e_reg ?_
    refine dt (d_lb2 (i := 3) rfl rfl rfl Tryz.isAgg39 Tryz.sizeOf39 rfl rfl) rfl ?_
    refine tt (t_call (n := 3) (r_sign _ _ (by rw [hci]; omega)) rfl rfl rfl ⟨rfl, trivial⟩ Tryz.call61 (pre_same 91 rfl rfl rfl pre_nil) rfl hw) rfl (fun _ _ => ?_)
    refine dt (d_lss rfl rfl rfl) rfl ?_
    refine l_nil ?_
    refine x_then ?_
    refine e_cond rfl (fun h105 => ?_) (fun h105 => ?_)
    · refine e_reg ?_
      refine dt (d_lb2 (i := 3) rfl rfl rfl Tryz.isAgg39 Tryz.sizeOf39 rfl rfl) rfl ?_
      refine tt (t_call (n := 4) (r_neg _ _ (by rw [hci]; omega)) rfl rfl rfl ⟨rfl, trivial⟩ Tryz.call41 (pre_same 91 rfl rfl rfl pre_nil) rfl hw) rfl (fun v _ => ?_)
      refine tt (t_stw (i := 3) rfl rfl rfl rfl rfl (by decide) rfl Tryz.sizeOf39 rfl rfl ⟨(one_rfl rfl), (one_rd (i := 4) rfl rd_slp), trivial⟩ rfl hw trivial) rfl (fun _ _ => ?_)
      refine l_nil ?_
      refine x_then ?_
      refine e_seq ?_
      refine e_reg ?_
      refine dt (d_lb2 (i := 3) rfl rfl rfl Tryz.isAgg39 Tryz.sizeOf39 rfl rfl) rfl ?_
      refine dt (d_lb2 (i := 97) rfl rfl rfl Tryz.isAgg39 Tryz.sizeOf39 rfl rfl) rfl ?_
      refine tt (t_call (n := 4) (r_compare _ _ _ _ (by first | (rw [hci]; omega) | (rw [Int.natAbs_neg, hci]; omega)) (by rw [Int.natAbs_natCast]; omega)) rfl rfl rfl ⟨rfl, rfl, trivial⟩ Tryz.call62 (pre_same 4 rfl rfl rfl (pre_same 98 rfl rfl rfl pre_nil)) rfl hw) rfl (fun _ _ => ?_)
      refine dt (d_gtr rfl rfl rfl) rfl ?_
      refine l_nil ?_
      refine x_then ?_
      refine e_cond rfl (fun h108 => ?_) (fun h108 => ?_)
      · refine e_reg ?_
        refine dt (d_lb2 (i := 3) rfl rfl rfl Tryz.isAgg39 Tryz.sizeOf39 rfl rfl) rfl ?_
        refine tt (t_stw (i := 97) rfl rfl rfl rfl rfl (by decide) rfl Tryz.sizeOf39 rfl rfl ⟨(one_rfl rfl), (one_rd (i := 4) rfl rd_slp), trivial⟩ rfl hw trivial) rfl (fun _ _ => ?_)
        refine l_nil ?_
        refine x_bn ?_
        refine x_then ?_
        refine e_reg ?_
        refine mv rfl rfl ?_
        refine dt (d_add rfl rfl rfl ⟨by omega, by omega⟩) rfl ?_
        refine as_ rfl rfl ?_
        refine l_nil ?_
        have hr := bd_r1 (xs := ints zs) (i := i) (by omega) hci (by assumption) (by assumption)
        refine x_imp (s_dup 4 98 rfl rfl rfl) ?_
        exact x_rnd (i + 1, v) (by first | omega | (dsimp only <;> omega)) (by first | omega | (dsimp only <;> omega)) ⟨rfl, rfl, rfl, rfl, trivial⟩ ⟨by rw [hr]; rfl, by rw [hr]; rfl, rfl, rfl, rfl, trivial⟩
      · refine e_skip ?_
        refine x_bn ?_
        refine x_then ?_
        refine e_reg ?_
        refine mv rfl rfl ?_
        refine dt (d_add rfl rfl rfl ⟨by omega, by omega⟩) rfl ?_
        refine as_ rfl rfl ?_
        refine l_nil ?_
        have hr := bd_r2 (xs := ints zs) (i := i) (by omega) hci (by assumption) (by assumption)
        refine x_imp (s_dup 98 98 rfl rfl rfl) ?_
        exact x_rnd (i + 1, vs) (by first | omega | (dsimp only <;> omega)) (by first | omega | (dsimp only <;> omega)) ⟨rfl, rfl, rfl, rfl, trivial⟩ ⟨by rw [hr]; rfl, by rw [hr]; rfl, rfl, rfl, rfl, trivial⟩
    · refine e_skip ?_
      refine x_then ?_
      refine e_seq ?_
      refine e_reg ?_
      refine dt (d_lb2 (i := 3) rfl rfl rfl Tryz.isAgg39 Tryz.sizeOf39 rfl rfl) rfl ?_
      refine dt (d_lb2 (i := 97) rfl rfl rfl Tryz.isAgg39 Tryz.sizeOf39 rfl rfl) rfl ?_
      refine tt (t_call (n := 4) (r_compare _ _ _ _ (by first | (rw [hci]; omega) | (rw [Int.natAbs_neg, hci]; omega)) (by rw [Int.natAbs_natCast]; omega)) rfl rfl rfl ⟨rfl, rfl, trivial⟩ Tryz.call62 (pre_same 91 rfl rfl rfl (pre_same 98 rfl rfl rfl pre_nil)) rfl hw) rfl (fun _ _ => ?_)
      refine dt (d_gtr rfl rfl rfl) rfl ?_
      refine l_nil ?_
      refine x_then ?_
      refine e_cond rfl (fun h108_2 => ?_) (fun h108_2 => ?_)
      · refine e_reg ?_
        refine dt (d_lb2 (i := 3) rfl rfl rfl Tryz.isAgg39 Tryz.sizeOf39 rfl rfl) rfl ?_
        refine tt (t_stw (i := 97) rfl rfl rfl rfl rfl (by decide) rfl Tryz.sizeOf39 rfl rfl ⟨(one_rfl rfl), (one_rd (i := 91) rfl rd_slp), trivial⟩ rfl hw trivial) rfl (fun _ _ => ?_)
        refine l_nil ?_
        refine x_bn ?_
        refine x_then ?_
        refine e_reg ?_
        refine mv rfl rfl ?_
        refine dt (d_add rfl rfl rfl ⟨by omega, by omega⟩) rfl ?_
        refine as_ rfl rfl ?_
        refine l_nil ?_
        have hr := bd_r3 (xs := ints zs) (i := i) (by omega) hci (by assumption) (by assumption)
        refine x_imp (s_dup 91 98 rfl rfl rfl) ?_
        exact x_rnd (i + 1, _) (by first | omega | (dsimp only <;> omega)) (by first | omega | (dsimp only <;> omega)) ⟨rfl, rfl, rfl, rfl, trivial⟩ ⟨by rw [hr]; rfl, by rw [hr]; rfl, rfl, rfl, rfl, trivial⟩
      · refine e_skip ?_
        refine x_bn ?_
        refine x_then ?_
        refine e_reg ?_
        refine mv rfl rfl ?_
        refine dt (d_add rfl rfl rfl ⟨by omega, by omega⟩) rfl ?_
        refine as_ rfl rfl ?_
        refine l_nil ?_
        have hr := bd_r4 (xs := ints zs) (i := i) (by omega) hci (by assumption) (by assumption)
        refine x_imp (s_dup 98 98 rfl rfl rfl) ?_
        exact x_rnd (i + 1, vs) (by first | omega | (dsimp only <;> omega)) (by first | omega | (dsimp only <;> omega)) ⟨rfl, rfl, rfl, rfl, trivial⟩ ⟨by rw [hr]; rfl, by rw [hr]; rfl, rfl, rfl, rfl, trivial⟩
  · refine e_exit ?_
    refine x_exit ?_
    refine x_exit ?_
    refine x_be ?_
    refine x_then ?_
    refine e_seq ?_
    obtain rfl : i = zs.length - 1 := by omega
    have h3 := hsb (zs.length - 1)
    have h4 := hs (zs.length - 1)
    refine e_reg ?_
    refine mv rfl rfl ?_
    refine mv rfl rfl ?_
    refine dt (d_len rfl rfl (i := 1) rfl rd_deep Tryz.underlying33) rfl ?_
    refine dt (d_sub rfl rfl rfl ⟨by omega, by omega⟩) rfl ?_
    refine dt (d_ixa (ii := 1) (i := (zs.length - 1)) rfl rfl rfl rfl rd_deep Tryz.underlying33 Tryz.sizeOf39 (by omega) (by omega)) rfl ?_
    refine dt (d_lde (ii := 1) I0 rfl rfl rfl rd_deep pI (by omega)) rfl ?_
    refine tt (t_alloc (i := 5) rfl rfl rfl Tryz.zeroValue39 rfl rfl hw) rfl (fun b_4 _ => ?_)
    refine tt (t_stw (i := 5) rfl rfl rfl rfl rfl (by decide) rfl Tryz.sizeOf39 rfl rfl ⟨(one_rfl rfl), (one_rfl rfl), trivial⟩ rfl hw trivial) rfl (fun _ _ => ?_)
    refine l_nil ?_
    refine x_then ?_
    refine e_seq ?_
    refine e_seq ?_
    refine e_imp (s_deep 1 92 (zs.getD (zs.length - 1) I0) rfl rfl (getD_mem (by omega)) rfl) ?_
    refine e_reg ?_
    refine dt (d_lb2 (i := 5) rfl rfl rfl Tryz.isAgg39 Tryz.sizeOf39 rfl rfl) rfl ?_
    refine tt (t_call (n := 5) (r_sign _ _ (by rw [hcl]; omega)) rfl rfl rfl ⟨rfl, trivial⟩ Tryz.call61 (pre_same 92 rfl rfl rfl pre_nil) rfl hw) rfl (fun _ _ => ?_)
    refine dt (d_lss rfl rfl rfl) rfl ?_
    refine l_nil ?_
    refine x_then ?_
    refine e_cond rfl (fun h113 => ?_) (fun h113 => ?_)
    · have he := bd_e1 hli hne hcl h113
      have hdb := bd_b (sm (ints zs) (zs.length - 1)) (-(zs.getD (zs.length - 1) I0).1)
      refine e_reg ?_
      refine dt (d_lb2 (i := 5) rfl rfl rfl Tryz.isAgg39 Tryz.sizeOf39 rfl rfl) rfl ?_
      refine tt (t_call (n := 6) (r_neg _ _ (by rw [hcl]; omega)) rfl rfl rfl ⟨rfl, trivial⟩ Tryz.call41 (pre_same 92 rfl rfl rfl pre_nil) rfl hw) rfl (fun v_2 _ => ?_)
      refine tt (t_stw (i := 5) rfl rfl rfl rfl rfl (by decide) rfl Tryz.sizeOf39 rfl rfl ⟨(one_rfl rfl), (one_rd (i := 6) rfl rd_slp), trivial⟩ rfl hw trivial) rfl (fun _ _ => ?_)
      refine l_nil ?_
      refine x_then ?_
      refine e_seq ?_
      refine e_reg ?_
      refine dt (d_lb2 (i := 97) rfl rfl rfl Tryz.isAgg39 Tryz.sizeOf39 rfl rfl) rfl ?_
      refine dt (d_lb2 (i := 5) rfl rfl rfl Tryz.isAgg39 Tryz.sizeOf39 rfl rfl) rfl ?_
      refine tt (t_call (n := 7) (r_quo _ _ _ _ (by rw [Int.natAbs_natCast]; omega) (by first | (rw [hcl]; omega) | (rw [Int.natAbs_neg, hcl]; omega)) (by rw [hcl]; omega)) rfl rfl rfl ⟨rfl, rfl, trivial⟩ Tryz.call63 (pre_same 98 rfl rfl rfl (pre_same 6 rfl rfl rfl pre_nil)) rfl hw) rfl (fun g _ => ?_)
      refine mv rfl rfl ?_
      refine dt (d_ex rfl rfl rfl) rfl ?_
      refine dt (d_ex rfl rfl rfl) rfl ?_
      refine tt (t_alloc (i := 9) rfl rfl rfl Tryz.zeroValue39 rfl rfl hw) rfl (fun b_5 _ => ?_)
      refine tt (t_alloc (i := 10) rfl rfl rfl Tryz.zeroValue39 rfl rfl hw) rfl (fun b_6 _ => ?_)
      refine tt (t_stw (i := 9) rfl rfl rfl rfl rfl (by decide) rfl Tryz.sizeOf39 rfl rfl ⟨(one_rfl rfl), (one_rd (i := 7) rfl rd_slp), trivial⟩ rfl hw trivial) rfl (fun _ _ => ?_)
      refine tt (t_stw (i := 10) rfl rfl rfl rfl rfl (by decide) rfl Tryz.sizeOf39 rfl rfl ⟨(one_rfl rfl), (one_rd (i := 8) rfl rd_slp), trivial⟩ rfl hw trivial) rfl (fun _ _ => ?_)
      refine l_nil ?_
      refine x_then ?_
      refine e_seq ?_
      refine e_dreg (fun _ => False) [(0, 0), (1, 1), (2, 3), (3, 3)] (by kernel_rfl) ?_ ?_
      · kernel_rfl
      refine r0' rfl rfl rfl rfl (st0 (d_lb2 (i := 9) rfl rfl rfl Tryz.isAgg39 Tryz.sizeOf39 rfl rfl)) ?_
      refine r1' rfl rfl (t_call (n := 11) (r_num 2 ⟨by omega, by omega⟩) rfl rfl rfl ⟨rfl, trivial⟩ Tryz.call43 pre_nil rfl hw) (fun v_3 _ => ?_)
      refine r3' rfl rfl (t_call (n := 12) (r_add _ _ _ _ (by omega) (by decide)) rfl rfl rfl ⟨rfl, rfl, trivial⟩ Tryz.call42 (pre_same 7 rfl rfl rfl (pre_same 11 rfl rfl rfl pre_nil)) rfl hw) (fun v_4 _ => ?_)
      refine r3' rfl rfl (t_stw (i := 2) rfl rfl rfl rfl rfl (by decide) rfl Tryz.sizeOf39 rfl rfl ⟨(one_rfl rfl), (one_rd (i := 12) rfl rd_slp), trivial⟩ rfl hw trivial) (fun _ _ => ?_)
      refine r_end ?_
      refine x_then ?_
      refine e_ret ?_
      exact x_end (.inl rfl) hsc _ _ (fun a w hs => res1 hs Tryz.results18 (rv_cell (i := 2) rfl rfl Tryz.isAgg39 Tryz.sizeOf39 rfl)) (by rw [he] <;> rfl) trivial rfl (give_samee 12 rfl rfl rfl (by rw [he] <;> rfl) give_nil)
    · have he := bd_e2 hli hne hcl h113
      have hdb := bd_b (sm (ints zs) (zs.length - 1)) (zs.getD (zs.length - 1) I0).1
      refine e_skip ?_
      refine x_then ?_
      refine e_seq ?_
      refine e_reg ?_
      refine dt (d_lb2 (i := 97) rfl rfl rfl Tryz.isAgg39 Tryz.sizeOf39 rfl rfl) rfl ?_
      refine dt (d_lb2 (i := 5) rfl rfl rfl Tryz.isAgg39 Tryz.sizeOf39 rfl rfl) rfl ?_
      refine tt (t_call (n := 13) (r_quo _ _ _ _ (by rw [Int.natAbs_natCast]; omega) (by first | (rw [hcl]; omega) | (rw [Int.natAbs_neg, hcl]; omega)) (by rw [hcl]; omega)) rfl rfl rfl ⟨rfl, rfl, trivial⟩ Tryz.call63 (pre_same 98 rfl rfl rfl (pre_same 92 rfl rfl rfl pre_nil)) rfl hw) rfl (fun g_2 _ => ?_)
      refine mv rfl rfl ?_
      refine dt (d_ex rfl rfl rfl) rfl ?_
      refine dt (d_ex rfl rfl rfl) rfl ?_
      refine tt (t_alloc (i := 15) rfl rfl rfl Tryz.zeroValue39 rfl rfl hw) rfl (fun b_7 _ => ?_)
      refine tt (t_alloc (i := 16) rfl rfl rfl Tryz.zeroValue39 rfl rfl hw) rfl (fun b_8 _ => ?_)
      refine tt (t_stw (i := 15) rfl rfl rfl rfl rfl (by decide) rfl Tryz.sizeOf39 rfl rfl ⟨(one_rfl rfl), (one_rd (i := 13) rfl rd_slp), trivial⟩ rfl hw trivial) rfl (fun _ _ => ?_)
      refine tt (t_stw (i := 16) rfl rfl rfl rfl rfl (by decide) rfl Tryz.sizeOf39 rfl rfl ⟨(one_rfl rfl), (one_rd (i := 14) rfl rd_slp), trivial⟩ rfl hw trivial) rfl (fun _ _ => ?_)
      refine l_nil ?_
      refine x_then ?_
      refine e_seq ?_
      refine e_dreg (fun _ => False) [(0, 0), (1, 1), (2, 3), (3, 3)] (by kernel_rfl) ?_ ?_
      · kernel_rfl
      refine r0' rfl rfl rfl rfl (st0 (d_lb2 (i := 15) rfl rfl rfl Tryz.isAgg39 Tryz.sizeOf39 rfl rfl)) ?_
      refine r1' rfl rfl (t_call (n := 17) (r_num 2 ⟨by omega, by omega⟩) rfl rfl rfl ⟨rfl, trivial⟩ Tryz.call43 pre_nil rfl hw) (fun v_5 _ => ?_)
      refine r3' rfl rfl (t_call (n := 18) (r_add _ _ _ _ (by omega) (by decide)) rfl rfl rfl ⟨rfl, rfl, trivial⟩ Tryz.call42 (pre_same 13 rfl rfl rfl (pre_same 17 rfl rfl rfl pre_nil)) rfl hw) (fun v_6 _ => ?_)
      refine r3' rfl rfl (t_stw (i := 2) rfl rfl rfl rfl rfl (by decide) rfl Tryz.sizeOf39 rfl rfl ⟨(one_rfl rfl), (one_rd (i := 18) rfl rd_slp), trivial⟩ rfl hw trivial) (fun _ _ => ?_)
      refine r_end ?_
      refine x_then ?_
      refine e_ret ?_
      exact x_end (.inl rfl) hsc _ _ (fun a w hs => res1 hs Tryz.results18 (rv_cell (i := 2) rfl rfl Tryz.isAgg39 Tryz.sizeOf39 rfl)) (by rw [he] <;> rfl) trivial rfl (give_samee 18 rfl rfl rfl (by rw [he] <;> rfl) give_nil)
theorem law_small (v : Value) (r : List (Bool × ByteArray)) : Cal Tryz.prog 10 #[v] [slp 2 encW v r] false (G := Unit) (fun _ => True) (fun _ => .bool (smallR r)) (fun _ => []) := by
  refine cal_in Tryz.func10 rfl Tryz.ntmps10 rfl ⟨rfl, trivial⟩ ?_
  intro w0 sc hw hsc
  simp only [enumEnv, enumPre]
  refine e_seq ?_
  refine e_reg ?_
  refine as_ rfl rfl ?_
  refine l_nil ?_
  refine x_then ?_
  refine e_seq ?_
  refine e_seq ?_
  refine e_reg ?_
  refine mv rfl rfl ?_
  refine dt (d_len rfl rfl (i := 1) rfl rd_slp Tryz.underlying23) rfl ?_
  refine dt (d_gtr rfl rfl rfl) rfl ?_
  refine l_nil ?_
  refine x_then ?_
  refine e_cond rfl (fun h66 => ?_) (fun h66 => ?_)
  · refine e_seq ?_
    refine e_reg ?_
    refine as_ rfl rfl ?_
    refine l_nil ?_
    refine x_then ?_
    refine e_ret ?_
    refine x_ret ?_
    exact x_end (.inl rfl) hsc () _ (fun a w hs => res1 hs Tryz.results10 rfl) (by rw [small_no8 (by assumption)]) trivial rfl give_nil
  · refine e_skip ?_
    refine x_then ?_
    refine e_seq ?_
    refine e_seq ?_
    refine e_reg ?_
    refine mv rfl rfl ?_
    refine dt (d_len rfl rfl (i := 1) rfl rd_slp Tryz.underlying23) rfl ?_
    refine mv rfl rfl ?_
    refine l_nil ?_
    refine x_then ?_
    refine e_block ?_
    refine e_lp [(8, _), (9, _)] [(0, _), (1, _)] (fun (i : Nat) => [(10, .int .i64 (i : Int))]) (fun (i : Nat) => []) (fun (i : Nat) => (i ≤ r.length) ∧ (∀ k, k < i → (r.getD k (false, ⟨#[]⟩)).2.size ≤ 6)) (fun (i : Nat) => r.length - i) 0 ⟨by first | omega | (dsimp only <;> omega), fun k hk => absurd hk (Nat.not_lt_zero k)⟩ ⟨rfl, rfl, rfl, trivial⟩ ⟨rfl, rfl, trivial⟩ ?_
    rintro i ⟨hi, hk⟩
    simp only [List.cons_append, List.nil_append]
    refine e_seq ?_
    refine e_reg ?_
    refine dt (d_lss rfl rfl rfl) rfl ?_
    refine l_nil ?_
    refine x_then ?_
    refine e_seq ?_
    refine e_cond rfl (fun h69 => ?_) (fun h69 => ?_)
    · refine e_skip ?_
      refine x_then ?_
      refine e_seq ?_
      refine e_block ?_
      refine e_seq ?_
      refine e_reg ?_
      refine dt (d_ixa (ii := 1) rfl rfl rfl rfl rd_slp Tryz.underlying23 Tryz.sizeOf28 rfl (by first | omega | (simp only [List.length_set]; omega))) rfl ?_
      refine dt (d_lde (ii := 1) (false, ⟨#[]⟩) rfl rfl rfl rd_slp pW (by first | omega | (simp only [List.length_set]; omega))) rfl ?_
      refine tt (t_alloc (i := 2) rfl rfl rfl Tryz.zeroValue28 rfl rfl hw) rfl (fun b _ => ?_)
      refine tt (t_stw (i := 2) rfl rfl rfl rfl rfl (by decide) rfl Tryz.sizeOf28 rfl rfl ⟨(one_rfl rfl), (one_rfl rfl), trivial⟩ rfl hw trivial) rfl (fun _ _ => ?_)
      refine l_nil ?_
      refine x_then ?_
      refine e_seq ?_
      refine e_reg ?_
      refine dt (d_fa rfl rfl Tryz.underlying28 rfl Tryz.sizeOf9 rfl rfl) rfl ?_
      refine dt (d_lb (i := 2) rfl rfl rfl Tryz.isAgg9 rfl) rfl ?_
      refine dt (d_lens rfl rfl Tryz.underlying9) rfl ?_
      refine dt (d_gtr rfl rfl rfl) rfl ?_
      refine l_nil ?_
      refine x_then ?_
      refine e_cond rfl (fun h70 => ?_) (fun h70 => ?_)
      · refine e_seq ?_
        refine e_reg ?_
        refine as_ rfl rfl ?_
        refine l_nil ?_
        refine x_then ?_
        refine e_ret ?_
        refine x_br ?_
        refine x_ret ?_
        refine x_ret ?_
        refine x_br ?_
        refine x_ret ?_
        exact x_end (.inl rfl) hsc () _ (fun a w hs => res1 hs Tryz.results10 rfl) (by rw [small_no6 (i := i) (by omega) (by assumption)]) trivial rfl give_nil
      · refine e_skip ?_
        refine x_bn ?_
        refine x_then ?_
        refine e_reg ?_
        refine dt (d_add rfl rfl rfl ⟨by omega, by omega⟩) rfl ?_
        refine mv rfl rfl ?_
        refine l_nil ?_
        exact x_rnd (i + 1) ⟨by first | omega | (dsimp only <;> omega), fun k hk2 => by rcases Nat.lt_succ_iff_lt_or_eq.1 hk2 with h9 | h9; exact hk k h9; subst h9; omega⟩ (by first | omega | (dsimp only <;> omega)) ⟨rfl, rfl, rfl, trivial⟩ ⟨rfl, rfl, trivial⟩
    · refine e_exit ?_
      refine x_exit ?_
      refine x_exit ?_
      refine x_be ?_
      refine x_then ?_
      refine e_seq ?_
      refine e_reg ?_
      refine as_ rfl rfl ?_
      refine l_nil ?_
      refine x_then ?_
      refine e_ret ?_
      exact x_end (.inl rfl) hsc () _ (fun a w hs => res1 hs Tryz.results10 rfl) (by rw [small_yes (by assumption) fun k hk2 => hk k (by omega)]) trivial rfl give_nil
end Go.Sky
open Go.Proofs
namespace Go.Sky
theorem st_fits_any (v : Value) (r : List (Bool × ByteArray)) : Cal Tryz.prog 14 #[v] [slp 2 encW v r] false (G := Unit) (fun _ => True) (fun _ => .bool (okP r && decide (sfits (dec r)))) (fun _ => []) := by
  by_cases h : okP r = true
  · rw [h, Bool.true_and]
    exact Cal.imp (st_fits v (dec r) (dec_ok h).1) (slp_dec h v) (fun _ h => h)
  · have h : okP r = false := by simpa using h
    rw [h, Bool.false_and]; exact st_fits_bad v r h
theorem st_bound_any (v : Value) (r : List (Bool × ByteArray)) : Cal Tryz.prog 12 #[v] [slp 2 encW v r] false (G := Unit) (fun _ => True) (fun _ => .tuple #[wv (bdZ r), .int .i64 (bdE r)]) (fun _ => []) := by
  by_cases h : okP r = true
  · have hv := (dec_ok h).1
    by_cases h0 : chk0 (dec r) = 0
    · have he : bdE r = 0 := by rw [bdE_ok h, h0]
      rw [bdZ_ok he, he]
      exact Cal.imp (st_bound v (dec r) hv h0) (slp_dec h v) (fun _ h => h)
    · have he := bdE_ok h
      rw [bdZ_no (by rw [he]; exact h0), he]
      exact Cal.imp (st_bound_err v (dec r) hv h0) (slp_dec h v) (fun _ h => h)
  · have h : okP r = false := by simpa using h
    have he := bdE_no h
    rw [bdZ_no (by rw [he]; decide), he]
    exact st_bound_bad v r h
end Go.Sky
namespace Go.Sky
set_option linter.unusedVariables false
/-- the error of some results -/
def oe (f : Nat → Int) : Nat → Int
  | 0 => 0
  | k + 1 => err (oe f k) (f k)
end Go.Sky
namespace Go.Sky
set_option linter.unusedVariables false
/-- one power of x, times a power of 2 -/
def mon (d n : Nat) : List Int := mono d ((2 : Int) ^ n)
/-! the calls -/
/-! a power of 2 as bytes -/
variable {P : Program} {N : Nat} {sc : Nat → Prop} {env : Env} {H : Hp}
theorem d_shl8 {o : Oper} {t t' : TypeId} {x y : Operand} {m n : Nat} {n' : Int} (ho : o.op = .binOp .shl t x y t') (hx : ev env x = some (.int .u8 (m : Int))) (hy : ev env y = some (.int .i64 n')) (hn' : n' = (n : Int)) (hn : n ≤ 8) (hlt : m * 2 ^ n < 256) : Det P N sc o env H (.int .u8 ((m * 2 ^ n : Nat) : Int)) := fun a w hs => by
  subst hn'
  have h1 : min n 8 = n := by omega
  have h2 : IntKind.u8.wrap ((m : Int) * 2 ^ n) = ((m * 2 ^ n : Nat) : Int) := by
    simp only [IntKind.wrap, IntKind.bits, IntKind.signed]
    have : ((m : Int) * 2 ^ n) = ((m * 2 ^ n : Nat) : Int) := by push_cast; rfl
    rw [this]
    simp
    omega
  have h3 : ¬ ((n : Int) < 0) := by omega
  have h2' : IntKind.u8.wrap (↑m * 2 ^ n) = ↑m * 2 ^ n := by rw [h2]; push_cast; rfl
  simp [execOp, ho, hs.ev hx, hs.ev hy, eqGuard, binOp, Op.shift, IntKind.bits, h1, h2', h3]
end Go.Sky

