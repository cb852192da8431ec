/- rules, arithmetic and contracts: part 12
   Proved without conditions of its own: each theorem bears its own. -/
import Derived.Test.YtcegclhbeflgbaaGreatSh02
import Derived.Test.YtcegclhbeflgbaaGreatSh01
import Derived.Test.YtcegclhbeflgbaaGreatSh03
import Derived.Test.YtcegclhbeflgbaaGreatSh10
import Derived.Test.YtcegclhbeflgbaaGreatSh04
set_option linter.all false
namespace Go.Sky
open Go.Proofs
set_option maxRecDepth 20000
set_option maxHeartbeats 4000000
set_option linter.unusedVariables false
set_option linter.unusedSimpArgs false
theorem st_split_step (bh bo bl bs : Nat) (vl : Value) (ls : List (SL × List Int)) (hv : Int) (hvz : ∀ z ∈ ls, Vp z.2) (hll : ls.length ≤ 1000) (f : Nat) (ih : ∀ (vo : Value) (os : List (R2 × R2)) (a b : R2) (fr to : Int) (d : Nat) (ha : okQ a) (hb : okQ b) (hfr : -100000 ≤ fr ∧ fr ≤ 100000) (hto : -100000 ≤ to ∧ to ≤ 100000) (hok : ispOK (cvx ls) (evok ls) hv f a b fr to d) (hln : os.length + (isp (cvx ls) hv f a b fr to d).length ≤ 1000000), CalP Tryz.prog 85 #[iq (a, b), .int .i64 fr, .int .i64 to, .int .i64 (d : Int), .pointer (some ⟨bh, 0, none⟩), .pointer (some ⟨bo, 0, none⟩), .pointer (some ⟨bl, 0, none⟩), .pointer (some ⟨bs, 0, none⟩)] [rbox bh 3 #[.int .i64 hv], rbox bl 44 #[vl], deep 1 encS qZ vl ls, rbox bs 113 #[.func (.func 85) #[] #[.pointer (some ⟨bh, 0, none⟩), .pointer (some ⟨bo, 0, none⟩), .pointer (some ⟨bl, 0, none⟩), .pointer (some ⟨bs, 0, none⟩)]]] (gb bo 69 8 79 iq vo os) (G := Value) (fun _ => True) (fun _ => .int .i64 0) (fun g => gb bo 69 8 79 iq g (os ++ isp (cvx ls) hv f a b fr to d))) (vo : Value) (os : List (R2 × R2)) (a b : R2) (fr to : Int) (d : Nat) (ha : okQ a) (hb : okQ b) (hfr : -100000 ≤ fr ∧ fr ≤ 100000) (hto : -100000 ≤ to ∧ to ≤ 100000) (hok : ispOK (cvx ls) (evok ls) hv (f + 1) a b fr to d) (hln : os.length + (isp (cvx ls) hv (f + 1) a b fr to d).length ≤ 1000000) : CalP Tryz.prog 85 #[iq (a, b), .int .i64 fr, .int .i64 to, .int .i64 (d : Int), .pointer (some ⟨bh, 0, none⟩), .pointer (some ⟨bo, 0, none⟩), .pointer (some ⟨bl, 0, none⟩), .pointer (some ⟨bs, 0, none⟩)] [rbox bh 3 #[.int .i64 hv], rbox bl 44 #[vl], deep 1 encS qZ vl ls, rbox bs 113 #[.func (.func 85) #[] #[.pointer (some ⟨bh, 0, none⟩), .pointer (some ⟨bo, 0, none⟩), .pointer (some ⟨bl, 0, none⟩), .pointer (some ⟨bs, 0, none⟩)]]] (gb bo 69 8 79 iq vo os) (G := Value) (fun _ => True) (fun _ => .int .i64 0) (fun g => gb bo 69 8 79 iq g (os ++ (isp (cvx ls) hv (f + 1) a b fr to d))) := by
 refine calp_in Tryz.func85 J Tryz.ntmps85 J K4 ?_
 intro w0 sc hw hsc
 simp only [Zp, Zo]
 obtain ⟨ha1, ha2, ha3⟩ := ha
 obtain ⟨hb1, hb2, hb3⟩ := hb
 have hcm := chg_range (sgx ls (fat (smid a b).1 (smid a b).2))
 rw [length_sgx] at hcm
 have hcv : cvx ls (smid a b) = chg (sgx ls (fat (smid a b).1 (smid a b).2)) := rfl
 refine Yh (s_gsplit 1 60 J J J) <|Yh (Xy 999 2 28 wv) <|Yh (Xk 999 J J pV) <|Zb <|Zd <|tt (Yq (i := 6) J J J J J J hw) J fun bx _ => Zl J J <|Zc <|Za <|Zb <|Zm <|Zb <|Zd <|mv J J <|mv J J <|dt (Xu J J J) J <|Zl J J <|Zc <|Za <|Zn J (fun h231 => ?_) (fun h231 => ?_)
 ·have hI : (isp (cvx ls) hv (f + 1) a b fr to d) = [] := by unfold isp; rw [if_pos h231]
  exact Zb <|Zd <|Zl J J <|Zc <|Za <|Zq <|Qj <|Yp <|Xz (s_gjoin 1 60 J J J J J) <|x_endp (.inl J) hsc vo _ (fun a w hs => Yr hs Tryz.results85 J) J trivial 1 (by rw [hI, List.append_nil] <;> rfl) J J J (Zf 2 J J J (Zf 3 J J J (Zf 4 J J J (Zf 5 J J J Ze))))
 ·have hne : ¬ fr = to := h231
  refine e_jn [(1, _), (2, _), (3, _), (5, _), (6, _), (7, _), (8, _)] [(0, _), (2, _), (3, _), (4, _), (5, _), (1, _), (60, _), (999, _), (6, _)] (fun (_j : Unit) => [(21, .bool (decide (fr - to = 1 ∧ hv ≤ (d : Int))))]) (fun (_j : Unit) => []) (fun (_j : Unit) => True) K7 K9 ?_ ?_
  ·refine Zd <|mv J J <|mv J J <|dt (Xc J J J ⟨by omega, by omega⟩) J <|dt (Xu J J J) J <|mv J J <|Xo (d := 26) J (fun s233 => ?_) (fun s233 => ?_)
   ·exact Yj (Zv J J) J J J J <|Yj (d_lr (i := 2) J J J iA3 J) J J J J <|Yj (Qb J J J) J J J J <|dt (Ym J J J) J <|Zl J J <|Zc <|Xq () trivial ⟨by first | exact congrArg (fun z => some (Value.bool z)) (decide_eq_decide.2 (by omega)) | exact congrArg (fun z => some (Value.bool z)) (decide_eq_false (by omega)).symm, rfl, rfl, rfl, rfl, rfl, rfl, rfl, trivial⟩ K9
   ·exact Yy J J J J J <|Yy J J J J J <|Yy J J J J J <|dt (Zs J J J) J <|Zl J J <|Zc <|Xq () trivial ⟨by first | exact congrArg (fun z => some (Value.bool z)) (decide_eq_decide.2 (by omega)) | exact congrArg (fun z => some (Value.bool z)) (decide_eq_false (by omega)).symm, rfl, rfl, rfl, rfl, rfl, rfl, rfl, trivial⟩ K9
  ·rintro _j -
   simp only [List.cons_append, List.nil_append]
   refine Zn J (fun h233 => ?_) (fun h233 => ?_)
   ·have hI : (isp (cvx ls) hv (f + 1) a b fr to d) = [(a, b)] := by unfold isp; rw [if_neg hne, if_pos h233]
    rw [hI] at hln
    simp only [List.length_singleton] at hln
    exact Zb <|Zd <|dt (Xb (i := 1) J J J iA69 J) J <|dt (d_lb8 (i := 6) J J J iA79 zT79 J J J J J J J J) J <|tt (Xm (i := 7) (ivs := [(0, _)]) (enc := iq) [(a, b)] J J J K2 uT69 Tryz.ti79 J J J (fill18 _ _ _ _ _ _ _ _ _ _ _ _ _ _ _ _) J J pY.cells J J hw) J fun v _ => tt (t_appa (i := 60) (j := 7) (by_ := 96) J J J J J J (by decide) J (Ye pY) uT69 Tryz.ti79 J pY J J J (by simp; omega) (by decide) J hw) J fun v_2 _ => tt (t_st1 (i := 1) J J J J J (by decide) zT69 (Yb (i := 60) J (Ye pY)) J hw trivial) J fun _ _ => Zc <|Za <|Zb <|Zd <|Zl J J <|Zc <|Za <|Zq <|Qj <|Yp <|Xz (s_gjoin 1 60 J J J J J) <|x_endp (.inl J) hsc v_2 _ (fun a w hs => Yr hs Tryz.results85 J) J trivial 1 (by rw [hI] <;> rfl) J J J (Zf 2 J J J (Zf 3 J J J (Zf 4 J J J (Zf 5 J J J Ze))))
   ·have hnl : ¬ (fr - to = 1 ∧ hv ≤ (d : Int)) := h233
    obtain ⟨hdl, hmid, hev, hk1, hk2⟩ : d < 1000 ∧ midOK a b ∧ evok ls (smid a b) ∧ ispOK (cvx ls) (evok ls) hv f a (smid a b) fr (cvx ls (smid a b)) (d + 1) ∧ ispOK (cvx ls) (evok ls) hv f (smid a b) b (cvx ls (smid a b)) to (d + 1) := by
     rcases hok with h | h | h
     ·exact absurd h hne
     ·exact absurd h hnl
     ·exact h
    have hI : (isp (cvx ls) hv (f + 1) a b fr to d) = isp (cvx ls) hv f a (smid a b) fr (cvx ls (smid a b)) (d + 1) ++ isp (cvx ls) hv f (smid a b) b (cvx ls (smid a b)) to (d + 1) := by
     conv => lhs; unfold isp
     rw [if_neg hne, if_neg hnl]
    rw [hI, List.length_append] at hln
    obtain ⟨hm1, hm2⟩ := midOK_bl hmid
    have hm3 := midOK_pos hmid ha3 hb3
    have hme := midOK_err hmid
    have hcr : -100000 ≤ cvx ls (smid a b) ∧ cvx ls (smid a b) ≤ 100000 := by rw [hcv]; omega
    refine Zb <|Zd <|mv J J <|dt (Qb J J J) J <|Zl J J <|Zc <|Za <|Zn J (fun h236 => ?_) (fun h236 => ?_)
    ·exfalso; omega
    ·refine Zk <|Xl <|Za <|Zb <|Zd <|dt (Yk J J uT79 J zT49 J J) J <|dt (Yt (i := 6) J J J iA49 zT49 J J J J) J <|dt (Yk J J uT79 J zT49 J J) J <|dt (Yt (i := 6) J J J iA49 zT49 J J J J) J <|tt (Zg (n := 7) (st_middle _ _ _ _ ha1 ha2 hb1 hb2 ha3 hb3 hmid.1) J J J K2 cF86 Ze J hw) J fun _ _ => mv J J <|dt (Zw J J J) J <|dt (Zw J J J) J <|tt (Zx (i := 8) J J J Tryz.zeroValue49 J J hw) J fun bx_2 _ => tt (Zu (i := 8) J J J J J (by decide) J zT49 J J ⟨(Zh J), (Zh J), (Zh J), (Zh J), trivial⟩ J hw trivial) J fun _ _ => Zl J J <|Zc <|Za <|Zb <|Zb <|Zd <|mv J J <|dt (Zz (r' := .bool false) (Ys J J J) (congrArg Value.bool (by rw [hme]; rfl))) J <|Zc <|Za <|Yd J <|Zk <|Za <|Zb <|Zd <|dt (d_lr (i := 3) J J J iA44 J) J <|dt (Yt (i := 8) J J J iA49 zT49 J J J J) J <|tt (Zg (n := 8) (st_at _ _ _ _ hm1 hm2 hm3 hvz hev) J J J K2 cF77 (Zf 4 J J J Ze) J hw) J fun _ _ => mv J J <|dt (Zw J J J) J <|dt (Zw J J J) J <|Zl J J <|Zl J J <|Zc <|Za <|Zb <|Zb <|Zd <|mv J J <|dt (Zz (r' := .bool false) (Ys J J J) (congrArg Value.bool (by decide))) J <|Zc <|Za <|Yd J <|Zk <|Za <|Zb <|Zb <|Zd <|dt (d_lr (i := 5) J J J iA113 J) J <|dt (Yk J J uT79 J zT49 J J) J ?_
     refine dt (Yt (i := 6) J J J iA49 zT49 J J J J) J <|dt (Yt (i := 8) J J J iA49 zT49 J J J J) J <|dt (Xx (ivs := [(0, _), (1, _)]) J K4 (fun a w hs => b79_01)) J <|mv J J <|mv J J <|mv J J <|dt (Yg J J J ⟨by omega, by omega⟩) J <|Xj (s_gjoin 1 60 J J J J J) <|tt (t_callp (i := 1) (fs := []) (vs := [_, _, _, _]) (us := [_, _, _, _]) (ih _ _ a (smid a b) fr (cvx ls (smid a b)) (d + 1) ⟨ha1, ha2, ha3⟩ ⟨hm1, hm2, hm3⟩ hfr hcr hk1 (by omega)) J J J J K4 cF85 J J (by decide) (Zf 2 J J J (Zf 3 J J J (Zf 4 J J J (Zf 5 J J J Ze)))) J hw (fun _ _ => trivial)) J fun vg _ => Xj (s_gsplit 1 60 J J J) <|Zl J J <|Zc <|Za <|Zb <|Zd <|mv J J <|dt (Zz (r' := .bool false) (Ys J J J) (congrArg Value.bool (by decide))) J <|Zc <|Za <|Yd J <|Zk <|Za <|Zb <|Zd <|dt (d_lr (i := 5) J J J iA113 J) J <|dt (Yt (i := 8) J J J iA49 zT49 J J J J) J <|dt (Yk J J uT79 J zT49 J J) J <|dt (Yt (i := 6) J J J iA49 zT49 J J J J) J <|dt (Xx (ivs := [(0, _), (1, _)]) J K4 (fun a w hs => b79_01)) J <|mv J J <|mv J J <|mv J J <|dt (Yg J J J ⟨by omega, by omega⟩) J <|Xj (s_gjoin 1 60 J J J J J) ?_
     exact tt (t_callp (i := 1) (fs := []) (vs := [_, _, _, _]) (us := [_, _, _, _]) (ih _ _ (smid a b) b (cvx ls (smid a b)) to (d + 1) ⟨hm1, hm2, hm3⟩ ⟨hb1, hb2, hb3⟩ hcr hto hk2 (by rw [List.length_append]; omega)) J J J J K4 cF85 J J (by decide) (Zf 2 J J J (Zf 3 J J J (Zf 4 J J J (Zf 5 J J J Ze)))) J hw (fun _ _ => trivial)) J fun vg_2 _ => Xj (s_gsplit 1 60 J J J) <|Zl J J <|Zc <|Za <|Zq <|Xz (s_gjoin 1 60 J J J J J) <|x_endp (.inl J) hsc vg_2 _ (fun a w hs => Yr hs Tryz.results85 J) J trivial 1 (by rw [hI, ← List.append_assoc] <;> rfl) J J J (Zf 2 J J J (Zf 3 J J J (Zf 4 J J J (Zf 5 J J J Ze))))
end Go.Sky
namespace Go.Sky
open Go.Proofs
set_option linter.unusedVariables false
theorem st_split (bh bo bl bs : Nat) (vl : Value) (ls : List (SL × List Int)) (hv : Int) (hvz : ∀ z ∈ ls, Vp z.2) (hll : ls.length ≤ 1000) : ∀ (f : Nat) (vo : Value) (os : List (R2 × R2)) (a b : R2) (fr to : Int) (d : Nat) (ha : okQ a) (hb : okQ b) (hfr : -100000 ≤ fr ∧ fr ≤ 100000) (hto : -100000 ≤ to ∧ to ≤ 100000) (hok : ispOK (cvx ls) (evok ls) hv f a b fr to d) (hln : os.length + (isp (cvx ls) hv f a b fr to d).length ≤ 1000000), CalP Tryz.prog 85 #[iq (a, b), .int .i64 fr, .int .i64 to, .int .i64 (d : Int), .pointer (some ⟨bh, 0, none⟩), .pointer (some ⟨bo, 0, none⟩), .pointer (some ⟨bl, 0, none⟩), .pointer (some ⟨bs, 0, none⟩)] [rbox bh 3 #[.int .i64 hv], rbox bl 44 #[vl], deep 1 encS qZ vl ls, rbox bs 113 #[.func (.func 85) #[] #[.pointer (some ⟨bh, 0, none⟩), .pointer (some ⟨bo, 0, none⟩), .pointer (some ⟨bl, 0, none⟩), .pointer (some ⟨bs, 0, none⟩)]]] (gb bo 69 8 79 iq vo os) (G := Value) (fun _ => True) (fun _ => .int .i64 0) (fun g => gb bo 69 8 79 iq g (os ++ (isp (cvx ls) hv f a b fr to d)))
 | 0, vo, os, a, b, fr, to, d, ha, hb, hfr, hto, hok, hln => hok.elim
 | f + 1, vo, os, a, b, fr, to, d, ha, hb, hfr, hto, hok, hln => st_split_step bh bo bl bs vl ls hv hvz hll f (st_split bh bo bl bs vl ls hv hvz hll f) vo os a b fr to d ha hb hfr hto hok hln
end Go.Sky
namespace Go.Sky
open Go.Proofs
set_option maxRecDepth 20000
set_option maxHeartbeats 4000000
set_option linter.unusedVariables false
set_option linter.unusedSimpArgs false
theorem st_isolate (v : Value) (xs : List Int) (hv : Vp xs) (a b : R2) (hq : Int) (ha : okQ a) (hb : okQ b) (hh : 0 ≤ hq ∧ hq ≤ 200) (hk : chk2r xs a.1 a.2 b.1 b.2 = 0) (F : Nat) (hF : F ≤ 900) (f : Nat) (hI : isOK F xs f a b hq) : Cal Tryz.prog 35 #[v, .agg #[.bool (decide (a.1 < 0)), .string (bstr a.1.natAbs), .bool (decide (a.2 < 0)), .string (bstr a.2.natAbs)], .agg #[.bool (decide (b.1 < 0)), .string (bstr b.1.natAbs), .bool (decide (b.2 < 0)), .string (bstr b.2.natAbs)], .int .i64 hq] [slp 2 wv v xs] true (G := Value) (fun r => True) (fun r => .tuple #[r, .int .i64 0]) (fun r => [slp 8 iq r (sisol F xs f a b hq)]) := by
 refine Ya Tryz.func35 J Tryz.ntmps35 J K1 ?_
 intro w0 sc hw hsc
 simp only [Zp, Zo]
 obtain ⟨h0, hf⟩ := chk2_fits hk
 obtain ⟨hC, hE1, hE2, hR1, hR2, hI1, hI2⟩ := hI
 obtain ⟨hr11, hr12, hr13⟩ := nr_num hR1
 obtain ⟨hr21, hr22, hr23⟩ := nr_num hR2
 have hsl1 := slow_ok ha hR1
 have hsl2 := slow_ok hb hR2
 obtain ⟨ha1, ha2, ha3⟩ := ha
 obtain ⟨hb1, hb2, hb3⟩ := hb
 have hll := length_schain F (sqf F xs) (pprim (pder (sqf F xs)))
 have hcr1 := chg_range ((chn F xs).map (fat a.1 a.2))
 have hcr2 := chg_range ((chn F xs).map (fat b.1 b.2))
 rw [List.length_map] at hcr1 hcr2
 have hll2 : (chn F xs).length ≤ F + 1 := hll
 refine Yh (Xy 999 2 28 wv) <|Yh (Xk 999 J J pV) <|Zb <|Zd <|tt (Yq (i := 2) J J J J J J hw) J fun bx _ => tt (Yq (i := 3) J J J J J J hw) J fun bx_2 _ => tt (Yq (i := 4) J J J J J J hw) J fun bx_3 _ => Zl J J <|Zl J J <|Zc <|Za <|Zb <|Zb <|Zd <|dt (Xb (i := 4) J J J iA3 J) J <|dt (Zz (r' := .bool false) (Yw J J J) (congrArg Value.bool (decide_eq_false (by omega)))) J <|mv J J <|Yj (Xb (i := 4) J J J iA3 J) J J J J <|Yj (Zz (r' := .bool false) (Xd J J J) (congrArg Value.bool (decide_eq_false (by omega)))) J J J J <|dt (Zs J J J) J <|Zc <|Za <|Yd J <|Zk <|Za <|Zb <|Zb <|Zd <|mv J J <|dt (Yt (i := 2) J J J iA49 zT49 J J J J) J <|dt (Yt (i := 3) J J J iA49 zT49 J J J J) J <|tt (Xm (i := 5) (ivs := [(0, _), (1, _)]) (enc := rq) [(a.1, a.2), (b.1, b.2)] J J J K4 uT87 Tryz.ti49 J J J (fill24 _ _ _ _ _ _ _ _ _ _ _ _) J J pQ.cells J J hw) J fun v _ => tt (Zg (n := 5) (st_check2 _ _ hv _ _ _ _ _ ha1 ha2 hb1 hb2 ha3 hb3) J J J K2 cF51 (Zf 1 J J J (Xe 5 J J pQ Ze)) J hw) J fun _ _ => Zl J J <|Zc <|Za <|Zb <|Zd <|mv J J <|dt (Zz (r' := .bool false) (Ys J J J) (congrArg Value.bool (by rw [hk]; rfl))) J <|Zc <|Za <|Yd J <|Zk <|Za <|Zb <|Zd <|mv J J ?_
 refine tt (Zg (n := 6) (st_chain _ _ hv h0 hf F hC) J J J K1 cF20 (Zf 1 J J J Ze) J hw) J (fun g hg => ?_)
 have hgc := hg
 have hvz := mem_snd hgc (vp_chn hv h0 hC)
 have hcq := cvx_eq hgc
 have hlz : g.2.length ≤ 1000 := by have := congrArg List.length hgc; rw [List.length_map] at this; omega
 have hcv1 : -100000 ≤ cvx g.2 a ∧ cvx g.2 a ≤ 100000 := by rw [hcq]; unfold cvc cnt; omega
 have hcv2 : -100000 ≤ cvx g.2 b ∧ cvx g.2 b ≤ 100000 := by rw [hcq]; unfold cvc cnt; omega
 have hok : ispOK (cvx g.2) (evok g.2) hq f (slow a) (slow b) (cvx g.2 a) (cvx g.2 b) 0 := by rw [hcq, evok_eq hgc]; exact hI1
 have hln : ([] : List (R2 × R2)).length + (isp (cvx g.2) hq f (slow a) (slow b) (cvx g.2 a) (cvx g.2 b) 0).length ≤ 1000000 := by rw [hcq, List.length_nil, Nat.zero_add]; exact hI2
 refine mv J J <|dt (Zw J J J) J <|dt (Zw J J J) J <|tt (Zx (i := 7) J J J Tryz.zeroValue44 J J hw) J fun bx_4 _ => tt (t_st1 (i := 7) J J J J J (by decide) zT44 (Yb (i := 6) J Yx) J hw trivial) J fun _ _ => Zl J J <|Zc <|Za <|Zb <|Zb <|Zd <|mv J J <|dt (Zz (r' := .bool false) (Ys J J J) (congrArg Value.bool (by decide))) J <|Zc <|Za <|Yd J <|Zk <|Za <|Zb <|Zd <|tt (Zx (i := 8) J J J Tryz.zeroValue69 J J hw) J fun bx_5 _ => Zc <|Za <|Zb <|Zd <|tt (Zx (i := 9) J J J Tryz.zeroValue113 J J hw) J fun bx_6 _ => Zc <|Za <|Zb <|Zd <|dt (d_mkc (vs := []) (us := [_, _, _, _]) J trivial K4) J <|tt (Zu (i := 9) J J J J J (by decide) J zT113 J J ⟨(Zh J), trivial⟩ J hw trivial) J fun _ _ => Zc <|Za <|Zb <|Zd <|dt (Yk J J uT49 J zT28 J J) J <|dt (Yc (i := 2) J J J iA28 zT28 J J) J <|dt (Yk J J uT49 J zT28 J J) J <|dt (Yc (i := 2) J J J iA28 zT28 J J) J <|tt (Zg (n := 9) (wide_ratio _ _ ha1 ha2 (by omega)) J J J K2 cF87 Ze J hw) J fun _ _ => mv J J <|dt (Zw J J J) J <|dt (Zw J J J) J <|tt (Zx (i := 10) J J J Tryz.zeroValue49 J J hw) J fun bx_7 _ => tt (Zu (i := 10) J J J J J (by decide) J zT49 J J ⟨(Zh J), (Zh J), (Zh J), (Zh J), trivial⟩ J hw trivial) J fun _ _ => Zl J J <|Zc ?_
 refine Za <|Zb <|Zb <|Zd <|mv J J <|dt (Zz (r' := .bool false) (Ys J J J) (congrArg Value.bool (by rw [hr13]; rfl))) J <|Zc <|Za <|Yd J <|Zk <|Za <|Zb <|Zd <|dt (Yk J J uT49 J zT28 J J) J <|dt (Yc (i := 3) J J J iA28 zT28 J J) J <|dt (Yk J J uT49 J zT28 J J) J <|dt (Yc (i := 3) J J J iA28 zT28 J J) J <|tt (Zg (n := 10) (wide_ratio _ _ hb1 hb2 (by omega)) J J J K2 cF87 Ze J hw) J fun _ _ => mv J J <|dt (Zw J J J) J <|dt (Zw J J J) J <|tt (Zx (i := 11) J J J Tryz.zeroValue49 J J hw) J fun bx_8 _ => tt (Zu (i := 11) J J J J J (by decide) J zT49 J J ⟨(Zh J), (Zh J), (Zh J), (Zh J), trivial⟩ J hw trivial) J fun _ _ => Zl J J <|Zc <|Za <|Zb <|Zb <|Zd <|mv J J <|dt (Zz (r' := .bool false) (Ys J J J) (congrArg Value.bool (by rw [hr23]; rfl))) J <|Zc <|Za <|Yd J <|Zk <|Za <|Zb <|Zd <|dt (Xb (i := 7) J J J iA44 J) J <|dt (Yt (i := 2) J J J iA49 zT49 J J J J) J <|tt (Zg (n := 11) (st_at _ _ _ _ ha1 ha2 ha3 hvz (by rw [← evok_eq hgc] at hE1; exact hE1)) J J J K2 cF77 (Zf 6 J J J Ze) J hw) J fun _ _ => mv J J <|dt (Zw J J J) J <|dt (Zw J J J) J <|Zl J J <|Zl J J <|Zc <|Za <|Zb <|Zb <|Zd <|mv J J ?_
 refine dt (Zz (r' := .bool false) (Ys J J J) (congrArg Value.bool (by decide))) J <|Zc <|Za <|Yd J <|Zk <|Za <|Zb <|Zd <|dt (Xb (i := 7) J J J iA44 J) J <|dt (Yt (i := 3) J J J iA49 zT49 J J J J) J <|tt (Zg (n := 11) (st_at _ _ _ _ hb1 hb2 hb3 hvz (by rw [← evok_eq hgc] at hE2; exact hE2)) J J J K2 cF77 (Zf 6 J J J Ze) J hw) J fun _ _ => mv J J <|dt (Zw J J J) J <|dt (Zw J J J) J <|Zl J J <|Zl J J <|Zc <|Za <|Zb <|Zb <|Zd <|mv J J <|dt (Zz (r' := .bool false) (Ys J J J) (congrArg Value.bool (by decide))) J <|Zc <|Za <|Yd J <|Zk <|Za <|Zb <|Zb <|Zd <|dt (Xb (i := 9) J J J iA113 J) J <|dt (Yt (i := 10) J J J iA49 zT49 J J J J) J <|dt (Yt (i := 11) J J J iA49 zT49 J J J J) J <|dt (Xx (ivs := [(0, _), (1, _)]) J K4 (fun a w hs => b79_01)) J <|mv J J <|mv J J <|Xj (Xy 60 8 79 iq) <|Xj (s_gjoin 8 60 J J J J J) <|tt (t_callp (i := 8) (fs := []) (vs := [_, _, _, _]) (us := [_, _, _, _]) (st_split _ _ _ _ _ _ hq hvz hlz f _ [] (slow a) (slow b) (cvx g.2 a) (cvx g.2 b) 0 hsl1 hsl2 hcv1 hcv2 hok hln) J J J J K4 cF85 J J (by decide) (pre_lendb 4 J J (pre_lendb 7 J J (Zf 6 J J J (pre_lendb 9 J J Ze)))) J hw (fun _ _ => trivial)) J fun vg _ => Xj (s_gsplit 8 60 J J J) <|Zl J J <|Zc <|Za ?_
 exact Zb <|Zd <|mv J J <|dt (Zz (r' := .bool false) (Ys J J J) (congrArg Value.bool (by decide))) J <|Zc <|Za <|Yd J <|Zk <|Za <|Zb <|Zd <|dt (Xb (i := 8) J J J iA69 J) J <|Zl J J <|Zl J J <|Zc <|Za <|Zq <|Zr (.inl J) hsc _ _ (fun a w hs => Xp hs Tryz.results35 J J) J trivial J (Xs 60 J J pY (by rw [List.nil_append, hcq] <;> rfl) Zj)
end Go.Sky
namespace Go.Sky
open Go.Proofs
set_option maxRecDepth 20000
set_option maxHeartbeats 4000000
set_option linter.unusedVariables false
set_option linter.unusedSimpArgs false
theorem law_w (x : Int) (hx : inI x) : Cal Tryz.prog 38 #[.int .i64 x] [] false (G := Unit) (fun _ => True) (fun _ => wv x) (fun _ => []) := by
 refine Ya Tryz.func38 J Tryz.ntmps38 J trivial ?_
 intro w0 sc hw hsc
 simp only [Zp, Zo]
 have hxa := hx.1
 have hxb := hx.2
 have hbx := inI_bl hx
 exact Zb <|Zd <|tt (Zx (i := 1) J J J Tryz.zeroValue28 J J hw) J fun b _ => Zc <|Za <|Zb <|Zd <|mv J J <|tt (Zg (n := 2) (r_num _ hx) J J J K1 cF43 Ze J hw) J fun v _ => tt (Zg (n := 2) (r_to _ _ (by omega)) J J J K1 cF17 (Zf 2 J J J Ze) J hw) J fun _ _ => tt (Zu (i := 1) J J J J J (by decide) J zT28 J J ⟨(Zh J), (Zh J), trivial⟩ J hw trivial) J fun _ _ => Zc <|Za <|Zq <|Zr (.inl J) hsc () _ (fun a w hs => Yr hs Tryz.results38 (Yl (i := 1) J J iA28 zT28 J)) J trivial J Zj
theorem law_p (v : Value) (l : List Int) (hl : ∀ x ∈ l, inI x) (hlen : l.length ≤ 1000) : Cal Tryz.prog 39 #[v] [slp 1 encZ v l] true (G := Value) (fun r => True) (fun r => r) (fun r => [slp 2 wv r (tzl l)]) := by
 refine Ya Tryz.func39 J Tryz.ntmps39 J K1 ?_
 intro w0 sc hw hsc
 simp only [Zp, Zo]
 have hsz := sz_ints hl
 exact Zb <|Zd <|Zl J J <|Zc <|Za <|Zb <|Zd <|mv J J <|tt (Zg (n := 2) (rp_nums _ _ hl hlen) J J J K1 cF33 (Zf 1 J J J Ze) J hw) J fun g hg => tt (Zg (n := 3) (rp_to _ _ (by rw [hg]; exact (Sz.tzl hsz).mono (by omega)) (by have h7 := congrArg List.length hg; rw [length_ints] at h7; have h8 := tzl_le l; omega)) J J J K1 cF25 (Zf 2 J J J Ze) J hw) J fun v _ => Zl J J <|Zc <|Za <|Zq <|Zr (.inl J) hsc _ _ (fun a w hs => Yr hs Tryz.results39 J) J trivial J (Yi 3 J J J (congrArg (slp 2 wv _) hg) Zj)
theorem law_q (x y : Int) (hx : inI x) (hy : inI y) : Cal Tryz.prog 22 #[.int .i64 x, .int .i64 y] [] false (G := Unit) (fun _ => True) (fun _ => .agg #[.bool (decide (x < 0)), .string (bstr x.natAbs), .bool (decide (y < 0)), .string (bstr y.natAbs)]) (fun _ => []) := by
 refine Ya Tryz.func22 J Tryz.ntmps22 J trivial ?_
 intro w0 sc hw hsc
 simp only [Zp, Zo]
 exact Zb <|Zd <|tt (Zx (i := 1) J J J Tryz.zeroValue49 J J hw) J fun b _ => Zc <|Za <|Zb <|Zd <|mv J J <|tt (Zg (n := 1) (law_w _ hx) J J J K1 cF38 Ze J hw) J fun _ _ => mv J J <|tt (Zg (n := 1) (law_w _ hy) J J J K1 cF38 Ze J hw) J fun _ _ => dt (Xx (ivs := [(0, _), (1, _)]) J K4 (fun a w hs => b49_01)) J <|tt (Zu (i := 1) J J J J J (by decide) J zT49 J J ⟨(Zh J), (Zh J), (Zh J), (Zh J), trivial⟩ J hw trivial) J fun _ _ => Zc <|Za <|Zq <|Zr (.inl J) hsc () _ (fun a w hs => Yr hs Tryz.results22 (Yl (i := 1) J J iA49 zT49 J)) J trivial J Zj
theorem law_same3 (v u : Value) (zs : List (R2 × R2)) (l : List Int) (hl : ∀ x ∈ l, inI x) (h1 : 2 * zs.length = l.length) (hb : l.length ≤ 1000) (h2 : ∀ i, i < zs.length → zs.getD i ((0, 0), (0, 0)) = ((l.getD (2 * i) 0, 1), (l.getD (2 * i + 1) 0, 1))) : Cal Tryz.prog 50 #[v, u] [slp 8 iq v zs, slp 1 encZ u l] false (G := Unit) (fun _ => True) (fun _ => .bool true) (fun _ => []) := by
 refine Ya Tryz.func50 J Tryz.ntmps50 J K2 ?_
 intro w0 sc hw hsc
 simp only [Zp, Zo]
 refine Yh (Xy 999 2 28 wv) <|Yh (Xk 999 J J pV) <|Zb <|Zd <|Zl J J <|Zc <|Za <|Zb <|Zb <|Zd <|mv J J <|dt (Zy J J (i := 1) J Zi uT69) J <|dt (d_mul J J J ⟨by omega, by omega⟩) J <|mv J J <|dt (Zy J J (i := 2) J Zi uT37) J <|dt (Ys J J J) J <|Zc <|Za <|Zn J (fun h19 => ?_) (fun h19 => ?_)
 ·exfalso; omega
 ·refine Zk <|Za <|Zb <|Zb <|Zd <|mv J J <|dt (Zy J J (i := 1) J Zi uT69) J <|mv J J <|Zc <|Za <|Zm <|Xv [(1, _), (13, _), (14, _)] [(0, _), (1, _), (2, _), (999, _)] (fun (i : Nat) => [(15, .int .i64 (i : Int))]) (fun (i : Nat) => []) (fun (i : Nat) => (i ≤ zs.length)) (fun (i : Nat) => zs.length - i) 0 (by first | omega | (dsimp only <;> omega)) K4 K4 ?_
  rintro i hi
  simp only [List.cons_append, List.nil_append]
  refine Zb <|Zd <|dt (Yw J J J) J <|Zc <|Za <|Zb <|Zn J (fun h22 => ?_) (fun h22 => ?_)
  ·refine Zk <|Za <|Zb <|Zm <|Zb <|Zd <|mv J J <|dt (Yf (ii := 1) J J J J Zi uT69 zT79 J (by first | omega | (simp only [List.length_set]; omega))) J <|dt (Yn (ii := 1) ((0, 0), (0, 0)) J J J Zi pY (by first | omega | (simp only [List.length_set]; omega))) J <|tt (Zx (i := 3) J J J Tryz.zeroValue79 J J hw) J fun bx _ => Zl J J <|tt (Zu (i := 3) J J J J J (by decide) J zT79 J J ⟨(Zh J), (Zh J), (Zh J), (Zh J), (Zh J), (Zh J), (Zh J), (Zh J), trivial⟩ J hw trivial) J fun _ _ => Zc <|Za <|Zb <|Xa (fun _ => False) [(0, 0), (1, 0), (2, 0), (3, 0), (4, 0), (5, 0), (7, 0), (8, 0), (9, 0), (10, 0), (11, 0), (12, 0), (6, 1), (13, 1), (14, 0), (15, 0)] (by kernel_rfl) ?_ ?_
   ·kernel_rfl
   refine r0' J J J J (st0 (d_lb8 (i := 3) J J J iA79 zT79 J J J J J J J J)) <|r0' J J J J (st0 (Zv J J)) <|r0' J J J J (st0 (Zv J J)) <|r0' J J J J (st0 (d_mul J J J ⟨by omega, by omega⟩)) <|r0' J J J J (st0 (Yf (ii := 2) (i := (2 * i)) J J J J Zi uT37 zT3 (by omega) (by omega))) <|r0' J J J J (st0 (Yn (ii := 2) 0 J J J Zi pZ (by first | omega | (simp only [List.length_set]; omega)))) <|r0' J J J J (st0 (Zv J J)) <|r0' J J J J (st0 (Zv J J)) <|r0' J J J J (st0 (d_mul J J J ⟨by omega, by omega⟩)) <|r0' J J J J (st0 (Yg J J J ⟨by omega, by omega⟩)) <|r0' J J J J (st0 (Yf (ii := 2) (i := (2 * i + 1)) J J J J Zi uT37 zT3 (by omega) (by omega))) <|r0' J J J J (st0 (Yn (ii := 2) 0 J J J Zi pZ (by first | omega | (simp only [List.length_set]; omega)))) <|r1' J J (Zg (n := 3) (law_q _ _ (getD_inI hl _) ⟨by decide, by decide⟩) J J J K2 cF22 Ze J hw) fun _ _ => r1' J J (Zg (n := 3) (law_q _ _ (getD_inI hl _) ⟨by decide, by decide⟩) J J J K2 cF22 Ze J hw) fun _ _ => r0' J J J J (st0 (Xx (ivs := [(0, _), (1, _)]) J K4 (fun a w hs => b79_01))) <|r0' J J J J (st0 (Zz (r' := .bool false) (d_eqg J J J eg79 (fun w => neq79 w _ _ _ _ _ _ _ _ _ _ _ _ _ _ _ _)) (congrArg Value.bool (by simp only [h2 i (by omega)]; simp [eqW_refl])))) <|Xn <|Za <|Yd J <|Zk <|Xl <|Za ?_
   exact Zd <|dt (Yg J J J ⟨by omega, by omega⟩) J <|mv J J <|Zc <|Yv (i + 1) (by first | omega | (dsimp only <;> omega)) (by first | omega | (dsimp only <;> omega)) K4 K4
  ·exact Yo <|Zt <|Zt <|Xr <|Za <|Zb <|Zd <|Zl J J <|Zc <|Za <|Zq <|Zr (.inl J) hsc () _ (fun a w hs => Yr hs Tryz.results50 J) J trivial J Zj
end Go.Sky
namespace Go.Sky
open Go.Proofs
set_option linter.unusedVariables false
set_option maxRecDepth 20000
instance sqDec (F : Nat) (xs : List Int) : Decidable (sqOK F xs) := by unfold sqOK; infer_instance
instance cokDec : ∀ f a b, Decidable (cok f a b)
  | 0, _, b => inferInstanceAs (Decidable (b = []))
  | f + 1, a, b => @instDecidableOr _ _ _ (@instDecidableAnd _ _ _ (@instDecidableAnd _ _ _ (cokDec f b (snext a b))))
instance chDec (F : Nat) (xs : List Int) : Decidable (chOK F xs) := by unfold chOK; infer_instance
instance evDec (F : Nat) (xs : List Int) : DecidablePred (evc F xs) := fun m => by unfold evc; infer_instance
instance isDec (F : Nat) (xs : List Int) (f : Nat) (a b : R2) (hq : Int) : Decidable (isOK F xs f a b hq) := by unfold isOK; infer_instance
instance okQDec (a : R2) : Decidable (okQ a) := by unfold okQ; infer_instance
theorem k_sq1 (v : Value) : Cal Tryz.prog 19 #[v] [slp 2 wv v [1, 2, 1]] true (G := Value) (fun r => True) (fun r => .tuple #[r, .int .i64 0]) (fun r => [slp 2 wv r [1, 1]]) := by
  have h := st_sqf v [1, 2, 1] (vp_b (by decide +kernel)) (by decide +kernel) (by decide +kernel) 12 (by decide +kernel)
  rw [show sqf 12 [1, 2, 1] = [1, 1] by decide +kernel] at h
  exact h
theorem k_sq2 (v : Value) : Cal Tryz.prog 19 #[v] [slp 2 wv v [0, 0, -6]] true (G := Value) (fun r => True) (fun r => .tuple #[r, .int .i64 0]) (fun r => [slp 2 wv r [0, 1]]) := by
  have h := st_sqf v [0, 0, -6] (vp_b (by decide +kernel)) (by decide +kernel) (by decide +kernel) 12 (by decide +kernel)
  rw [show sqf 12 [0, 0, -6] = [0, 1] by decide +kernel] at h
  exact h
theorem k_sq3 (v : Value) : Cal Tryz.prog 19 #[v] [slp 2 wv v [5]] true (G := Value) (fun r => True) (fun r => .tuple #[r, .int .i64 0]) (fun r => [slp 2 wv r [1]]) := by
  have h := st_sqf v [5] (vp_b (by decide +kernel)) (by decide +kernel) (by decide +kernel) 12 (by decide +kernel)
  rw [show sqf 12 [5] = [1] by decide +kernel] at h
  exact h
theorem k_ch1 (v : Value) : Cal Tryz.prog 20 #[v] [slp 2 wv v [-2, 0, 1]] true (G := Value × List (SL × List Int)) (fun r => r.2.map Prod.snd = [[-2, 0, 1], [0, 1], [1]]) (fun r => .tuple #[r.1, .int .i64 0]) (fun r => [deep 1 encS qZ r.1 r.2]) := by
  have h := st_chain v [-2, 0, 1] (vp_b (by decide +kernel)) (by decide +kernel) (by decide +kernel) 12 (by decide +kernel)
  rw [show chn 12 [-2, 0, 1] = [[-2, 0, 1], [0, 1], [1]] by decide +kernel] at h
  exact h
theorem k_ch2 (v : Value) : Cal Tryz.prog 20 #[v] [slp 2 wv v [-4]] true (G := Value × List (SL × List Int)) (fun r => r.2.map Prod.snd = [[1]]) (fun r => .tuple #[r.1, .int .i64 0]) (fun r => [deep 1 encS qZ r.1 r.2]) := by
  have h := st_chain v [-4] (vp_b (by decide +kernel)) (by decide +kernel) (by decide +kernel) 12 (by decide +kernel)
  rw [show chn 12 [-4] = [[1]] by decide +kernel] at h
  exact h
theorem k_cnt1 (v : Value) : Cal Tryz.prog 28 #[v, .agg #[.bool (decide ((0 : Int) < 0)), .string (bstr (0 : Int).natAbs), .bool (decide ((1 : Int) < 0)), .string (bstr (1 : Int).natAbs)], .agg #[.bool (decide ((2 : Int) < 0)), .string (bstr (2 : Int).natAbs), .bool (decide ((1 : Int) < 0)), .string (bstr (1 : Int).natAbs)]] [slp 2 wv v [-2, 0, 1]] false (G := Unit) (fun _ => True) (fun _ => .tuple #[.int .i64 1, .int .i64 0]) (fun _ => []) := by
  have h := st_count v [-2, 0, 1] (vp_b (by decide +kernel)) 0 1 2 1 (by decide +kernel) (by decide +kernel) (by decide +kernel) (by decide +kernel) (by decide) (by decide) 12 (by decide) (by decide +kernel) (by decide +kernel) (by decide +kernel) (by decide +kernel)
  rw [show cnt 12 [-2, 0, 1] 0 1 - cnt 12 [-2, 0, 1] 2 1 = 1 by decide +kernel] at h
  exact h
theorem k_cnt2 (v : Value) : Cal Tryz.prog 28 #[v, .agg #[.bool (decide ((-2 : Int) < 0)), .string (bstr (-2 : Int).natAbs), .bool (decide ((1 : Int) < 0)), .string (bstr (1 : Int).natAbs)], .agg #[.bool (decide ((2 : Int) < 0)), .string (bstr (2 : Int).natAbs), .bool (decide ((1 : Int) < 0)), .string (bstr (1 : Int).natAbs)]] [slp 2 wv v [-2, 0, 1]] false (G := Unit) (fun _ => True) (fun _ => .tuple #[.int .i64 2, .int .i64 0]) (fun _ => []) := by
  have h := st_count v [-2, 0, 1] (vp_b (by decide +kernel)) (-2) 1 2 1 (by decide +kernel) (by decide +kernel) (by decide +kernel) (by decide +kernel) (by decide) (by decide) 12 (by decide) (by decide +kernel) (by decide +kernel) (by decide +kernel) (by decide +kernel)
  rw [show cnt 12 [-2, 0, 1] (-2) 1 - cnt 12 [-2, 0, 1] 2 1 = 2 by decide +kernel] at h
  exact h
theorem k_cnt3 (v : Value) : Cal Tryz.prog 28 #[v, .agg #[.bool (decide ((0 : Int) < 0)), .string (bstr (0 : Int).natAbs), .bool (decide ((1 : Int) < 0)), .string (bstr (1 : Int).natAbs)], .agg #[.bool (decide ((1 : Int) < 0)), .string (bstr (1 : Int).natAbs), .bool (decide ((1 : Int) < 0)), .string (bstr (1 : Int).natAbs)]] [slp 2 wv v [0, 1]] false (G := Unit) (fun _ => True) (fun _ => .tuple #[.int .i64 0, .int .i64 0]) (fun _ => []) := by
  have h := st_count v [0, 1] (vp_b (by decide +kernel)) 0 1 1 1 (by decide +kernel) (by decide +kernel) (by decide +kernel) (by decide +kernel) (by decide) (by decide) 12 (by decide) (by decide +kernel) (by decide +kernel) (by decide +kernel) (by decide +kernel)
  rw [show cnt 12 [0, 1] 0 1 - cnt 12 [0, 1] 1 1 = 0 by decide +kernel] at h
  exact h
theorem k_cnt4 (v : Value) : Cal Tryz.prog 28 #[v, .agg #[.bool (decide ((-1 : Int) < 0)), .string (bstr (-1 : Int).natAbs), .bool (decide ((1 : Int) < 0)), .string (bstr (1 : Int).natAbs)], .agg #[.bool (decide ((0 : Int) < 0)), .string (bstr (0 : Int).natAbs), .bool (decide ((1 : Int) < 0)), .string (bstr (1 : Int).natAbs)]] [slp 2 wv v [0, 1]] false (G := Unit) (fun _ => True) (fun _ => .tuple #[.int .i64 1, .int .i64 0]) (fun _ => []) := by
  have h := st_count v [0, 1] (vp_b (by decide +kernel)) (-1) 1 0 1 (by decide +kernel) (by decide +kernel) (by decide +kernel) (by decide +kernel) (by decide) (by decide) 12 (by decide) (by decide +kernel) (by decide +kernel) (by decide +kernel) (by decide +kernel)
  rw [show cnt 12 [0, 1] (-1) 1 - cnt 12 [0, 1] 0 1 = 1 by decide +kernel] at h
  exact h
theorem k_cne1 (v : Value) : Cal Tryz.prog 28 #[v, .agg #[.bool (decide ((0 : Int) < 0)), .string (bstr (0 : Int).natAbs), .bool (decide ((1 : Int) < 0)), .string (bstr (1 : Int).natAbs)], .agg #[.bool (decide ((1 : Int) < 0)), .string (bstr (1 : Int).natAbs), .bool (decide ((1 : Int) < 0)), .string (bstr (1 : Int).natAbs)]] [slp 2 wv v []] false (G := Unit) (fun _ => True) (fun _ => .tuple #[.int .i64 0, .int .i64 3]) (fun _ => []) := by
  have h := st_count_err v [] (vp_b (by decide +kernel)) 0 1 1 1 (by decide +kernel) (by decide +kernel) (by decide +kernel) (by decide +kernel) (by decide) (by decide) (by decide +kernel)
  rw [show chk2r [] 0 1 1 1 = 3 by decide +kernel] at h
  exact h
theorem k_cne2 (v : Value) : Cal Tryz.prog 28 #[v, .agg #[.bool (decide ((1 : Int) < 0)), .string (bstr (1 : Int).natAbs), .bool (decide ((1 : Int) < 0)), .string (bstr (1 : Int).natAbs)], .agg #[.bool (decide ((0 : Int) < 0)), .string (bstr (0 : Int).natAbs), .bool (decide ((1 : Int) < 0)), .string (bstr (1 : Int).natAbs)]] [slp 2 wv v [1, 1]] false (G := Unit) (fun _ => True) (fun _ => .tuple #[.int .i64 0, .int .i64 3]) (fun _ => []) := by
  have h := st_count_err v [1, 1] (vp_b (by decide +kernel)) 1 1 0 1 (by decide +kernel) (by decide +kernel) (by decide +kernel) (by decide +kernel) (by decide) (by decide) (by decide +kernel)
  rw [show chk2r [1, 1] 1 1 0 1 = 3 by decide +kernel] at h
  exact h
theorem k_tot1 (v : Value) : Cal Tryz.prog 29 #[v] [slp 2 wv v [1, 0, 1]] false (G := Unit) (fun _ => True) (fun _ => .tuple #[.int .i64 0, .int .i64 0]) (fun _ => []) := by
  have h := st_total v [1, 0, 1] (vp_b (by decide +kernel)) 12 (by decide) (by decide +kernel) (by decide +kernel) (by decide +kernel)
  rw [show sleft 12 [1, 0, 1] - sright 12 [1, 0, 1] = 0 by decide +kernel] at h
  exact h
theorem k_tot2 (v : Value) : Cal Tryz.prog 29 #[v] [slp 2 wv v [0, -1, 0, 1]] false (G := Unit) (fun _ => True) (fun _ => .tuple #[.int .i64 3, .int .i64 0]) (fun _ => []) := by
  have h := st_total v [0, -1, 0, 1] (vp_b (by decide +kernel)) 12 (by decide) (by decide +kernel) (by decide +kernel) (by decide +kernel)
  rw [show sleft 12 [0, -1, 0, 1] - sright 12 [0, -1, 0, 1] = 3 by decide +kernel] at h
  exact h
theorem k_bd1 (v : Value) : Cal Tryz.prog 12 #[v] [slp 2 wv v [-2, 0, 1]] false (G := Unit) (fun _ => True) (fun _ => .tuple #[wv 4, .int .i64 0]) (fun _ => []) := by
  have h := st_bound v [-2, 0, 1] (vp_b (by decide +kernel)) (by decide +kernel)
  rw [show sbound [-2, 0, 1] = 4 by decide +kernel] at h
  exact h
theorem k_bd2 (v : Value) : Cal Tryz.prog 12 #[v] [slp 2 wv v [3]] false (G := Unit) (fun _ => True) (fun _ => .tuple #[wv 2, .int .i64 0]) (fun _ => []) := by
  have h := st_bound v [3] (vp_b (by decide +kernel)) (by decide +kernel)
  rw [show sbound [3] = 2 by decide +kernel] at h
  exact h
theorem k_is1 (v : Value) : Cal Tryz.prog 35 #[v, .agg #[.bool (decide ((-2 : Int) < 0)), .string (bstr (-2 : Int).natAbs), .bool (decide ((1 : Int) < 0)), .string (bstr (1 : Int).natAbs)], .agg #[.bool (decide ((2 : Int) < 0)), .string (bstr (2 : Int).natAbs), .bool (decide ((1 : Int) < 0)), .string (bstr (1 : Int).natAbs)], .int .i64 2] [slp 2 wv v [-2, 0, 1]] true (G := Value) (fun r => True) (fun r => .tuple #[r, .int .i64 0]) (fun r => [slp 8 iq r [((-2, 1), (-1, 1)), ((1, 1), (2, 1))]]) := by
  have h := st_isolate v [-2, 0, 1] (vp_b (by decide +kernel)) ((-2 : Int), (1 : Int)) ((2 : Int), (1 : Int)) 2 (by decide +kernel) (by decide +kernel) (by decide) (by decide +kernel) 12 (by decide) 20 (by decide +kernel)
  rw [show sisol 12 [-2, 0, 1] 20 ((-2 : Int), (1 : Int)) ((2 : Int), (1 : Int)) 2 = [((-2, 1), (-1, 1)), ((1, 1), (2, 1))] by decide +kernel] at h
  exact h
theorem k_is2 (v : Value) : Cal Tryz.prog 35 #[v, .agg #[.bool (decide ((0 : Int) < 0)), .string (bstr (0 : Int).natAbs), .bool (decide ((1 : Int) < 0)), .string (bstr (1 : Int).natAbs)], .agg #[.bool (decide ((4 : Int) < 0)), .string (bstr (4 : Int).natAbs), .bool (decide ((1 : Int) < 0)), .string (bstr (1 : Int).natAbs)], .int .i64 0] [slp 2 wv v [1, -2, 1]] true (G := Value) (fun r => True) (fun r => .tuple #[r, .int .i64 0]) (fun r => [slp 8 iq r [((0, 1), (4, 1))]]) := by
  have h := st_isolate v [1, -2, 1] (vp_b (by decide +kernel)) ((0 : Int), (1 : Int)) ((4 : Int), (1 : Int)) 0 (by decide +kernel) (by decide +kernel) (by decide) (by decide +kernel) 12 (by decide) 20 (by decide +kernel)
  rw [show sisol 12 [1, -2, 1] 20 ((0 : Int), (1 : Int)) ((4 : Int), (1 : Int)) 0 = [((0, 1), (4, 1))] by decide +kernel] at h
  exact h
theorem k_p (v : Value) (l xs : List Int) (h1 : (l.all fun x => decide (-1000000 ≤ x) && decide (x ≤ 1000000)) = true) (h2 : l.length ≤ 1000) (hx : tzl l = xs) : Cal Tryz.prog 39 #[v] [slp 1 encZ v l] true (G := Value) (fun r => True) (fun r => r) (fun r => [slp 2 wv r xs]) := by
  subst hx; exact law_p v l (inI_all h1) h2
end Go.Sky
namespace Go.Sky
open Go.Proofs
set_option maxRecDepth 20000
set_option maxHeartbeats 4000000
set_option linter.unusedVariables false
set_option linter.unusedSimpArgs false
set_option maxHeartbeats 4000000 in
theorem law_known  : Cal Tryz.prog 11 #[] [] false (G := Unit) (fun _ => True) (fun _ => .bool true) (fun _ => []) := by
 refine Ya Tryz.func11 J Tryz.ntmps11 J trivial ?_
 intro w0 sc hw hsc
 simp only [Zp, Zo]
 refine Yh (Xy 999 2 28 wv) <|Yh (Xk 999 J J pV) <|Zb <|Zd <|Zl J J <|Zc <|Za <|Zb <|Zd <|tt (Xm (i := 1) (ivs := [(0, _), (1, _), (2, _)]) (enc := encZ) ([1, 2, 1] : List Int) J J J K6 uT37 Tryz.ti3 J J J J J J pZ.cells J J hw) J fun v _ => Xj (Xk 1 J J pZ) <|tt (Zg (n := 2) (k_p _ [1, 2, 1] [1, 2, 1] (by decide +kernel) (by decide) (by decide +kernel)) J J J K1 cF39 (Zf 1 J J J Ze) J hw) J fun v_2 _ => tt (Zg (n := 3) (k_sq1 _) J J J K1 cF19 (Zf 2 J J J Ze) J hw) J fun _ _ => mv J J <|dt (Zw J J J) J <|dt (Zw J J J) J <|Zl J J <|Zl J J <|Zc <|Za <|Zb <|Zd <|tt (Xm (i := 4) (ivs := [(0, _), (1, _), (2, _)]) (enc := encZ) ([0, 0, -6] : List Int) J J J K6 uT37 Tryz.ti3 J J J J J J pZ.cells J J hw) J fun v_3 _ => Xj (Xk 4 J J pZ) <|tt (Zg (n := 5) (k_p _ [0, 0, -6] [0, 0, -6] (by decide +kernel) (by decide) (by decide +kernel)) J J J K1 cF39 (Zf 4 J J J Ze) J hw) J fun v_4 _ => tt (Zg (n := 6) (k_sq2 _) J J J K1 cF19 (Zf 5 J J J Ze) J hw) J fun _ _ => mv J J <|dt (Zw J J J) J <|dt (Zw J J J) J <|Zl J J <|Zl J J <|Zc <|Za <|Zb <|Zd ?_
 refine tt (Xm (i := 7) (ivs := [(0, _)]) (enc := encZ) ([5] : List Int) J J J K2 uT37 Tryz.ti3 J J J J J J pZ.cells J J hw) J fun v_5 _ => Xj (Xk 7 J J pZ) <|tt (Zg (n := 8) (k_p _ [5] [5] (by decide +kernel) (by decide) (by decide +kernel)) J J J K1 cF39 (Zf 7 J J J Ze) J hw) J fun v_6 _ => tt (Zg (n := 9) (k_sq3 _) J J J K1 cF19 (Zf 8 J J J Ze) J hw) J fun _ _ => mv J J <|dt (Zw J J J) J <|dt (Zw J J J) J <|Zl J J <|Zl J J <|Zc <|Za <|Zb <|Zb <|Zd <|mv J J <|tt (Xm (i := 10) (ivs := [(0, _), (1, _)]) (enc := encZ) ([1, 1] : List Int) J J J K4 uT37 Tryz.ti3 J J J J J J pZ.cells J J hw) J fun v_7 _ => Xj (Xk 10 J J pZ) <|tt (Zg (n := 11) (k_p _ [1, 1] [1, 1] (by decide +kernel) (by decide) (by decide +kernel)) J J J K1 cF39 (Zf 10 J J J Ze) J hw) J fun v_8 _ => tt (Zg (n := 11) (r_same_ii _ _ _ _) J J J K2 cF24 (Zf 3 J J J (Zf 11 J J J Ze)) J hw) J fun _ _ => dt (Zz (r' := .bool false) (d_not J J) (congrArg Value.bool (by first | decide | (simp only [hk0, hk1, hk2, hk3]; decide)))) J <|mv J J <|Yj (Zv J J) J J J J <|Yj (Zz (r' := .bool false) (Ys J J J) (congrArg Value.bool (by first | decide | (simp only [hkl, hkm]; decide)))) J J J J <|dt (Zs J J J) J <|mv J J ?_
 refine Yj (Zv J J) J J J J <|gtt (Xm (i := 12) (ivs := [(0, _), (1, _)]) (enc := encZ) ([0, 1] : List Int) J J J K4 uT37 Tryz.ti3 J J J J J J pZ.cells J J hw) J J J J fun v_9 _ => Xj (Xk 12 J J pZ) <|gtt (Zg (n := 13) (k_p _ [0, 1] [0, 1] (by decide +kernel) (by decide) (by decide +kernel)) J J J K1 cF39 (Zf 12 J J J Ze) J hw) J J J J fun v_10 _ => gtt (Zg (n := 13) (r_same_ii _ _ _ _) J J J K2 cF24 (Zf 6 J J J (Zf 13 J J J Ze)) J hw) J J J J fun _ _ => Yj (Zz (r' := .bool false) (d_not J J) (congrArg Value.bool (by first | decide | (simp only [hk0, hk1, hk2, hk3]; decide)))) J J J J <|dt (Zs J J J) J <|mv J J <|Yj (Zv J J) J J J J <|Yj (Zz (r' := .bool false) (Ys J J J) (congrArg Value.bool (by first | decide | (simp only [hkl, hkm]; decide)))) J J J J <|dt (Zs J J J) J <|mv J J <|Yj (Zv J J) J J J J <|gtt (Xm (i := 14) (ivs := [(0, _)]) (enc := encZ) ([1] : List Int) J J J K2 uT37 Tryz.ti3 J J J J J J pZ.cells J J hw) J J J J fun v_11 _ => Xj (Xk 14 J J pZ) <|gtt (Zg (n := 15) (k_p _ [1] [1] (by decide +kernel) (by decide) (by decide +kernel)) J J J K1 cF39 (Zf 14 J J J Ze) J hw) J J J J (fun v_12 _ => ?_)
 refine gtt (Zg (n := 15) (r_same_ii _ _ _ _) J J J K2 cF24 (Zf 9 J J J (Zf 15 J J J Ze)) J hw) J J J J fun _ _ => Yj (Zz (r' := .bool false) (d_not J J) (congrArg Value.bool (by first | decide | (simp only [hk0, hk1, hk2, hk3]; decide)))) J J J J <|dt (Zs J J J) J <|mv J J <|Yj (Zv J J) J J J J <|Yj (Zz (r' := .bool false) (Ys J J J) (congrArg Value.bool (by first | decide | (simp only [hkl, hkm]; decide)))) J J J J <|dt (Zs J J J) J <|Zc <|Za <|Yd J <|Zk <|Za <|Zb <|Zd <|tt (Xm (i := 16) (ivs := [(0, _), (1, _), (2, _)]) (enc := encZ) ([-2, 0, 1] : List Int) J J J K6 uT37 Tryz.ti3 J J J J J J pZ.cells J J hw) J fun v_13 _ => Xj (Xk 16 J J pZ) <|tt (Zg (n := 17) (k_p _ [-2, 0, 1] [-2, 0, 1] (by decide +kernel) (by decide) (by decide +kernel)) J J J K1 cF39 (Zf 16 J J J Ze) J hw) J fun v_14 _ => tt (Zg (n := 18) (k_ch1 _) J J J K1 cF20 (Zf 17 J J J Ze) J hw) J fun g hg => mv J J <|dt (Zw J J J) J <|dt (Zw J J J) J <|Zl J J <|Zl J J <|Zc <|Za <|Zb <|Zd <|tt (Xm (i := 19) (ivs := [(0, _)]) (enc := encZ) ([-4] : List Int) J J J K2 uT37 Tryz.ti3 J J J J J J pZ.cells J J hw) J fun v_15 _ => Xj (Xk 19 J J pZ) ?_
 refine tt (Zg (n := 20) (k_p _ [-4] [-4] (by decide +kernel) (by decide) (by decide +kernel)) J J J K1 cF39 (Zf 19 J J J Ze) J hw) J fun v_16 _ => tt (Zg (n := 21) (k_ch2 _) J J J K1 cF20 (Zf 20 J J J Ze) J hw) J fun g_2 hg_2 => mv J J <|dt (Zw J J J) J <|dt (Zw J J J) J <|Zl J J <|Zl J J <|Zc <|Za <|Zb <|Zb ?_
 have hkl := snd_len hg
 have hkm := snd_len hg_2
 simp only [List.length_cons, List.length_nil] at hkl hkm
 have hk0 := snd_getD hg 0
 refine Yh (s_deep 18 92 (g.2.getD 0 Z0) J J (getD_mem (by omega)) J) ?_
 have hk1 := snd_getD hg 1
 refine Yh (s_deep 18 93 (g.2.getD 1 Z0) J J (getD_mem (by omega)) J) ?_
 have hk2 := snd_getD hg 2
 refine Yh (s_deep 18 94 (g.2.getD 2 Z0) J J (getD_mem (by omega)) J) ?_
 have hk3 := snd_getD hg_2 0
 refine Yh (s_deep 21 95 (g_2.2.getD 0 Z0) J J (getD_mem (by omega)) J) <|e_drega (fun _ => False) [] (by kernel_rfl) <|Yu (n := 44) [(0, 0), (1, 0), (2, 0), (3, 0), (4, 0), (5, 0), (6, 0), (7, 1)] (by kernel_rfl) <|r0' J J J J (st0 (Zv J J)) <|r0' J J J J (st0 (Zy J J (i := 18) J Yx uT44)) <|r0' J J J J (st0 (Zz (r' := .bool false) (Ys J J J) (congrArg Value.bool (by first | decide | (simp only [hkl, hkm]; decide))))) <|r0' J J J J (st0 (Zv J J)) <|r0g (st0 (Zv J J)) J J J J J J J <|r0g (st0 (Yf (ii := 18) J J J J Yx uT44 zT23 J (by first | omega | (simp only [List.length_set]; omega)))) J J J J J J J <|r0g (st0 (Yn (ii := 18) Z0 J J J Yx pS (by first | omega | (simp only [List.length_set]; omega)))) J J J J J J J <|r1g' J J J J J (Xm (i := 22) (ivs := [(0, _), (1, _), (2, _)]) (enc := encZ) ([-2, 0, 1] : List Int) J J J K6 uT37 Tryz.ti3 J J J J J J pZ.cells J J hw) fun v_17 _ => Xh <|a_imp (Xk 22 J J pZ) <|Yu (n := 35) [(8, 1), (9, 1), (10, 0), (11, 0), (12, 0), (13, 0), (14, 0), (15, 0), (16, 1)] (by kernel_rfl) <|r1g' J J J J J (Zg (n := 23) (k_p _ [-2, 0, 1] [-2, 0, 1] (by decide +kernel) (by decide) (by decide +kernel)) J J J K1 cF39 (Zf 22 J J J Ze) J hw) (fun v_18 _ => ?_)
 refine r1g' J J J J J (Zg (n := 23) (r_same_ii _ _ _ _) J J J K2 cF24 (Zf 92 J J J (Zf 23 J J J Ze)) J hw) fun _ _ => r0g (st0 (Zz (r' := .bool false) (d_not J J) (congrArg Value.bool (by first | decide | (simp only [hk0, hk1, hk2, hk3]; decide))))) J J J J J J J <|r0' J J J J (st0 (Zs J J J)) <|r0' J J J J (st0 (Zv J J)) <|r0g (st0 (Zv J J)) J J J J J J J <|r0g (st0 (Yf (ii := 18) J J J J Yx uT44 zT23 J (by first | omega | (simp only [List.length_set]; omega)))) J J J J J J J <|r0g (st0 (Yn (ii := 18) Z0 J J J Yx pS (by first | omega | (simp only [List.length_set]; omega)))) J J J J J J J <|r1g' J J J J J (Xm (i := 24) (ivs := [(0, _), (1, _)]) (enc := encZ) ([0, 1] : List Int) J J J K4 uT37 Tryz.ti3 J J J J J J pZ.cells J J hw) fun v_19 _ => Xh <|a_imp (Xk 24 J J pZ) <|Yu (n := 26) [(17, 1), (18, 1), (19, 0), (20, 0), (21, 0), (22, 0), (23, 0), (24, 0), (25, 1)] (by kernel_rfl) <|r1g' J J J J J (Zg (n := 25) (k_p _ [0, 1] [0, 1] (by decide +kernel) (by decide) (by decide +kernel)) J J J K1 cF39 (Zf 24 J J J Ze) J hw) fun v_20 _ => r1g' J J J J J (Zg (n := 25) (r_same_ii _ _ _ _) J J J K2 cF24 (Zf 93 J J J (Zf 25 J J J Ze)) J hw) (fun _ _ => ?_)
 refine r0g (st0 (Zz (r' := .bool false) (d_not J J) (congrArg Value.bool (by first | decide | (simp only [hk0, hk1, hk2, hk3]; decide))))) J J J J J J J <|r0' J J J J (st0 (Zs J J J)) <|r0' J J J J (st0 (Zv J J)) <|r0g (st0 (Zv J J)) J J J J J J J <|r0g (st0 (Yf (ii := 18) J J J J Yx uT44 zT23 J (by first | omega | (simp only [List.length_set]; omega)))) J J J J J J J <|r0g (st0 (Yn (ii := 18) Z0 J J J Yx pS (by first | omega | (simp only [List.length_set]; omega)))) J J J J J J J <|r1g' J J J J J (Xm (i := 26) (ivs := [(0, _)]) (enc := encZ) ([1] : List Int) J J J K2 uT37 Tryz.ti3 J J J J J J pZ.cells J J hw) fun v_21 _ => Xh <|a_imp (Xk 26 J J pZ) <|Yu (n := 8) [(26, 1), (27, 1), (28, 0), (29, 0), (30, 0), (31, 0), (32, 0), (33, 0), (34, 0), (35, 0), (36, 0), (37, 0), (38, 0), (39, 0), (40, 0), (41, 0), (42, 0), (43, 1)] (by kernel_rfl) <|r1g' J J J J J (Zg (n := 27) (k_p _ [1] [1] (by decide +kernel) (by decide) (by decide +kernel)) J J J K1 cF39 (Zf 26 J J J Ze) J hw) fun v_22 _ => r1g' J J J J J (Zg (n := 27) (r_same_ii _ _ _ _) J J J K2 cF24 (Zf 94 J J J (Zf 27 J J J Ze)) J hw) fun _ _ => r0g (st0 (Zz (r' := .bool false) (d_not J J) (congrArg Value.bool (by first | decide | (simp only [hk0, hk1, hk2, hk3]; decide))))) J J J J J J J ?_
 refine r0' J J J J (st0 (Zs J J J)) <|r0' J J J J (st0 (Zv J J)) <|r0g (st0 (Zv J J)) J J J J J J J <|r0g (st0 (Zz (r' := .bool false) (Ys J J J) (congrArg Value.bool (by first | decide | (simp only [hkl, hkm]; decide))))) J J J J J J J <|r0' J J J J (st0 (Zs J J J)) <|r0' J J J J (st0 (Zv J J)) <|r0g (st0 (Zv J J)) J J J J J J J <|r0g (st0 (Zy J J (i := 21) J Yx uT44)) J J J J J J J <|r0g (st0 (Zz (r' := .bool false) (Ys J J J) (congrArg Value.bool (by first | decide | (simp only [hkl, hkm]; decide))))) J J J J J J J <|r0' J J J J (st0 (Zs J J J)) <|r0' J J J J (st0 (Zv J J)) <|r0g (st0 (Zv J J)) J J J J J J J <|r0g (st0 (Yf (ii := 21) J J J J Yx uT44 zT23 J (by first | omega | (simp only [List.length_set]; omega)))) J J J J J J J <|r0g (st0 (Yn (ii := 21) Z0 J J J Yx pS (by first | omega | (simp only [List.length_set]; omega)))) J J J J J J J <|r1g' J J J J J (Xm (i := 28) (ivs := [(0, _)]) (enc := encZ) ([1] : List Int) J J J K2 uT37 Tryz.ti3 J J J J J J pZ.cells J J hw) fun v_23 _ => Xh <|a_imp (Xk 28 J J pZ) <|Yu (n := 0) [(44, 1), (45, 1), (46, 0), (47, 0), (48, 0), (49, 0), (50, 0), (51, 0)] (by kernel_rfl) ?_
 refine r1g' J J J J J (Zg (n := 29) (k_p _ [1] [1] (by decide +kernel) (by decide) (by decide +kernel)) J J J K1 cF39 (Zf 28 J J J Ze) J hw) fun v_24 _ => r1g' J J J J J (Zg (n := 29) (r_same_ii _ _ _ _) J J J K2 cF24 (Zf 95 J J J (Zf 29 J J J Ze)) J hw) fun _ _ => r0g (st0 (Zz (r' := .bool false) (d_not J J) (congrArg Value.bool (by first | decide | (simp only [hk0, hk1, hk2, hk3]; decide))))) J J J J J J J <|r0' J J J J (st0 (Zs J J J)) <|r0' J J J J (st0 (Zv J J)) <|r0g (st0 (Zv J J)) J J J J J J J <|r0g (st0 (Zz (r' := .bool false) (Ys J J J) (congrArg Value.bool (by first | decide | (simp only [hkl, hkm]; decide))))) J J J J J J J <|r0' J J J J (st0 (Zs J J J)) <|Xh <|Xg (by kernel_rfl) <|Za <|Yd J <|Zk <|Za <|Zb <|Zd <|tt (Xm (i := 30) (ivs := [(0, _), (1, _), (2, _)]) (enc := encZ) ([-2, 0, 1] : List Int) J J J K6 uT37 Tryz.ti3 J J J J J J pZ.cells J J hw) J fun v_25 _ => Xj (Xk 30 J J pZ) <|tt (Zg (n := 31) (k_p _ [-2, 0, 1] [-2, 0, 1] (by decide +kernel) (by decide) (by decide +kernel)) J J J K1 cF39 (Zf 30 J J J Ze) J hw) J fun v_26 _ => tt (Zg (n := 31) (law_q _ _ ⟨by decide, by decide⟩ ⟨by decide, by decide⟩) J J J K2 cF22 Ze J hw) J (fun _ _ => ?_)
 refine tt (Zg (n := 31) (law_q _ _ ⟨by decide, by decide⟩ ⟨by decide, by decide⟩) J J J K2 cF22 Ze J hw) J fun _ _ => tt (Zg (n := 31) (k_cnt1 _) J J J K3 cF28 (Zf 31 J J J Ze) J hw) J fun _ _ => mv J J <|dt (Zw J J J) J <|dt (Zw J J J) J <|Zl J J <|Zl J J <|Zc <|Za <|Zb <|Zd <|tt (Xm (i := 32) (ivs := [(0, _), (1, _), (2, _)]) (enc := encZ) ([-2, 0, 1] : List Int) J J J K6 uT37 Tryz.ti3 J J J J J J pZ.cells J J hw) J fun v_27 _ => Xj (Xk 32 J J pZ) <|tt (Zg (n := 33) (k_p _ [-2, 0, 1] [-2, 0, 1] (by decide +kernel) (by decide) (by decide +kernel)) J J J K1 cF39 (Zf 32 J J J Ze) J hw) J fun v_28 _ => tt (Zg (n := 33) (law_q _ _ ⟨by decide, by decide⟩ ⟨by decide, by decide⟩) J J J K2 cF22 Ze J hw) J fun _ _ => tt (Zg (n := 33) (law_q _ _ ⟨by decide, by decide⟩ ⟨by decide, by decide⟩) J J J K2 cF22 Ze J hw) J fun _ _ => tt (Zg (n := 33) (k_cnt2 _) J J J K3 cF28 (Zf 33 J J J Ze) J hw) J fun _ _ => mv J J <|dt (Zw J J J) J <|dt (Zw J J J) J <|Zl J J <|Zl J J <|Zc <|Za <|Zb <|Zd <|tt (Xm (i := 34) (ivs := [(0, _), (1, _)]) (enc := encZ) ([0, 1] : List Int) J J J K4 uT37 Tryz.ti3 J J J J J J pZ.cells J J hw) J (fun v_29 _ => ?_)
 refine Xj (Xk 34 J J pZ) <|tt (Zg (n := 35) (k_p _ [0, 1] [0, 1] (by decide +kernel) (by decide) (by decide +kernel)) J J J K1 cF39 (Zf 34 J J J Ze) J hw) J fun v_30 _ => tt (Zg (n := 35) (law_q _ _ ⟨by decide, by decide⟩ ⟨by decide, by decide⟩) J J J K2 cF22 Ze J hw) J fun _ _ => tt (Zg (n := 35) (law_q _ _ ⟨by decide, by decide⟩ ⟨by decide, by decide⟩) J J J K2 cF22 Ze J hw) J fun _ _ => tt (Zg (n := 35) (k_cnt3 _) J J J K3 cF28 (Zf 35 J J J Ze) J hw) J fun _ _ => mv J J <|dt (Zw J J J) J <|dt (Zw J J J) J <|Zl J J <|Zl J J <|Zc <|Za <|Zb <|Zd <|tt (Xm (i := 36) (ivs := [(0, _), (1, _)]) (enc := encZ) ([0, 1] : List Int) J J J K4 uT37 Tryz.ti3 J J J J J J pZ.cells J J hw) J fun v_31 _ => Xj (Xk 36 J J pZ) <|tt (Zg (n := 37) (k_p _ [0, 1] [0, 1] (by decide +kernel) (by decide) (by decide +kernel)) J J J K1 cF39 (Zf 36 J J J Ze) J hw) J fun v_32 _ => tt (Zg (n := 37) (law_q _ _ ⟨by decide, by decide⟩ ⟨by decide, by decide⟩) J J J K2 cF22 Ze J hw) J fun _ _ => tt (Zg (n := 37) (law_q _ _ ⟨by decide, by decide⟩ ⟨by decide, by decide⟩) J J J K2 cF22 Ze J hw) J (fun _ _ => ?_)
 refine tt (Zg (n := 37) (k_cnt4 _) J J J K3 cF28 (Zf 37 J J J Ze) J hw) J fun _ _ => mv J J <|dt (Zw J J J) J <|dt (Zw J J J) J <|Zl J J <|Zl J J <|Zc <|Za <|Zb <|Zb <|Zd <|mv J J <|dt (Zz (r' := .bool false) (Ys J J J) (congrArg Value.bool (by first | decide | (simp only [hkl, hkm]; decide)))) J <|mv J J <|Yj (Zv J J) J J J J <|Yj (Zz (r' := .bool false) (Ys J J J) (congrArg Value.bool (by first | decide | (simp only [hkl, hkm]; decide)))) J J J J <|dt (Zs J J J) J <|mv J J <|Yj (Zv J J) J J J J <|Yj (Zz (r' := .bool false) (Ys J J J) (congrArg Value.bool (by first | decide | (simp only [hkl, hkm]; decide)))) J J J J <|dt (Zs J J J) J <|mv J J <|Yj (Zv J J) J J J J <|Yj (Zz (r' := .bool false) (Ys J J J) (congrArg Value.bool (by first | decide | (simp only [hkl, hkm]; decide)))) J J J J <|dt (Zs J J J) J <|mv J J <|Yj (Zv J J) J J J J <|Yj (Zz (r' := .bool false) (Ys J J J) (congrArg Value.bool (by first | decide | (simp only [hkl, hkm]; decide)))) J J J J <|dt (Zs J J J) J <|mv J J <|Yj (Zv J J) J J J J <|Yj (Zz (r' := .bool false) (Ys J J J) (congrArg Value.bool (by first | decide | (simp only [hkl, hkm]; decide)))) J J J J <|dt (Zs J J J) J <|mv J J <|Yj (Zv J J) J J J J ?_
 refine Yj (Zz (r' := .bool false) (Ys J J J) (congrArg Value.bool (by first | decide | (simp only [hkl, hkm]; decide)))) J J J J <|dt (Zs J J J) J <|mv J J <|Yj (Zv J J) J J J J <|Yj (Zz (r' := .bool false) (Ys J J J) (congrArg Value.bool (by first | decide | (simp only [hkl, hkm]; decide)))) J J J J <|dt (Zs J J J) J <|Zc <|Za <|Yd J <|Zk <|Za <|Zb <|Zd <|tt (Xm (i := 38) (ivs := [(0, _), (1, _), (2, _)]) (enc := encZ) ([1, 0, 1] : List Int) J J J K6 uT37 Tryz.ti3 J J J J J J pZ.cells J J hw) J fun v_33 _ => Xj (Xk 38 J J pZ) <|tt (Zg (n := 39) (k_p _ [1, 0, 1] [1, 0, 1] (by decide +kernel) (by decide) (by decide +kernel)) J J J K1 cF39 (Zf 38 J J J Ze) J hw) J fun v_34 _ => tt (Zg (n := 39) (k_tot1 _) J J J K1 cF29 (Zf 39 J J J Ze) J hw) J fun _ _ => mv J J <|dt (Zw J J J) J <|dt (Zw J J J) J <|Zl J J <|Zl J J <|Zc <|Za <|Zb <|Zd <|tt (Xm (i := 40) (ivs := [(0, _), (1, _), (2, _), (3, _)]) (enc := encZ) ([0, -1, 0, 1] : List Int) J J J K8 uT37 Tryz.ti3 J J J J J J pZ.cells J J hw) J fun v_35 _ => Xj (Xk 40 J J pZ) ?_
 refine tt (Zg (n := 41) (k_p _ [0, -1, 0, 1] [0, -1, 0, 1] (by decide +kernel) (by decide) (by decide +kernel)) J J J K1 cF39 (Zf 40 J J J Ze) J hw) J fun v_36 _ => tt (Zg (n := 41) (k_tot2 _) J J J K1 cF29 (Zf 41 J J J Ze) J hw) J fun _ _ => mv J J <|dt (Zw J J J) J <|dt (Zw J J J) J <|Zl J J <|Zl J J <|Zc <|Za <|Zb <|Zd <|tt (Xm (i := 42) (ivs := [(0, _), (1, _), (2, _)]) (enc := encZ) ([-2, 0, 1] : List Int) J J J K6 uT37 Tryz.ti3 J J J J J J pZ.cells J J hw) J fun v_37 _ => Xj (Xk 42 J J pZ) <|tt (Zg (n := 43) (k_p _ [-2, 0, 1] [-2, 0, 1] (by decide +kernel) (by decide) (by decide +kernel)) J J J K1 cF39 (Zf 42 J J J Ze) J hw) J fun v_38 _ => tt (Zg (n := 43) (k_bd1 _) J J J K1 cF12 (Zf 43 J J J Ze) J hw) J fun _ _ => mv J J <|dt (Zw J J J) J <|dt (Zw J J J) J <|tt (Zx (i := 44) J J J Tryz.zeroValue28 J J hw) J fun bx _ => tt (Zu (i := 44) J J J J J (by decide) J zT28 J J ⟨(Zh J), (Zh J), trivial⟩ J hw trivial) J fun _ _ => Zl J J <|Zc <|Za <|Zb <|Zd <|tt (Xm (i := 45) (ivs := [(0, _)]) (enc := encZ) ([3] : List Int) J J J K2 uT37 Tryz.ti3 J J J J J J pZ.cells J J hw) J fun v_39 _ => Xj (Xk 45 J J pZ) ?_
 refine tt (Zg (n := 46) (k_p _ [3] [3] (by decide +kernel) (by decide) (by decide +kernel)) J J J K1 cF39 (Zf 45 J J J Ze) J hw) J fun v_40 _ => tt (Zg (n := 46) (k_bd2 _) J J J K1 cF12 (Zf 46 J J J Ze) J hw) J fun _ _ => mv J J <|dt (Zw J J J) J <|dt (Zw J J J) J <|tt (Zx (i := 47) J J J Tryz.zeroValue28 J J hw) J fun bx_2 _ => tt (Zu (i := 47) J J J J J (by decide) J zT28 J J ⟨(Zh J), (Zh J), trivial⟩ J hw trivial) J fun _ _ => Zl J J <|Zc <|Za <|Zb <|Zb <|Xa (fun _ => False) [(0, 0), (1, 0), (2, 0), (3, 0), (4, 0), (5, 0), (6, 0), (7, 0), (8, 0), (9, 0), (10, 0), (11, 0), (12, 0), (13, 0), (14, 0), (15, 0), (16, 1), (17, 0), (18, 0), (19, 0), (20, 0), (21, 0), (22, 0), (23, 0), (24, 0), (25, 1), (26, 0), (27, 0), (28, 0), (29, 0), (30, 0), (31, 0)] (by kernel_rfl) ?_ ?_
 ·kernel_rfl
 refine r0' J J J J (st0 (Zv J J)) <|r0' J J J J (st0 (Zz (r' := .bool false) (Ys J J J) (congrArg Value.bool (by first | decide | (simp only [hkl, hkm]; decide))))) <|r0' J J J J (st0 (Zv J J)) <|r0g (st0 (Zv J J)) J J J J J J J <|r0g (st0 (Zz (r' := .bool false) (Ys J J J) (congrArg Value.bool (by first | decide | (simp only [hkl, hkm]; decide))))) J J J J J J J <|r0' J J J J (st0 (Zs J J J)) <|r0' J J J J (st0 (Zv J J)) <|r0g (st0 (Zv J J)) J J J J J J J <|r0g (st0 (Zz (r' := .bool false) (Ys J J J) (congrArg Value.bool (by first | decide | (simp only [hkl, hkm]; decide))))) J J J J J J J <|r0' J J J J (st0 (Zs J J J)) <|r0' J J J J (st0 (Zv J J)) <|r0g (st0 (Zv J J)) J J J J J J J <|r0g (st0 (Zz (r' := .bool false) (Ys J J J) (congrArg Value.bool (by first | decide | (simp only [hkl, hkm]; decide))))) J J J J J J J <|r0' J J J J (st0 (Zs J J J)) <|r0' J J J J (st0 (Zv J J)) <|r0g (st0 (Yc (i := 44) J J J iA28 zT28 J J)) J J J J J J J <|r1g' J J J J J (Zg (n := 47) (law_w _ ⟨by decide, by decide⟩) J J J K1 cF38 Ze J hw) fun _ _ => r0g (st0 (Zz (r' := .bool false) (d_eqg J J J eg28 (fun w => neq28 w _ _ _ _)) (congrArg Value.bool (by simp [eqW_refl])))) J J J J J J J <|r0' J J J J (st0 (Zs J J J)) <|r0' J J J J (st0 (Zv J J)) <|r0g (st0 (Zv J J)) J J J J J J J ?_
 refine r0g (st0 (Zz (r' := .bool false) (Ys J J J) (congrArg Value.bool (by first | decide | (simp only [hkl, hkm]; decide))))) J J J J J J J <|r0' J J J J (st0 (Zs J J J)) <|r0' J J J J (st0 (Zv J J)) <|r0g (st0 (Yc (i := 47) J J J iA28 zT28 J J)) J J J J J J J <|r1g' J J J J J (Zg (n := 47) (law_w _ ⟨by decide, by decide⟩) J J J K1 cF38 Ze J hw) fun _ _ => r0g (st0 (Zz (r' := .bool false) (d_eqg J J J eg28 (fun w => neq28 w _ _ _ _)) (congrArg Value.bool (by simp [eqW_refl])))) J J J J J J J <|r0' J J J J (st0 (Zs J J J)) <|r0' J J J J (st0 (Zv J J)) <|r0g (st0 (Zv J J)) J J J J J J J <|r0g (st0 (Zz (r' := .bool false) (Ys J J J) (congrArg Value.bool (by first | decide | (simp only [hkl, hkm]; decide))))) J J J J J J J <|r0' J J J J (st0 (Zs J J J)) <|Xn <|Za <|Yd J <|Zk <|Za <|Zb <|Zd <|tt (Xm (i := 48) (ivs := [(0, _), (1, _), (2, _)]) (enc := encZ) ([-2, 0, 1] : List Int) J J J K6 uT37 Tryz.ti3 J J J J J J pZ.cells J J hw) J fun v_41 _ => Xj (Xk 48 J J pZ) <|tt (Zg (n := 49) (k_p _ [-2, 0, 1] [-2, 0, 1] (by decide +kernel) (by decide) (by decide +kernel)) J J J K1 cF39 (Zf 48 J J J Ze) J hw) J (fun v_42 _ => ?_)
 refine tt (Zg (n := 49) (law_q _ _ ⟨by decide, by decide⟩ ⟨by decide, by decide⟩) J J J K2 cF22 Ze J hw) J fun _ _ => tt (Zg (n := 49) (law_q _ _ ⟨by decide, by decide⟩ ⟨by decide, by decide⟩) J J J K2 cF22 Ze J hw) J fun _ _ => tt (Zg (n := 50) (k_is1 _) J J J K4 cF35 (Zf 49 J J J Ze) J hw) J fun _ _ => mv J J <|dt (Zw J J J) J <|dt (Zw J J J) J <|Zl J J <|Zl J J <|Zc <|Za <|Zb <|Zd <|tt (Xm (i := 51) (ivs := [(0, _), (1, _), (2, _)]) (enc := encZ) ([1, -2, 1] : List Int) J J J K6 uT37 Tryz.ti3 J J J J J J pZ.cells J J hw) J fun v_43 _ => Xj (Xk 51 J J pZ) <|tt (Zg (n := 52) (k_p _ [1, -2, 1] [1, -2, 1] (by decide +kernel) (by decide) (by decide +kernel)) J J J K1 cF39 (Zf 51 J J J Ze) J hw) J fun v_44 _ => tt (Zg (n := 52) (law_q _ _ ⟨by decide, by decide⟩ ⟨by decide, by decide⟩) J J J K2 cF22 Ze J hw) J fun _ _ => tt (Zg (n := 52) (law_q _ _ ⟨by decide, by decide⟩ ⟨by decide, by decide⟩) J J J K2 cF22 Ze J hw) J fun _ _ => tt (Zg (n := 53) (k_is2 _) J J J K4 cF35 (Zf 52 J J J Ze) J hw) J fun _ _ => mv J J <|dt (Zw J J J) J <|dt (Zw J J J) J <|Zl J J <|Zl J J <|Zc <|Za <|Zb <|Zd ?_
 refine tt (Zg (n := 53) (law_q _ _ ⟨by decide, by decide⟩ ⟨by decide, by decide⟩) J J J K2 cF22 Ze J hw) J fun _ _ => tt (Zg (n := 53) (law_q _ _ ⟨by decide, by decide⟩ ⟨by decide, by decide⟩) J J J K2 cF22 Ze J hw) J fun _ _ => tt (Zg (n := 53) (k_cne1 _) J J J K3 cF28 (Zf 999 J J J Ze) J hw) J fun _ _ => mv J J <|dt (Zw J J J) J <|dt (Zw J J J) J <|Zl J J <|Zc <|Za <|Zb <|Zd <|tt (Xm (i := 54) (ivs := [(0, _), (1, _)]) (enc := encZ) ([1, 1] : List Int) J J J K4 uT37 Tryz.ti3 J J J J J J pZ.cells J J hw) J fun v_45 _ => Xj (Xk 54 J J pZ) <|tt (Zg (n := 55) (k_p _ [1, 1] [1, 1] (by decide +kernel) (by decide) (by decide +kernel)) J J J K1 cF39 (Zf 54 J J J Ze) J hw) J fun v_46 _ => tt (Zg (n := 55) (law_q _ _ ⟨by decide, by decide⟩ ⟨by decide, by decide⟩) J J J K2 cF22 Ze J hw) J fun _ _ => tt (Zg (n := 55) (law_q _ _ ⟨by decide, by decide⟩ ⟨by decide, by decide⟩) J J J K2 cF22 Ze J hw) J fun _ _ => tt (Zg (n := 55) (k_cne2 _) J J J K3 cF28 (Zf 55 J J J Ze) J hw) J fun _ _ => mv J J <|dt (Zw J J J) J <|dt (Zw J J J) J <|Zl J J <|Zc <|Za <|Zb <|Zd <|mv J J ?_
 refine tt (Xm (i := 56) (ivs := [(0, _), (1, _), (2, _), (3, _)]) (enc := encZ) ([-2, -1, 1, 2] : List Int) J J J K8 uT37 Tryz.ti3 J J J J J J pZ.cells J J hw) J fun v_47 _ => tt (Zg (n := 56) (law_same3 _ _ _ _ (inI_all (by decide +kernel)) (by decide) (by decide) (by decide +kernel)) J J J K2 cF50 (Zf 50 J J J (Xe 56 J J pZ Ze)) J hw) J fun _ _ => mv J J <|Yj (Zv J J) J J J J <|Yj (Zz (r' := .bool true) (Xu J J J) (congrArg Value.bool (by first | decide | (simp only [hkl, hkm]; decide)))) J J J J <|dt (Ym J J J) J <|mv J J <|Yj (Zv J J) J J J J <|gtt (Xm (i := 57) (ivs := [(0, _), (1, _)]) (enc := encZ) ([0, 4] : List Int) J J J K4 uT37 Tryz.ti3 J J J J J J pZ.cells J J hw) J J J J fun v_48 _ => gtt (Zg (n := 57) (law_same3 _ _ _ _ (inI_all (by decide +kernel)) (by decide) (by decide) (by decide +kernel)) J J J K2 cF50 (Zf 53 J J J (Xe 57 J J pZ Ze)) J hw) J J J J fun _ _ => dt (Ym J J J) J <|mv J J <|Yj (Zv J J) J J J J <|Yj (Zz (r' := .bool true) (Xu J J J) (congrArg Value.bool (by first | decide | (simp only [hkl, hkm]; decide)))) J J J J <|dt (Ym J J J) J <|mv J J <|Yj (Zv J J) J J J J ?_
 exact Yj (Zz (r' := .bool true) (Xu J J J) (congrArg Value.bool (by first | decide | (simp only [hkl, hkm]; decide)))) J J J J <|dt (Ym J J J) J <|mv J J <|Yj (Zv J J) J J J J <|Yj (Zz (r' := .bool true) (Xu J J J) (congrArg Value.bool (by first | decide | (simp only [hkl, hkm]; decide)))) J J J J <|dt (Ym J J J) J <|Zl J J <|Zc <|Za <|Zq <|Zr (.inl J) hsc () _ (fun a w hs => Yr hs Tryz.results11 J) J trivial J Zj
end Go.Sky
namespace Go.Sky
set_option linter.unusedVariables false
end Go.Sky
namespace Go.Sky
abbrev RWL := List (Bool × ByteArray)
def smallR (r : RWL) : Bool := decide (r.length ≤ 8) && r.all fun c => decide (c.2.size ≤ 6)
end Go.Sky
namespace Go.Sky
noncomputable def dec (r : RWL) : List Int := if h : okP r = true then (okP_ex h).choose else []
theorem dec_ok {r : RWL} (h : okP r = true) : Vp (dec r) ∧ r = (dec r).map wr := by
  unfold dec; rw [dif_pos h]; exact (okP_ex h).choose_spec
noncomputable def bdE (r : RWL) : Int := if okP r = true then chk0 (dec r) else 2
noncomputable def bdZ (r : RWL) : Int := if bdE r = 0 then sbound (dec r) else 0
theorem slp_dec {r : RWL} (h : okP r = true) (v : Value) (w : World) (hh : (slp 2 encW v r).holds w) : (slp 2 wv v (dec r)).holds w :=
  slp_wr' v (dec r) w ((dec_ok h).2 ▸ hh)
end Go.Sky
namespace Go.Sky
open Go.Proofs
set_option maxRecDepth 20000
set_option maxHeartbeats 4000000
set_option linter.unusedVariables false
set_option linter.unusedSimpArgs false
end Go.Sky
open Go.Proofs
namespace Go.Sky
end Go.Sky
namespace Go.Sky
set_option linter.unusedVariables false
end Go.Sky
namespace Go.Sky
end Go.Sky
namespace Go.Sky
set_option linter.unusedVariables false
abbrev qT (z : SL × List (Int × SL)) : Pc := pp (svv z.1) z.2
abbrev T0 : SL × List (Int × SL) := ((none, 0, 0), [])
abbrev intsT (zs : List (SL × List (Int × SL))) : List (List Int) := zs.map fun z => ints z.2
end Go.Sky
namespace Go.Sky
set_option linter.unusedVariables false
def firstE (r : RWL) (x y x2 y2 : Int) : Int := if okP r = true then (if r.length = 0 ∨ 0 < x * y2 - x2 * y then 3 else 0) else 2
theorem bl_pow256 {n : Nat} (k : Nat) (h : (bstr n).size ≤ k) : bl n ≤ 8 * k := by
  have h1 := bstr_size n
  have h2 := len256 n
  omega
end Go.Sky

