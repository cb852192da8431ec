/- rules, arithmetic and contracts: part 14
   Proved without conditions of its own: each theorem bears its own. -/
import Derived.Test.YtcegclhbeflgbaaGreatSl12
import Derived.Test.YtcegclhbeflgbaaGreatSl02
import Derived.Test.YtcegclhbeflgbaaGreatSl01
import Derived.Test.YtcegclhbeflgbaaGreatSl03
set_option linter.all false
namespace Go.Sky
open Go.Proofs
set_option linter.unusedVariables false
theorem st_split (bh bo bl bs : Nat) (vl : Value) (ls : List (SL × List Int)) (hv : Int) (hvz : ∀ z ∈ ls, Vp z.2) (hll : ls.length ≤ 1000) : ∀ (f : Nat) (vo : Value) (os : List (R2 × R2)) (a b : R2) (fr to : Int) (d : Nat) (ha : okQ a) (hb : okQ b) (hfr : -100000 ≤ fr ∧ fr ≤ 100000) (hto : -100000 ≤ to ∧ to ≤ 100000) (hok : ispOK (cvx ls) (evok ls) hv f a b fr to d) (hln : os.length + (isp (cvx ls) hv f a b fr to d).length ≤ 1000000), CalP Tryz.prog 85 #[iq (a, b), .int .i64 fr, .int .i64 to, .int .i64 (d : Int), .pointer (some ⟨bh, 0, none⟩), .pointer (some ⟨bo, 0, none⟩), .pointer (some ⟨bl, 0, none⟩), .pointer (some ⟨bs, 0, none⟩)] [rbox bh 3 #[.int .i64 hv], rbox bl 44 #[vl], deep 1 encS qZ vl ls, rbox bs 113 #[.func (.func 85) #[] #[.pointer (some ⟨bh, 0, none⟩), .pointer (some ⟨bo, 0, none⟩), .pointer (some ⟨bl, 0, none⟩), .pointer (some ⟨bs, 0, none⟩)]]] (gb bo 69 8 79 iq vo os) (G := Value) (fun _ => True) (fun _ => .int .i64 0) (fun g => gb bo 69 8 79 iq g (os ++ (isp (cvx ls) hv f a b fr to d)))
 | 0, vo, os, a, b, fr, to, d, ha, hb, hfr, hto, hok, hln => hok.elim
 | f + 1, vo, os, a, b, fr, to, d, ha, hb, hfr, hto, hok, hln => st_split_step bh bo bl bs vl ls hv hvz hll f (st_split bh bo bl bs vl ls hv hvz hll f) vo os a b fr to d ha hb hfr hto hok hln
end Go.Sky
namespace Go.Sky
open Go.Proofs
set_option maxRecDepth 20000
set_option maxHeartbeats 4000000
set_option linter.unusedVariables false
set_option linter.unusedSimpArgs false
theorem st_isolate (v : Value) (xs : List Int) (hv : Vp xs) (a b : R2) (hq : Int) (ha : okQ a) (hb : okQ b) (hh : 0 ≤ hq ∧ hq ≤ 200) (hk : chk2r xs a.1 a.2 b.1 b.2 = 0) (F : Nat) (hF : F ≤ 900) (f : Nat) (hI : isOK F xs f a b hq) : Cal Tryz.prog 35 #[v, .agg #[.bool (decide (a.1 < 0)), .string (bstr a.1.natAbs), .bool (decide (a.2 < 0)), .string (bstr a.2.natAbs)], .agg #[.bool (decide (b.1 < 0)), .string (bstr b.1.natAbs), .bool (decide (b.2 < 0)), .string (bstr b.2.natAbs)], .int .i64 hq] [slp 2 wv v xs] true (G := Value) (fun r => True) (fun r => .tuple #[r, .int .i64 0]) (fun r => [slp 8 iq r (sisol F xs f a b hq)]) := by
 refine Ye Tryz.func35 J Tryz.ntmps35 J K1 ?_
 intro w0 sc hw hsc
 simp only [Zq, Zo]
 obtain ⟨h0, hf⟩ := chk2_fits hk
 obtain ⟨hC, hE1, hE2, hR1, hR2, hI1, hI2⟩ := hI
 obtain ⟨hr11, hr12, hr13⟩ := nr_num hR1
 obtain ⟨hr21, hr22, hr23⟩ := nr_num hR2
 have hsl1 := slow_ok ha hR1
 have hsl2 := slow_ok hb hR2
 obtain ⟨ha1, ha2, ha3⟩ := ha
 obtain ⟨hb1, hb2, hb3⟩ := hb
 have hll := length_schain F (sqf F xs) (pprim (pder (sqf F xs)))
 have hcr1 := chg_range ((chn F xs).map (fat a.1 a.2))
 have hcr2 := chg_range ((chn F xs).map (fat b.1 b.2))
 rw [List.length_map] at hcr1 hcr2
 have hll2 : (chn F xs).length ≤ F + 1 := hll
 refine Yk (Qa 999 2 28 wv) <|Yk (Xa 999 J J pV) <|Zb <|Ze <|tt (Yy (i := 2) J J J J J J hw) J fun bx _ => tt (Yy (i := 3) J J J J J J hw) J fun bx_2 _ => tt (Yy (i := 4) J J J J J J hw) J fun bx_3 _ => Zm J J <|Zm J J <|Zd <|Za <|Zb <|Zb <|Ze <|dt (Xk (i := 4) J J J iA3 J) J <|dt (Zu (r' := .bool false) (Xj J J J) (congrArg Value.bool (decide_eq_false (by omega)))) J <|mv J J <|Yr (Xk (i := 4) J J J iA3 J) J J J J <|Yr (Zu (r' := .bool false) (Xv J J J) (congrArg Value.bool (decide_eq_false (by omega)))) J J J J <|dt (Yd J J J) J <|Zd <|Za <|Yc J <|Zk <|Za <|Zb <|Zb <|Ze <|mv J J <|dt (Xb (i := 2) J J J iA49 zT49 J J J J) J <|dt (Xb (i := 3) J J J iA49 zT49 J J J J) J <|tt (Xf (i := 5) (ivs := [(0, _), (1, _)]) (enc := rq) [(a.1, a.2), (b.1, b.2)] J J J K4 uT87 Tryz.ti49 J J J (fill24 _ _ _ _ _ _ _ _ _ _ _ _) J J pQ.cells J J hw) J fun v _ => tt (Zh (n := 5) (st_check2 _ _ hv _ _ _ _ _ ha1 ha2 hb1 hb2 ha3 hb3) J J J K2 cF51 (Zg 1 J J J (Xl 5 J J pQ Zf)) J hw) J fun _ _ => Zm J J <|Zd <|Za <|Zb <|Ze <|mv J J <|dt (Zu (r' := .bool false) (Ym J J J) (congrArg Value.bool (by rw [hk]; rfl))) J <|Zd <|Za <|Yc J <|Zk <|Za <|Zb <|Ze <|mv J J ?_
 refine tt (Zh (n := 6) (st_chain _ _ hv h0 hf F hC) J J J K1 cF20 (Zg 1 J J J Zf) J hw) J (fun g hg => ?_)
 have hgc := hg
 have hvz := mem_snd hgc (vp_chn hv h0 hC)
 have hcq := cvx_eq hgc
 have hlz : g.2.length ≤ 1000 := by have := congrArg List.length hgc; rw [List.length_map] at this; omega
 have hcv1 : -100000 ≤ cvx g.2 a ∧ cvx g.2 a ≤ 100000 := by rw [hcq]; unfold cvc cnt; omega
 have hcv2 : -100000 ≤ cvx g.2 b ∧ cvx g.2 b ≤ 100000 := by rw [hcq]; unfold cvc cnt; omega
 have hok : ispOK (cvx g.2) (evok g.2) hq f (slow a) (slow b) (cvx g.2 a) (cvx g.2 b) 0 := by rw [hcq, evok_eq hgc]; exact hI1
 have hln : ([] : List (R2 × R2)).length + (isp (cvx g.2) hq f (slow a) (slow b) (cvx g.2 a) (cvx g.2 b) 0).length ≤ 1000000 := by rw [hcq, List.length_nil, Nat.zero_add]; exact hI2
 refine mv J J <|dt (Zt J J J) J <|dt (Zt J J J) J <|tt (Zp (i := 7) J J J Tryz.zeroValue44 J J hw) J fun bx_4 _ => tt (t_st1 (i := 7) J J J J J (by decide) zT44 (Yf (i := 6) J Xc) J hw trivial) J fun _ _ => Zm J J <|Zd <|Za <|Zb <|Zb <|Ze <|mv J J <|dt (Zu (r' := .bool false) (Ym J J J) (congrArg Value.bool (by decide))) J <|Zd <|Za <|Yc J <|Zk <|Za <|Zb <|Ze <|tt (Zp (i := 8) J J J Tryz.zeroValue69 J J hw) J fun bx_5 _ => Zd <|Za <|Zb <|Ze <|tt (Zp (i := 9) J J J Tryz.zeroValue113 J J hw) J fun bx_6 _ => Zd <|Za <|Zb <|Ze <|dt (d_mkc (vs := []) (us := [_, _, _, _]) J trivial K4) J <|tt (Zl (i := 9) J J J J J (by decide) J zT113 J J ⟨(Zc J), trivial⟩ J hw trivial) J fun _ _ => Zd <|Za <|Zb <|Ze <|dt (Yu J J uT49 J zT28 J J) J <|dt (Yg (i := 2) J J J iA28 zT28 J J) J <|dt (Yu J J uT49 J zT28 J J) J <|dt (Yg (i := 2) J J J iA28 zT28 J J) J <|tt (Zh (n := 9) (wide_ratio _ _ ha1 ha2 (by omega)) J J J K2 cF87 Zf J hw) J fun _ _ => mv J J <|dt (Zt J J J) J <|dt (Zt J J J) J <|tt (Zp (i := 10) J J J Tryz.zeroValue49 J J hw) J fun bx_7 _ => tt (Zl (i := 10) J J J J J (by decide) J zT49 J J ⟨(Zc J), (Zc J), (Zc J), (Zc J), trivial⟩ J hw trivial) J fun _ _ => Zm J J <|Zd ?_
 refine Za <|Zb <|Zb <|Ze <|mv J J <|dt (Zu (r' := .bool false) (Ym J J J) (congrArg Value.bool (by rw [hr13]; rfl))) J <|Zd <|Za <|Yc J <|Zk <|Za <|Zb <|Ze <|dt (Yu J J uT49 J zT28 J J) J <|dt (Yg (i := 3) J J J iA28 zT28 J J) J <|dt (Yu J J uT49 J zT28 J J) J <|dt (Yg (i := 3) J J J iA28 zT28 J J) J <|tt (Zh (n := 10) (wide_ratio _ _ hb1 hb2 (by omega)) J J J K2 cF87 Zf J hw) J fun _ _ => mv J J <|dt (Zt J J J) J <|dt (Zt J J J) J <|tt (Zp (i := 11) J J J Tryz.zeroValue49 J J hw) J fun bx_8 _ => tt (Zl (i := 11) J J J J J (by decide) J zT49 J J ⟨(Zc J), (Zc J), (Zc J), (Zc J), trivial⟩ J hw trivial) J fun _ _ => Zm J J <|Zd <|Za <|Zb <|Zb <|Ze <|mv J J <|dt (Zu (r' := .bool false) (Ym J J J) (congrArg Value.bool (by rw [hr23]; rfl))) J <|Zd <|Za <|Yc J <|Zk <|Za <|Zb <|Ze <|dt (Xk (i := 7) J J J iA44 J) J <|dt (Xb (i := 2) J J J iA49 zT49 J J J J) J <|tt (Zh (n := 11) (st_at _ _ _ _ ha1 ha2 ha3 hvz (by rw [← evok_eq hgc] at hE1; exact hE1)) J J J K2 cF77 (Zg 6 J J J Zf) J hw) J fun _ _ => mv J J <|dt (Zt J J J) J <|dt (Zt J J J) J <|Zm J J <|Zm J J <|Zd <|Za <|Zb <|Zb <|Ze <|mv J J ?_
 refine dt (Zu (r' := .bool false) (Ym J J J) (congrArg Value.bool (by decide))) J <|Zd <|Za <|Yc J <|Zk <|Za <|Zb <|Ze <|dt (Xk (i := 7) J J J iA44 J) J <|dt (Xb (i := 3) J J J iA49 zT49 J J J J) J <|tt (Zh (n := 11) (st_at _ _ _ _ hb1 hb2 hb3 hvz (by rw [← evok_eq hgc] at hE2; exact hE2)) J J J K2 cF77 (Zg 6 J J J Zf) J hw) J fun _ _ => mv J J <|dt (Zt J J J) J <|dt (Zt J J J) J <|Zm J J <|Zm J J <|Zd <|Za <|Zb <|Zb <|Ze <|mv J J <|dt (Zu (r' := .bool false) (Ym J J J) (congrArg Value.bool (by decide))) J <|Zd <|Za <|Yc J <|Zk <|Za <|Zb <|Zb <|Ze <|dt (Xk (i := 9) J J J iA113 J) J <|dt (Xb (i := 10) J J J iA49 zT49 J J J J) J <|dt (Xb (i := 11) J J J iA49 zT49 J J J J) J <|dt (Xg (ivs := [(0, _), (1, _)]) J K4 (fun a w hs => b79_01)) J <|mv J J <|mv J J <|Xi (Qa 60 8 79 iq) <|Xi (Qp 8 60 J J J J J) <|tt (t_callp (i := 8) (fs := []) (vs := [_, _, _, _]) (us := [_, _, _, _]) (st_split _ _ _ _ _ _ hq hvz hlz f _ [] (slow a) (slow b) (cvx g.2 a) (cvx g.2 b) 0 hsl1 hsl2 hcv1 hcv2 hok hln) J J J J K4 cF85 J J (by decide) (pre_lendb 4 J J (pre_lendb 7 J J (Zg 6 J J J (pre_lendb 9 J J Zf)))) J hw (fun _ _ => trivial)) J fun vg _ => Xi (Qo 8 60 J J J) <|Zm J J <|Zd <|Za ?_
 exact Zb <|Ze <|mv J J <|dt (Zu (r' := .bool false) (Ym J J J) (congrArg Value.bool (by decide))) J <|Zd <|Za <|Yc J <|Zk <|Za <|Zb <|Ze <|dt (Xk (i := 8) J J J iA69 J) J <|Zm J J <|Zm J J <|Zd <|Za <|Zr <|Zx (.inl J) hsc _ _ (fun a w hs => Xn hs Tryz.results35 J J) J trivial J (Xs 60 J J pY (by rw [List.nil_append, hcq] <;> rfl) Zj)
end Go.Sky
namespace Go.Sky
set_option linter.unusedVariables false
end Go.Sky
namespace Go.Sky
abbrev RWL := List (Bool × ByteArray)
def smallR (r : RWL) : Bool := decide (r.length ≤ 8) && r.all fun c => decide (c.2.size ≤ 6)
end Go.Sky
namespace Go.Sky
noncomputable def dec (r : RWL) : List Int := if h : okP r = true then (okP_ex h).choose else []
noncomputable def bdE (r : RWL) : Int := if okP r = true then chk0 (dec r) else 2
noncomputable def bdZ (r : RWL) : Int := if bdE r = 0 then sbound (dec r) else 0
end Go.Sky
namespace Go.Sky
set_option linter.unusedVariables false
end Go.Sky
namespace Go.Sky
end Go.Sky
namespace Go.Sky
set_option linter.unusedVariables false
abbrev qT (z : SL × List (Int × SL)) : Pc := pp (svv z.1) z.2
abbrev T0 : SL × List (Int × SL) := ((none, 0, 0), [])
abbrev intsT (zs : List (SL × List (Int × SL))) : List (List Int) := zs.map fun z => ints z.2
end Go.Sky
namespace Go.Sky
set_option linter.unusedVariables false
def firstE (r : RWL) (x y x2 y2 : Int) : Int := if okP r = true then (if r.length = 0 ∨ 0 < x * y2 - x2 * y then 3 else 0) else 2
end Go.Sky
namespace Go.Sky
set_option linter.unusedVariables false
end Go.Sky
namespace Go.Sky
set_option linter.unusedVariables false
def chke : Nat → Nat → Nat → Nat → Nat → Bool
  | 0, la, _, A, _ => Nat.ble (A + la * 64) 65500
  | f + 1, la, lb, A, B => Nat.ble (A + la * 64) 65500 && (Nat.beq lb 0 || (List.range lb).all fun l => chke f lb l B (bif Nat.ble l 1 then 2 else A + (la - lb + 1) * B))
end Go.Sky
namespace Go.Sky
set_option linter.unusedVariables false
inductive SV : List Int → List Int → Prop
  | one (a : Int) : SV [a] [a]
  | step (a : Int) (r t : List Int) : SV r t → SV (a :: r) (a :: t)
  | skip (a u w : Int) (r t : List Int) : (a = 1 ∨ a = -1) → (-1 ≤ u ∧ u ≤ 1) → (-1 ≤ w ∧ w ≤ 1) → SV (-a :: r) (-a :: t) → SV (a :: u :: -a :: r) (a :: w :: -a :: t)
theorem chg1_skip {s : Int × Int} {a u : Int} (ha : a = 1 ∨ a = -1) (hu : -1 ≤ u ∧ u ≤ 1) : chg1 (chg1 (chg1 s a) u) (-a) = chg1 (chg1 s a) (-a) := by
  obtain ⟨n, l⟩ := s
  have h3 : u = -1 ∨ u = 0 ∨ u = 1 := by omega
  rcases ha with rfl | rfl <;> rcases h3 with rfl | rfl | rfl <;> simp [chg1]
theorem SV.fold {a b : List Int} (h : SV a b) : ∀ s, a.foldl chg1 s = b.foldl chg1 s := by
  induction h with
  | one a => intro s; rfl
  | step a r t _ ih => intro s; exact ih (chg1 s a)
  | skip a u w r t ha hu hw _ ih =>
    intro s
    show (r.foldl chg1 (chg1 (chg1 (chg1 s a) u) (-a))) = (t.foldl chg1 (chg1 (chg1 (chg1 s a) w) (-a)))
    rw [chg1_skip ha hu, chg1_skip ha hw]
    exact ih (chg1 s a)
theorem SV.chg {a b : List Int} (h : SV a b) : chg a = chg b := congrArg Prod.fst (h.fold (0, 0))
def rsg (x : Rat) : Int := if x < 0 then -1 else if x = 0 then 0 else 1
theorem rsg_r (x : Rat) : -1 ≤ rsg x ∧ rsg x ≤ 1 := by unfold rsg; split; decide; split <;> decide
theorem rsg_pos {x : Rat} (h : 0 < x) : rsg x = 1 := by unfold rsg; rw [if_neg (by grind), if_neg (by grind)]
theorem rsg_neg {x : Rat} (h : x < 0) : rsg x = -1 := by unfold rsg; rw [if_pos h]
def Big (η x : Rat) (f : Rat → Rat) : Prop := η < f x ∨ f x < -η
def Tri (η x : Rat) : (Rat → Rat) → List (Rat → Rat) → Prop
  | _, [] => True
  | _, [g] => Big η x g
  | f, g :: k :: r => (Big η x g ∧ Tri η x g (k :: r)) ∨ (Big η x k ∧ f x * k x < 0 ∧ Tri η x k r)
def Near (η x y : Rat) (f : Rat → Rat) : Prop := f x - f y ≤ η ∧ f y - f x ≤ η
theorem big_sg {η x y : Rat} {f : Rat → Rat} (h0 : 0 ≤ η) (h : Big η x f) (hn : Near η x y f) : rsg (f x) = rsg (f y) ∧ (rsg (f x) = 1 ∨ rsg (f x) = -1) := by
  obtain ⟨h1, h2⟩ := hn
  rcases h with h | h
  · rw [rsg_pos (by grind), rsg_pos (by grind)]; exact ⟨rfl, .inl rfl⟩
  · rw [rsg_neg (by grind), rsg_neg (by grind)]; exact ⟨rfl, .inr rfl⟩
theorem opp_sg {a b : Rat} (h : a * b < 0) : rsg b = - rsg a := by
  rcases (show a < 0 ∨ a = 0 ∨ 0 < a by grind) with h1 | h1 | h1
  · rw [rsg_neg h1, rsg_pos (by
      rcases (show b ≤ 0 ∨ 0 < b by grind) with h2 | h2
      · have := Rat.mul_nonneg (a := -a) (b := -b) (by grind) (by grind); grind
      · exact h2)]; rfl
  · subst h1; grind
  · rw [rsg_pos h1, rsg_neg (by
      rcases (show 0 ≤ b ∨ b < 0 by grind) with h2 | h2
      · have := Rat.mul_nonneg (a := a) (b := b) (by grind) h2; grind
      · exact h2)]
end Go.Sky
namespace Go.Sky
set_option linter.unusedVariables false
theorem tri_sv {η x y : Rat} (h0 : 0 ≤ η) : ∀ (n : Nat) (f : Rat → Rat) (fs : List (Rat → Rat)), fs.length ≤ n → Big η x f → (∀ g ∈ f :: fs, Near η x y g) → Tri η x f fs →
    SV ((f :: fs).map fun g => rsg (g x)) ((f :: fs).map fun g => rsg (g y))
  | _, f, [], _, hb, hn, _ => by
    have := (big_sg h0 hb (hn f (List.mem_cons_self ..))).1
    simp only [List.map_cons, List.map_nil, this]
    exact SV.one _
  | 0, f, g :: r, hl, _, _, _ => absurd hl (by simp)
  | n + 1, f, [g], hl, hb, hn, ht => by
    have h1 := (big_sg h0 hb (hn f (List.mem_cons_self ..))).1
    have h2 := tri_sv h0 n g [] (by simp) ht (fun k hk => hn k (List.mem_cons_of_mem _ hk)) trivial
    rw [List.map_cons, List.map_cons, h1]
    exact SV.step _ _ _ h2
  | n + 1, f, g :: k :: r, hl, hb, hn, ht => by
    have h1 := big_sg h0 hb (hn f (List.mem_cons_self ..))
    rcases ht with ⟨hg, ht⟩ | ⟨hk, ho, ht⟩
    · have h2 := tri_sv h0 n g (k :: r) (by simp at hl ⊢; omega) hg (fun k hk => hn k (List.mem_cons_of_mem _ hk)) ht
      rw [List.map_cons (l := g :: k :: r), List.map_cons (l := g :: k :: r), h1.1]
      exact SV.step _ _ _ h2
    · have h2 := tri_sv h0 n k r (by simp at hl ⊢; omega) hk (fun j hj => hn j (List.mem_cons_of_mem _ (List.mem_cons_of_mem _ hj))) ht
      have h3 := (big_sg h0 hk (hn k (by simp))).1
      have h4 := opp_sg ho
      rw [List.map_cons (l := r), List.map_cons (l := r)] at h2
      simp only [List.map_cons]
      rw [← h3] at h2 ⊢
      rw [h4] at h2 ⊢
      rw [← h1.1]
      exact SV.skip _ _ _ _ _ h1.2 (rsg_r _) (rsg_r _) h2
structure Lnk (η x : Rat) (f g k : Rat → Rat) : Prop where
  big : ¬ Big η x g → Big η x k
  opp : ¬ Big η x g → f x * k x < 0
def Lnks (η x : Rat) : (Rat → Rat) → List (Rat → Rat) → Prop
  | _, [] => True
  | _, [g] => Big η x g
  | f, g :: k :: r => Lnk η x f g k ∧ Lnks η x g (k :: r)
theorem lnks_tri {η x : Rat} : ∀ (n : Nat) (f : Rat → Rat) (fs : List (Rat → Rat)), fs.length ≤ n → Lnks η x f fs → Tri η x f fs
  | _, f, [], _, _ => trivial
  | 0, f, g :: r, hl, _ => absurd hl (by simp)
  | n + 1, f, [g], _, h => h
  | n + 1, f, [g, k], hl, h => by
    by_cases hg : Big η x g
    · exact .inl ⟨hg, h.2⟩
    · exact .inr ⟨h.1.big hg, h.1.opp hg, trivial⟩
  | n + 1, f, g :: k :: j :: r, hl, h => by
    by_cases hg : Big η x g
    · exact .inl ⟨hg, lnks_tri n g (k :: j :: r) (by simp at hl ⊢; omega) h.2⟩
    · exact .inr ⟨h.1.big hg, h.1.opp hg, lnks_tri n k (j :: r) (by simp at hl ⊢; omega) h.2.2⟩
end Go.Sky
namespace Go.Sky
set_option linter.unusedVariables false
def Rl3 (s t : Rat) (f g k : Rat → Rat) : Prop := ∃ m n Q : Rat, 0 < m ∧ 0 < n ∧ 0 < Q ∧ ∀ x, s ≤ x → x ≤ t → ∃ q, -Q ≤ q ∧ q ≤ Q ∧ m * f x = q * g x - n * k x
def Rl2 (s t : Rat) (f g : Rat → Rat) : Prop := ∃ m Q : Rat, 0 < m ∧ 0 < Q ∧ ∀ x, s ≤ x → x ≤ t → ∃ q, -Q ≤ q ∧ q ≤ Q ∧ m * f x = q * g x
def Rls (s t : Rat) : (Rat → Rat) → List (Rat → Rat) → Prop
  | _, [] => True
  | f, [g] => Rl2 s t f g
  | f, g :: k :: r => Rl3 s t f g k ∧ Rls s t g (k :: r)
theorem qg_le {q Q g e : Rat} (h1 : -Q ≤ q) (h2 : q ≤ Q) (h3 : -e ≤ g) (h4 : g ≤ e) (hQ : 0 ≤ Q) : q * g ≤ Q * e ∧ -(Q * e) ≤ q * g := by
  have a := Rat.mul_nonneg (a := Q - q) (b := e + g) (by grind) (by grind)
  have b := Rat.mul_nonneg (a := Q + q) (b := e - g) (by grind) (by grind)
  have c := Rat.mul_nonneg (a := Q - q) (b := e - g) (by grind) (by grind)
  have d := Rat.mul_nonneg (a := Q + q) (b := e + g) (by grind) (by grind)
  constructor <;> grind
theorem not_big {η x : Rat} {g : Rat → Rat} (h : ¬ Big η x g) : -η ≤ g x ∧ g x ≤ η := by
  unfold Big at h; constructor <;> grind
theorem big_le {η ε x : Rat} {g : Rat → Rat} (h : η ≤ ε) (hb : Big ε x g) : Big η x g := by
  unfold Big at *; grind
theorem ex_small {ε a b : Rat} (h : 0 < ε) (ha : 0 < a) (hb : 0 < b) : ∃ e : Rat, 0 < e ∧ e ≤ ε ∧ e * a ≤ b := by
  have h1 : 0 < b * a⁻¹ := Rat.mul_pos hb (Rat.inv_pos.2 ha)
  have h2 : b * a⁻¹ * a = b := by grind
  rcases (show ε ≤ b * a⁻¹ ∨ b * a⁻¹ ≤ ε by grind) with h3 | h3
  · exact ⟨ε, h, by grind, by have := Rat.mul_le_mul_of_nonneg_right h3 (show 0 ≤ a by grind); grind⟩
  · exact ⟨b * a⁻¹, h1, h3, by grind⟩
theorem pair3 {s t ε : Rat} {f g k : Rat → Rat} (h : Rl3 s t f g k) (he : 0 < ε) (hp : ∀ x, s ≤ x → x ≤ t → Big ε x f ∨ Big ε x g) :
    ∃ e, 0 < e ∧ (∀ x, s ≤ x → x ≤ t → Big e x g ∨ Big e x k) ∧ ∀ η, 0 < η → η ≤ e → ∀ x, s ≤ x → x ≤ t → Lnk η x f g k := by
  obtain ⟨m, n, Q, hm, hn, hQ, hr⟩ := h
  obtain ⟨e, e1, e2, e3⟩ := ex_small he (show 0 < Q + n by grind) (Rat.mul_pos hm he)
  have key : ∀ η, 0 < η → η ≤ e → ∀ x, s ≤ x → x ≤ t → ¬ Big η x g → Big η x k ∧ f x * k x < 0 := fun η h1 h2 x hs ht hg => by
    obtain ⟨q, q1, q2, q3⟩ := hr x hs ht
    obtain ⟨g1, g2⟩ := not_big hg
    obtain ⟨p1, p2⟩ := qg_le q1 q2 g1 g2 (by grind)
    have hf : Big ε x f := (hp x hs ht).resolve_right fun h => hg (big_le (by grind) h)
    have c1 : η * (Q + n) ≤ m * ε := by
      have := Rat.mul_le_mul_of_nonneg_right h2 (show 0 ≤ Q + n by grind); grind
    have c2 : 0 < η * n := Rat.mul_pos h1 hn
    rcases hf with hf | hf
    · have d1 : m * ε < m * f x := by have := Rat.mul_pos hm (show 0 < f x - ε by grind); grind
      have d2 : n * k x < - (n * η) := by grind
      have d3 : k x < -η := by
        rcases (show k x < -η ∨ -η ≤ k x by grind) with h9 | h9
        · exact h9
        · have := Rat.mul_nonneg (a := n) (b := k x + η) (by grind) (by grind); grind
      refine ⟨.inr d3, ?_⟩
      have := Rat.mul_pos (a := f x) (b := - k x) (by grind) (by grind); grind
    · have d1 : m * f x < - (m * ε) := by have := Rat.mul_pos hm (show 0 < -ε - f x by grind); grind
      have d2 : n * η < n * k x := by grind
      have d3 : η < k x := by
        rcases (show η < k x ∨ k x ≤ η by grind) with h9 | h9
        · exact h9
        · have := Rat.mul_nonneg (a := n) (b := η - k x) (by grind) (by grind); grind
      refine ⟨.inl d3, ?_⟩
      have := Rat.mul_pos (a := - f x) (b := k x) (by grind) (by grind); grind
  refine ⟨e, e1, fun x hs ht => ?_, fun η h1 h2 x hs ht => ⟨fun hg => (key η h1 h2 x hs ht hg).1, fun hg => (key η h1 h2 x hs ht hg).2⟩⟩
  by_cases hg : Big e x g
  · exact .inl hg
  · exact .inr (key e e1 (by grind) x hs ht hg).1
theorem pair2 {s t ε : Rat} {f g : Rat → Rat} (h : Rl2 s t f g) (he : 0 < ε) (hp : ∀ x, s ≤ x → x ≤ t → Big ε x f ∨ Big ε x g) :
    ∃ e, 0 < e ∧ ∀ η, 0 < η → η ≤ e → ∀ x, s ≤ x → x ≤ t → Big η x g := by
  obtain ⟨m, Q, hm, hQ, hr⟩ := h
  obtain ⟨e, e1, e2, e3⟩ := ex_small he hQ (Rat.mul_pos hm he)
  refine ⟨e, e1, fun η h1 h2 x hs ht => ?_⟩
  by_cases hg : Big η x g
  · exact hg
  · exfalso
    obtain ⟨q, q1, q2, q3⟩ := hr x hs ht
    obtain ⟨g1, g2⟩ := not_big hg
    obtain ⟨p1, p2⟩ := qg_le q1 q2 g1 g2 (by grind)
    have hf : Big ε x f := (hp x hs ht).resolve_right fun h => hg (big_le (by grind) h)
    have c1 : η * Q ≤ m * ε := by
      have := Rat.mul_le_mul_of_nonneg_right h2 (show 0 ≤ Q by grind); grind
    rcases hf with hf | hf
    · have := Rat.mul_pos hm (show 0 < f x - ε by grind); grind
    · have := Rat.mul_pos hm (show 0 < -ε - f x by grind); grind
theorem lnks_all {s t : Rat} : ∀ (n : Nat) (f : Rat → Rat) (fs : List (Rat → Rat)) (ε : Rat), fs.length ≤ n → Rls s t f fs → 0 < ε → (∀ g r, fs = g :: r → ∀ x, s ≤ x → x ≤ t → Big ε x f ∨ Big ε x g) →
    ∃ e, 0 < e ∧ ∀ η, 0 < η → η ≤ e → ∀ x, s ≤ x → x ≤ t → Lnks η x f fs
  | _, f, [], ε, _, _, he, _ => ⟨ε, he, fun _ _ _ _ _ _ => trivial⟩
  | 0, f, g :: r, ε, hl, _, _, _ => absurd hl (by simp)
  | n + 1, f, [g], ε, _, h, he, hp => pair2 h he (hp g [] rfl)
  | n + 1, f, g :: k :: r, ε, hl, h, he, hp => by
    obtain ⟨e, e1, e2, e3⟩ := pair3 h.1 he (hp g (k :: r) rfl)
    obtain ⟨e', e1', e2'⟩ := lnks_all n g (k :: r) e (by simp at hl ⊢; omega) h.2 e1 (fun k' r' heq => by
      injection heq with h1 h2; subst h1; exact e2)
    rcases (show e ≤ e' ∨ e' ≤ e by grind) with h9 | h9
    · exact ⟨e, e1, fun η h1 h2 x hs ht => ⟨e3 η h1 h2 x hs ht, e2' η h1 (by grind) x hs ht⟩⟩
    · exact ⟨e', e1', fun η h1 h2 x hs ht => ⟨e3 η h1 (by grind) x hs ht, e2' η h1 h2 x hs ht⟩⟩
def Lip (s t L : Rat) (f : Rat → Rat) : Prop := ∀ x y, s ≤ x → x ≤ y → y ≤ t → f x - f y ≤ L * (y - x) ∧ f y - f x ≤ L * (y - x)
def vat (fs : List (Rat → Rat)) (x : Rat) : Int := chg (fs.map fun g => rsg (g x))
theorem step_eq {s t L δ : Rat} {f : Rat → Rat} {fs : List (Rat → Rat)} (hL : 0 < L) (hl : ∀ g ∈ f :: fs, Lip s t L g) (hd : 0 < δ) (hb : ∀ x, s ≤ x → x ≤ t → Big δ x f) (hr : Rls s t f fs) :
    ∃ h, 0 < h ∧ ∀ x y, s ≤ x → x ≤ y → y ≤ t → y - x ≤ h → vat (f :: fs) x = vat (f :: fs) y := by
  obtain ⟨e, e1, e2⟩ := lnks_all fs.length f fs δ (Nat.le_refl _) hr hd (fun g r _ x hs ht => .inl (hb x hs ht))
  obtain ⟨η, n1, n2, n3⟩ := ex_small hd (show (0 : Rat) < 1 by decide) e1
  obtain ⟨h, h1, h2, h3⟩ := ex_small n1 hL n1
  refine ⟨h, h1, fun x y hx hxy hy hh => SV.chg ?_⟩
  refine tri_sv (by grind) fs.length f fs (Nat.le_refl _) (big_le (by grind) (hb x hx (by grind))) (fun g hg => ?_) (lnks_tri _ _ _ (Nat.le_refl _) (e2 η n1 (by grind) x hx (by grind)))
  obtain ⟨a, b⟩ := hl g hg x y hx hxy hy
  have := Rat.mul_le_mul_of_nonneg_right hh (show 0 ≤ L by grind)
  exact ⟨by grind, by grind⟩
end Go.Sky
namespace Go.Sky
set_option linter.unusedVariables false
theorem vat_const {s t L δ : Rat} {f : Rat → Rat} {fs : List (Rat → Rat)} (hL : 0 < L) (hl : ∀ g ∈ f :: fs, Lip s t L g) (hd : 0 < δ) (hb : ∀ x, s ≤ x → x ≤ t → Big δ x f) (hr : Rls s t f fs) (hst : s ≤ t) :
    vat (f :: fs) s = vat (f :: fs) t := by
  obtain ⟨h, h1, h2⟩ := step_eq hL hl hd hb hr
  have key : ∀ n : Nat, ∀ y, s ≤ y → y ≤ t → y - s ≤ (n : Rat) * h → vat (f :: fs) s = vat (f :: fs) y := fun n => by
    induction n with
    | zero => intro y h3 h4 h5; have : y = s := by simp at h5; grind
              rw [this]
    | succ n ih =>
      intro y h3 h4 h5
      have h6 : ((n + 1 : Nat) : Rat) * h = (n : Rat) * h + h := by push_cast; grind
      rcases (show y - s ≤ (n : Rat) * h ∨ (n : Rat) * h < y - s by grind) with h7 | h7
      · exact ih y h3 h4 h7
      · have h8 : (0 : Rat) ≤ (n : Rat) * h := Rat.mul_nonneg (by exact_mod_cast Nat.zero_le n) (by grind)
        rcases (show s ≤ y - h ∨ y - h < s by grind) with h9 | h9
        · rw [ih (y - h) h9 (by grind) (by grind)]
          exact h2 (y - h) y h9 (by grind) h4 (by grind)
        · exact h2 s y (by grind) h3 h4 (by grind)
  have h3 : ∃ n : Nat, t - s ≤ (n : Rat) * h := by
    have h4 : 0 < h⁻¹ := Rat.inv_pos.2 h1
    refine ⟨((t - s) * h⁻¹).ceil.toNat, ?_⟩
    have h5 := @Rat.le_ceil ((t - s) * h⁻¹)
    have h6 : ((((t - s) * h⁻¹).ceil : Int) : Rat) ≤ ((((t - s) * h⁻¹).ceil.toNat : Nat) : Rat) := by
      have : ((t - s) * h⁻¹).ceil ≤ ((((t - s) * h⁻¹).ceil.toNat : Nat) : Int) := Int.self_le_toNat _
      exact_mod_cast this
    have h7 := Rat.mul_le_mul_of_nonneg_right (Rat.le_trans h5 h6) (show 0 ≤ h by grind)
    have h8 : (t - s) * h⁻¹ * h = t - s := by grind
    grind
  obtain ⟨n, hn⟩ := h3
  exact key n t hst (by grind) hn
end Go.Sky
namespace Go.Sky
set_option linter.unusedVariables false
def rev : List Int → Rat → Rat
  | [], _ => 0
  | c :: p, x => (c : Rat) + x * rev p x
theorem ex_K (s t : Rat) : ∃ K : Rat, 0 < K ∧ ∀ x, s ≤ x → x ≤ t → -K ≤ x ∧ x ≤ K := by
  rcases (show (0 ≤ s ∨ s < 0) by grind) with h | h <;> rcases (show (0 ≤ t ∨ t < 0) by grind) with h' | h'
  · exact ⟨t + 1, by grind, fun x _ _ => by grind⟩
  · exact ⟨1, by grind, fun x _ _ => by grind⟩
  · exact ⟨t - s + 1, by grind, fun x _ _ => by grind⟩
  · exact ⟨-s + 1, by grind, fun x _ _ => by grind⟩
theorem rev_b (s t : Rat) : ∀ p : List Int, ∃ B : Rat, 0 < B ∧ ∀ x, s ≤ x → x ≤ t → -B ≤ rev p x ∧ rev p x ≤ B
  | [] => ⟨1, by decide, fun x _ _ => by unfold rev; grind⟩
  | c :: p => by
    obtain ⟨B, b1, b2⟩ := rev_b s t p
    obtain ⟨K, k1, k2⟩ := ex_K s t
    obtain ⟨C, c1, c2⟩ := ex_K (c : Rat) (c : Rat)
    have hc := c2 (c : Rat) (by grind) (by grind)
    refine ⟨C + K * B, by have := Rat.mul_pos k1 b1; grind, fun x hs ht => ?_⟩
    obtain ⟨d1, d2⟩ := b2 x hs ht
    obtain ⟨e1, e2⟩ := k2 x hs ht
    obtain ⟨f1, f2⟩ := qg_le e1 e2 d1 d2 (by grind)
    unfold rev
    constructor <;> grind
theorem rev_lip (s t : Rat) : ∀ p : List Int, ∃ L : Rat, 0 < L ∧ Lip s t L (rev p)
  | [] => ⟨1, by decide, fun x y _ _ _ => by unfold rev; constructor <;> grind⟩
  | c :: p => by
    obtain ⟨L, l1, l2⟩ := rev_lip s t p
    obtain ⟨B, b1, b2⟩ := rev_b s t p
    obtain ⟨K, k1, k2⟩ := ex_K s t
    refine ⟨K * L + B, by have := Rat.mul_pos k1 l1; grind, fun x y hs hxy ht => ?_⟩
    obtain ⟨a1, a2⟩ := l2 x y hs hxy ht
    obtain ⟨d1, d2⟩ := b2 y (by grind) ht
    obtain ⟨e1, e2⟩ := k2 x hs (by grind)
    obtain ⟨f1, f2⟩ := qg_le (q := x) (g := rev p x - rev p y) (e := L * (y - x)) e1 e2 (by grind) (by grind) (by grind)
    have g1 := Rat.mul_nonneg (a := B - rev p y) (b := y - x) (by grind) (by grind)
    have g2 := Rat.mul_nonneg (a := B + rev p y) (b := y - x) (by grind) (by grind)
    unfold rev
    constructor <;> grind
end Go.Sky
namespace Go.Sky
set_option linter.unusedVariables false
theorem rev_zero (x : Rat) : ∀ q : List Int, (∀ i, cf q i = 0) → rev q x = 0
  | [], _ => rfl
  | c :: q, h => by
    have h0 : c = 0 := h 0
    have h1 := rev_zero x q fun i => h (i + 1)
    unfold rev; rw [h1, h0]; grind
theorem rev_ext (x : Rat) : ∀ p q : List Int, (∀ i, cf p i = cf q i) → rev p x = rev q x
  | [], q, h => by rw [rev_zero x q fun i => (h i).symm.trans (cf_ge (Nat.zero_le _))]; rfl
  | c :: p, [], h => by rw [rev_zero x (c :: p) fun i => (h i).trans (cf_ge (Nat.zero_le _))]; rfl
  | c :: p, d :: q, h => by
    have h0 : c = d := h 0
    have h1 := rev_ext x p q fun i => h (i + 1)
    unfold rev; rw [h1, h0]
def ladd : List Int → List Int → List Int
  | [], q => q
  | p, [] => p
  | a :: p, b :: q => (a + b) :: ladd p q
theorem ladd_nil (p : List Int) : ladd p [] = p := by cases p <;> rfl
theorem rev_ladd (x : Rat) : ∀ p q : List Int, rev (ladd p q) x = rev p x + rev q x
  | [], q => by unfold ladd; show rev q x = 0 + rev q x; grind
  | a :: p, [] => by rw [ladd_nil]; show rev (a :: p) x = rev (a :: p) x + 0; grind
  | a :: p, b :: q => by
    have h := rev_ladd x p q
    unfold ladd rev; rw [h]; push_cast; grind
theorem cf_ladd : ∀ (p q : List Int) (i : Nat), cf (ladd p q) i = cf p i + cf q i
  | [], q, i => by unfold ladd; rw [show cf [] i = 0 from cf_ge (Nat.zero_le _)]; omega
  | a :: p, [], i => by rw [ladd_nil, show cf [] i = 0 from cf_ge (Nat.zero_le _)]; omega
  | a :: p, b :: q, 0 => rfl
  | a :: p, b :: q, i + 1 => cf_ladd p q i
theorem rev_smul (x : Rat) (c : Int) : ∀ p : List Int, rev (p.map fun a => c * a) x = (c : Rat) * rev p x
  | [] => by show (0 : Rat) = c * 0; grind
  | a :: p => by
    have h := rev_smul x c p
    simp only [List.map_cons]; unfold rev; rw [h]; push_cast; grind
theorem cf_smul (c : Int) : ∀ (p : List Int) (i : Nat), cf (p.map fun a => c * a) i = c * cf p i
  | [], i => by simp [cf]
  | a :: p, 0 => rfl
  | a :: p, i + 1 => cf_smul c p i
def lmul : List Int → List Int → List Int
  | [], _ => []
  | c :: p, q => ladd (q.map fun a => c * a) (0 :: lmul p q)
theorem rev_lmul (x : Rat) : ∀ p q : List Int, rev (lmul p q) x = rev p x * rev q x
  | [], q => by show (0 : Rat) = 0 * rev q x; grind
  | c :: p, q => by
    have h := rev_lmul x p q
    unfold lmul; rw [rev_ladd, rev_smul]
    show (c : Rat) * rev q x + (((0 : Int) : Rat) + x * rev (lmul p q) x) = ((c : Rat) + x * rev p x) * rev q x
    rw [h]; grind
end Go.Sky
namespace Go.Sky
set_option linter.unusedVariables false
theorem cf_lmul : ∀ (p q : List Int) (i : Nat), cf (lmul p q) i = sumTo (fun k => cf p k * cf q (i - k)) (i + 1)
  | [], q, i => by
    rw [show cf (lmul [] q) i = 0 from cf_ge (Nat.zero_le _)]
    exact (sumTo_z fun k _ => by rw [show cf [] k = 0 from cf_ge (Nat.zero_le _), Int.zero_mul]).symm
  | c :: p, q, 0 => by
    unfold lmul; rw [cf_ladd, cf_smul, sumTo_succ, sumTo_zero]
    show c * cf q 0 + 0 = 0 + c * cf q 0
    omega
  | c :: p, q, i + 1 => by
    have h := cf_lmul p q i
    unfold lmul; rw [cf_ladd, cf_smul, sumTo_first]
    show c * cf q (i + 1) + cf (lmul p q) i = c * cf q (i + 1) + _
    rw [h]
    congr 1
    refine sumTo_congr fun k hk => ?_
    show cf p k * cf q (i - k) = cf p k * cf q (i + 1 - (k + 1))
    rw [show i + 1 - (k + 1) = i - k by omega]
theorem rel_rev {a c : Int} {x s y z : List Int} (h : ∀ t, a * cf x t = (ps s * ps y).c t - c * cf z t) (q : Rat) : (a : Rat) * rev x q = rev s q * rev y q - (c : Rat) * rev z q := by
  have h1 : ∀ t, cf (ladd (x.map fun b => a * b) (z.map fun b => c * b)) t = cf (lmul s y) t := fun t => by
    rw [cf_ladd, cf_smul, cf_smul, cf_lmul, h t, PS.mul_c]
    show sumTo (fun k => cf s k * cf y (t - k)) (t + 1) - c * cf z t + c * cf z t = _
    omega
  have h2 := rev_ext q _ _ h1
  rw [rev_ladd, rev_smul, rev_smul, rev_lmul] at h2
  grind
end Go.Sky
namespace Go.Sky
set_option linter.unusedVariables false
theorem rl3_snext {s t : Rat} {x y : List Int} (hx : Tr x) (hy : Tr y) (h0 : y ≠ []) (hl : y.length ≤ x.length) : Rl3 s t (rev x) (rev y) (rev (snext x y)) := by
  have l0 := List.length_pos_iff.2 h0
  obtain ⟨r1, r2, k, u, hk⟩ := rrem_id hy h0 x.length x hx (by omega)
  have hs := snext_ref (f := x.length) hx hy h0 hl (by omega)
  have htn : Tr (pneg (rrem x.length x y)) := tr_pscale _ _
  obtain ⟨m, n, hm, hn, hp⟩ := psim_pprim htn
  rw [hs] at hp
  have hK : 0 < rabs y ^ k := Int.pow_pos (rabs_pos hy h0)
  obtain ⟨B, b1, b2⟩ := rev_b s t u
  have hm' : (0 : Rat) < (m : Rat) := by exact_mod_cast hm
  have hn' : (0 : Rat) < (n : Rat) := by exact_mod_cast hn
  have hK' : (0 : Rat) < ((rabs y ^ k : Int) : Rat) := by exact_mod_cast hK
  refine ⟨(n : Rat) * ((rabs y ^ k : Int) : Rat), (m : Rat), (n : Rat) * B, Rat.mul_pos hn' hK', hm', Rat.mul_pos hn' b1, fun q hq1 hq2 => ⟨(n : Rat) * rev u q, ?_, ?_, ?_⟩⟩
  · have := Rat.mul_nonneg (a := (n : Rat)) (b := rev u q + B) (by grind) (by have := b2 q hq1 hq2; grind); grind
  · have := Rat.mul_nonneg (a := (n : Rat)) (b := B - rev u q) (by grind) (by have := b2 q hq1 hq2; grind); grind
  · have e1 := rel_rev (a := rabs y ^ k) (c := -1) (x := x) (s := u) (y := y) (z := rrem x.length x y) (fun t => by rw [hk t]; omega) q
    have e2 : rev ((snext x y).map fun b => m * b) q = rev ((rrem x.length x y).map fun b => (-n) * b) q := rev_ext q _ _ fun i => by
      rw [cf_smul, cf_smul, hp i, cf_pneg, Int.mul_neg, Int.neg_mul]
    rw [rev_smul, rev_smul] at e2
    push_cast at e1 e2 ⊢
    grind
end Go.Sky
namespace Go.Sky
set_option linter.unusedVariables false
theorem rl2_of {s t : Rat} {f g : Rat → Rat} (h : Rl3 s t f g (rev [])) : Rl2 s t f g := by
  obtain ⟨m, n, Q, hm, hn, hQ, hr⟩ := h
  refine ⟨m, Q, hm, hQ, fun x h1 h2 => ?_⟩
  obtain ⟨q, q1, q2, q3⟩ := hr x h1 h2
  refine ⟨q, q1, q2, ?_⟩
  have : rev [] x = 0 := rfl
  rw [this] at q3; grind
theorem rls_chain {s t : Rat} : ∀ (f : Nat) (a b : List Int), Tr a → Tr b → cok f a b → ∃ r, schain f a b = a :: r ∧ Rls s t (rev a) (r.map rev) ∧ (b = [] → r = []) ∧ (b ≠ [] → ∃ r', r = b :: r') := fun f => by
  induction f with
  | zero =>
    intro a b ha hb h
    have h0 : b = [] := h
    subst h0
    exact ⟨[], rfl, trivial, fun _ => rfl, fun h => absurd rfl h⟩
  | succ f ih =>
    intro a b ha hb h
    by_cases h0 : b = []
    · subst h0
      exact ⟨[], schain_nil _ _, trivial, fun _ => rfl, fun h => absurd rfl h⟩
    · obtain ⟨g, hg, hd, hle, hc, hs⟩ := cok_step h h0
      obtain rfl : f = g := by omega
      obtain ⟨r, h1, h2, h3, h4⟩ := ih b (snext a b) hb (tr_snext ha) hc
      have hR := rl3_snext (s := s) (t := t) ha hb h0 hle
      refine ⟨b :: r, by rw [hs, h1], ?_, fun h => absurd h h0, fun _ => ⟨r, rfl⟩⟩
      by_cases hz : snext a b = []
      · rw [h3 hz]
        rw [hz] at hR
        exact rl2_of hR
      · obtain ⟨r', rfl⟩ := h4 hz
        exact ⟨hR, h2⟩
end Go.Sky
namespace Go.Sky
set_option linter.unusedVariables false
theorem lip_mono {s t L M : Rat} {f : Rat → Rat} (h : L ≤ M) (hf : Lip s t L f) : Lip s t M f := fun x y h1 h2 h3 => by
  obtain ⟨a, b⟩ := hf x y h1 h2 h3
  have := Rat.mul_le_mul_of_nonneg_right h (show 0 ≤ y - x by grind)
  constructor <;> grind
theorem lip_all (s t : Rat) : ∀ ls : List (List Int), ∃ L : Rat, 0 < L ∧ ∀ g ∈ ls.map rev, Lip s t L g
  | [] => ⟨1, by decide, fun g hg => by cases hg⟩
  | p :: ls => by
    obtain ⟨L, l1, l2⟩ := lip_all s t ls
    obtain ⟨M, m1, m2⟩ := rev_lip s t p
    refine ⟨L + M, by grind, fun g hg => ?_⟩
    rw [List.map_cons] at hg
    rcases List.mem_cons.1 hg with rfl | hg
    · exact lip_mono (by grind) m2
    · exact lip_mono (by grind) (l2 g hg)
theorem schain_const {s t δ : Rat} {f : Nat} {a b : List Int} (ha : Tr a) (hb : Tr b) (hc : cok f a b) (hst : s ≤ t) (hd : 0 < δ) (hB : ∀ x, s ≤ x → x ≤ t → Big δ x (rev a)) :
    vat ((schain f a b).map rev) s = vat ((schain f a b).map rev) t := by
  obtain ⟨r, h1, h2, _, _⟩ := rls_chain (s := s) (t := t) f a b ha hb hc
  obtain ⟨L, l1, l2⟩ := lip_all s t (schain f a b)
  rw [h1] at l2 ⊢
  exact vat_const l1 l2 hd hB h2 hst
end Go.Sky
namespace Go.Sky
set_option linter.unusedVariables false
end Go.Sky
namespace Go.Sky
set_option linter.unusedVariables false
end Go.Sky
namespace Go.Sky
set_option linter.unusedVariables false
def alt : List Int → List Int
  | [] => []
  | c :: p => c :: (alt p).map fun a => -1 * a
end Go.Sky
namespace Go.Sky
set_option linter.unusedVariables false
end Go.Sky
namespace Go.Sky
set_option linter.unusedVariables false
theorem pev_cons (c : Int) (p : List Int) (X Y : Int) (h : p ≠ []) : pev (c :: p) X Y = c * Y ^ p.length + X * pev p X Y := by
  have hl := List.length_pos_iff.2 h
  unfold pev
  rw [List.length_cons, sumTo_first, ← sumTo_mul]
  congr 1
  · show c * (X ^ 0 * Y ^ (p.length + 1 - 1 - 0)) = _
    rw [Int.pow_zero, Int.one_mul, show p.length + 1 - 1 - 0 = p.length by omega]
  · refine sumTo_congr fun i hi => ?_
    show cf p i * (X ^ (i + 1) * Y ^ (p.length + 1 - 1 - (i + 1))) = X * (cf p i * (X ^ i * Y ^ (p.length - 1 - i)))
    rw [show p.length + 1 - 1 - (i + 1) = p.length - 1 - i by omega, Int.pow_succ]
    grind
theorem pev_rev {X Y : Int} (hY : 0 < Y) : ∀ p : List Int, ((pev p X Y : Int) : Rat) = rev p ((X : Rat) / (Y : Rat)) * (Y : Rat) ^ (p.length - 1)
  | [] => by show (0 : Rat) = 0 * _; grind
  | [c] => by
    have : pev [c] X Y = c := by unfold pev; show 0 + c * (X ^ 0 * Y ^ 0) = c; rw [Int.pow_zero, Int.pow_zero]; omega
    rw [this]; show (c : Rat) = (c + X / Y * 0) * (Y : Rat) ^ 0; rw [Rat.pow_zero]; grind
  | c :: d :: p => by
    have h := pev_rev (X := X) hY (d :: p)
    rw [pev_cons c (d :: p) X Y (by simp)]
    have hy : (Y : Rat) ≠ 0 := by have : (0 : Rat) < (Y : Rat) := by exact_mod_cast hY
                                  grind
    push_cast
    rw [h]
    show (c : Rat) * (Y : Rat) ^ (p.length + 1) + X * (rev (d :: p) (X / Y) * (Y : Rat) ^ (p.length + 1 - 1)) = ((c : Rat) + X / Y * rev (d :: p) (X / Y)) * (Y : Rat) ^ (p.length + 1 + 1 - 1)
    rw [show p.length + 1 - 1 = p.length by omega, show p.length + 1 + 1 - 1 = p.length + 1 by omega, Rat.pow_succ]
    generalize rev (d :: p) (X / Y) = R
    generalize (Y : Rat) ^ p.length = P
    have : (X : Rat) / Y * Y = X := by grind
    grind
theorem sign_rsg {z : Int} {r q : Rat} (hq : 0 < q) (h : (z : Rat) = r * q) : z.sign = rsg r := by
  rcases (show r < 0 ∨ r = 0 ∨ 0 < r by grind) with h1 | h1 | h1
  · rw [rsg_neg h1]
    have := Rat.mul_pos (a := -r) (b := q) (by grind) hq
    have h2 : (z : Rat) < 0 := by grind
    have h3 : z < 0 := by exact_mod_cast h2
    exact Int.sign_eq_neg_one_of_neg h3
  · subst h1
    have h2 : (z : Rat) = 0 := by grind
    have h3 : z = 0 := by exact_mod_cast h2
    subst h3; rfl
  · rw [rsg_pos h1]
    have := Rat.mul_pos h1 hq
    have h2 : (0 : Rat) < z := by grind
    have h3 : 0 < z := by exact_mod_cast h2
    exact Int.sign_eq_one_of_pos h3
theorem fat_rsg {X Y : Int} (hY : 0 < Y) (p : List Int) : fat X Y p = rsg (rev p ((X : Rat) / (Y : Rat))) := by
  have : (0 : Rat) < (Y : Rat) := by exact_mod_cast hY
  exact sign_rsg (Rat.pow_pos this) (pev_rev hY p)
end Go.Sky
namespace Go.Sky
set_option linter.unusedVariables false
end Go.Sky
namespace Go.Sky
set_option linter.unusedVariables false
theorem rev_sqf {xs : List Int} {F : Nat} (hx : Tr xs) (h0 : xs ≠ []) (hok : eok F (gA (nrm xs) (pder (nrm xs))) (gB (nrm xs) (pder (nrm xs)))) : ∃ g : List Int, ∀ x, rev xs x = rev (sqf F xs) x * rev g x := by
  obtain ⟨f1, f2, f3, f4, f5, f6⟩ := sqf_fac (F := F) hx h0 hok
  have hk : ∃ k : Int, ∀ i, cf xs i = k * cf (nrm xs) i := by
    unfold nrm gnorm
    split
    · refine ⟨-pcont xs, fun i => ?_⟩
      rw [cf_pscale, ← pprim_mul xs i]; grind
    · refine ⟨pcont xs, fun i => ?_⟩
      rw [← pprim_mul xs i]; grind
  obtain ⟨k, hk⟩ := hk
  refine ⟨(pgcd F (nrm xs) (pder (nrm xs))).map fun a => k * a, fun x => ?_⟩
  have h1 : rev (nrm xs) x = rev (sqf F xs) x * rev (pgcd F (nrm xs) (pder (nrm xs))) x := by
    have := rel_rev (a := 1) (c := 0) (x := nrm xs) (s := sqf F xs) (y := pgcd F (nrm xs) (pder (nrm xs))) (z := []) (fun t => by
      have h2 := cf_pmul (sqf F xs) (pgcd F (nrm xs) (pder (nrm xs))) t
      rw [← f4] at h2
      rw [h2]; omega) x
    push_cast at this
    grind
  have h2 : rev xs x = rev ((nrm xs).map fun a => k * a) x := rev_ext x _ _ fun i => by rw [cf_smul]; exact hk i
  rw [h2, rev_smul, rev_smul, h1]; grind
theorem big_fac {s t : Rat} {f g h : Rat → Rat} {ε : Rat} (he : 0 < ε) (hb : ∀ x, s ≤ x → x ≤ t → ε ≤ f x ∨ f x ≤ -ε) (hf : ∀ x, f x = g x * h x) (hB : ∃ B : Rat, 0 < B ∧ ∀ x, s ≤ x → x ≤ t → -B ≤ h x ∧ h x ≤ B) : ∃ δ, 0 < δ ∧ ∀ x, s ≤ x → x ≤ t → Big δ x g := by
  obtain ⟨B, b1, b2⟩ := hB
  obtain ⟨δ, d1, d2, d3⟩ := ex_small (show (0 : Rat) < 1 by decide) (show 0 < B + B by grind) he
  refine ⟨δ, d1, fun x hs ht => ?_⟩
  by_cases hg : Big δ x g
  · exact hg
  · exfalso
    obtain ⟨g1, g2⟩ := not_big hg
    obtain ⟨h1, h2⟩ := b2 x hs ht
    obtain ⟨p1, p2⟩ := qg_le h1 h2 g1 g2 (by grind)
    have := Rat.mul_pos b1 d1
    have := hf x
    rcases hb x hs ht with h9 | h9 <;> grind
end Go.Sky
namespace Go.Sky
set_option linter.unusedVariables false
theorem vat_map {ls : List (List Int)} {x : Rat} {f : List Int → Int} (h : ∀ p ∈ ls, rsg (rev p x) = f p) : vat (ls.map rev) x = chg (ls.map f) := by
  unfold vat
  rw [List.map_map]
  exact congrArg chg (List.map_congr_left fun p hp => h p hp)
theorem cnt_vat {F : Nat} {xs : List Int} {X Y : Int} (hY : 0 < Y) : cnt F xs X Y = vat ((chn F xs).map rev) ((X : Rat) / (Y : Rat)) :=
  (vat_map fun p _ => (fat_rsg hY p).symm).symm
end Go.Sky
namespace Go.Sky
set_option linter.unusedVariables false
theorem ev1_rev (t : Int) : ∀ p : List Int, rev p (t : Rat) = ((ev1 p t : Int) : Rat)
  | [] => rfl
  | c :: p => by
    have h := ev1_rev t p
    rw [show rev (c :: p) (t : Rat) = (c : Rat) + (t : Rat) * rev p (t : Rat) from rfl, show ev1 (c :: p) t = c + t * ev1 p t from rfl, h]; push_cast; rfl
theorem rev_cf0 {p : List Int} (h : ∀ x : Rat, rev p x = 0) (i : Nat) : cf p i = 0 := by
  by_cases h0 : cf p i = 0
  · exact h0
  · exfalso
    have := roots_le p.length p ((List.range p.length).map fun n : Nat => (n : Int)) rfl ⟨i, h0⟩ (by
      refine List.Pairwise.map _ (fun a b hab => ?_) List.nodup_range
      intro e; exact hab (by exact_mod_cast e)) (fun t ht => by
      have h1 := ev1_rev t p
      rw [h] at h1
      exact_mod_cast h1.symm)
    simp at this
theorem rev_inj {p q : List Int} (h : ∀ x : Rat, rev p x = rev q x) (i : Nat) : cf p i = cf q i := by
  have h1 := rev_cf0 (p := ladd p (q.map fun a => (-1) * a)) (fun x => by rw [rev_ladd, rev_smul, h x]; push_cast; grind) i
  rw [cf_ladd, cf_smul] at h1; omega
theorem rev_tzl (p : List Int) (x : Rat) : rev (tzl p) x = rev p x := rev_ext x _ _ fun i => cf_tzl p i
theorem rev_pmul (p q : List Int) (x : Rat) : rev (pmul p q) x = rev p x * rev q x := by
  rw [← rev_lmul]; exact rev_ext x _ _ fun i => by rw [cf_pmul, cf_lmul, PS.mul_c]; rfl
theorem rev_one (c : Int) (x : Rat) : rev [c] x = (c : Rat) := by show (c : Rat) + x * 0 = c; grind
def ld : List Int → List Int
  | [] => []
  | _ :: p => ladd p (0 :: ld p)
def Ed (g a : List Int) : Prop := ∃ (k : Int) (s : List Int), k ≠ 0 ∧ ∀ x : Rat, (k : Rat) * rev a x = rev s x * rev g x
theorem Ed.refl (a : List Int) : Ed a a := ⟨1, [1], by decide, fun x => by rw [rev_one]⟩
theorem Ed.nil (g : List Int) : Ed g [] := ⟨1, [], by decide, fun x => by show (((1 : Int)) : Rat) * 0 = 0 * rev g x; grind⟩
theorem Ed.trans {a b c : List Int} : Ed a b → Ed b c → Ed a c := fun ⟨k, s, hk, h⟩ ⟨m, u, hm, e⟩ =>
  ⟨k * m, lmul u s, Int.mul_ne_zero hk hm, fun x => by
    have h1 := h x
    have h2 := e x
    rw [rev_lmul]; push_cast
    have : (k : Rat) * m * rev c x = k * (m * rev c x) := by grind
    rw [this, h2]; grind⟩
theorem Ed.congr {g a b : List Int} (h : Ed g a) (e : ∀ x, rev a x = rev b x) : Ed g b := by
  obtain ⟨k, s, hk, h⟩ := h
  exact ⟨k, s, hk, fun x => by rw [← e x]; exact h x⟩
theorem Ed.sim {g a b : List Int} (h : Ed g a) (e : Sim a b) : Ed g b := by
  obtain ⟨k, s, hk, h⟩ := h
  obtain ⟨m, n, hm, hn, e⟩ := e
  refine ⟨k * n, s.map fun c => m * c, Int.mul_ne_zero hk hn, fun x => ?_⟩
  have h1 : rev (a.map fun c => m * c) x = rev (b.map fun c => n * c) x := rev_ext x _ _ fun i => by rw [cf_smul, cf_smul, e]
  rw [rev_smul, rev_smul] at h1
  rw [rev_smul]
  have := h x
  push_cast
  have e2 : (k : Rat) * n * rev b x = k * (n * rev b x) := by grind
  rw [e2, ← h1]; grind
theorem Ed.lin {g a b c : List Int} (ha : Ed g a) (hb : Ed g b) (s : List Int) (L : Int) (hL : L ≠ 0) (h : ∀ x, (L : Rat) * rev c x = rev s x * rev a x + rev b x) : Ed g c := by
  obtain ⟨k, u, hk, h1⟩ := ha
  obtain ⟨m, v, hm, h2⟩ := hb
  refine ⟨L * (k * m), ladd ((lmul s u).map fun c => m * c) (v.map fun c => k * c), Int.mul_ne_zero hL (Int.mul_ne_zero hk hm), fun x => ?_⟩
  have h1 := h1 x
  have h2 := h2 x
  have h := h x
  rw [rev_ladd, rev_smul, rev_smul, rev_lmul]
  push_cast
  have e : (L : Rat) * (k * m) * rev c x = k * m * (L * rev c x) := by grind
  rw [e, h]
  have e2 : (k : Rat) * m * (rev s x * rev a x + rev b x) = m * rev s x * (k * rev a x) + k * (m * rev b x) := by grind
  rw [e2, h1, h2]; grind
theorem ed_len {g a s : List Int} {k : Int} (hk : k ≠ 0) (hg : Tr g) (ha : Tr a) (h0 : a ≠ []) (h : ∀ x : Rat, (k : Rat) * rev a x = rev s x * rev g x) : g ≠ [] ∧ tzl s ≠ [] ∧ (tzl s).length + g.length ≤ a.length + 1 := by
  have hc : ∀ i, k * cf a i = (ps (tzl s) * ps g).c i := fun i => by
    have h1 := rev_inj (p := a.map fun c => k * c) (q := lmul (tzl s) g) (fun x => by rw [rev_smul, rev_lmul, rev_tzl]; exact h x) i
    rw [cf_smul, cf_lmul] at h1
    rw [h1, PS.mul_c]; rfl
  have hz : ∀ i, k * cf a i = 0 → cf a i = 0 := fun i hi => (Int.mul_eq_zero.1 hi).resolve_left hk
  have hla := ha.mem h0
  have h1 : tzl s ≠ [] := fun e => hla (hz _ (by rw [hc, e, mul_zero_l (fun t => cf_ge (Nat.zero_le _))]))
  have h2 : g ≠ [] := fun e => hla (hz _ (by rw [hc, e, PS.mul_comm', mul_zero_l (fun t => cf_ge (Nat.zero_le _))]))
  refine ⟨h2, h1, ?_⟩
  have l1 := List.length_pos_iff.2 h1
  have l2 := List.length_pos_iff.2 h2
  have ht := conv_top (p := tzl s) (q := g) (a := (tzl s).length - 1) (b := g.length - 1) (fun i hi => cf_ge (by omega)) (fun i hi => cf_ge (by omega))
  rw [← hc] at ht
  have hne := Int.mul_ne_zero ((tr_tzl s).mem h1) (hg.mem h2)
  rcases Nat.lt_or_ge ((tzl s).length - 1 + (g.length - 1)) a.length with h9 | h9
  · omega
  · rw [cf_ge h9, Int.mul_zero] at ht; exact absurd ht.symm hne
theorem Ed.len {g a : List Int} (h : Ed g a) (hg : Tr g) (ha : Tr a) (h0 : a ≠ []) : g ≠ [] ∧ g.length ≤ a.length := by
  obtain ⟨k, s, hk, h⟩ := h
  obtain ⟨a1, a2, a3⟩ := ed_len hk hg ha h0 h
  have := List.length_pos_iff.2 a2
  exact ⟨a1, by omega⟩
theorem Ed.same {g a : List Int} (h : Ed g a) (hg : Tr g) (ha : Tr a) (h0 : a ≠ []) (hl : g.length = a.length) : Ed a g := by
  obtain ⟨k, s, hk, h⟩ := h
  obtain ⟨a1, a2, a3⟩ := ed_len hk hg ha h0 h
  have hl1 := List.length_pos_iff.2 a2
  match hs : tzl s, hl1, a3 with
  | [c], _, _ =>
    have hc : c ≠ 0 := by have := (tr_tzl s).mem a2; rw [hs] at this; exact this
    refine ⟨c, [k], hc, fun x => ?_⟩
    have h1 := h x
    rw [← rev_tzl s, hs, rev_one] at h1
    rw [rev_one]; exact h1.symm
  | c :: d :: r, _, h9 => simp at h9; omega
end Go.Sky
namespace Go.Sky
set_option linter.unusedVariables false
def Irr (q : List Int) : Prop := Tr q ∧ 2 ≤ q.length ∧ ∀ d, Tr d → Ed d q → d.length ≤ 1 ∨ d.length = q.length
def ppow (q : List Int) : Nat → List Int
  | 0 => [1]
  | n + 1 => pmul q (ppow q n)
end Go.Sky
namespace Go.Sky
set_option linter.unusedVariables false
end Go.Sky
namespace Go.Sky
set_option linter.unusedVariables false
def crs (f : Rat → Rat) (u v : Rat) : Int := if f u ≠ 0 ∧ f u * f v ≤ 0 then 1 else 0
theorem Big.near {ε x y : Rat} {f : Rat → Rat} (h : Big ε x f) (h1 : f x - f y ≤ ε / 2) (h2 : f y - f x ≤ ε / 2) : Big (ε / 2) y f := by
  unfold Big at *; grind
end Go.Sky
namespace Go.Sky
set_option linter.unusedVariables false
def Tay (s t M : Rat) (p : List Int) : Prop := ∀ x y, s ≤ x → x ≤ y → y ≤ t → -(M * (y - x) * (y - x)) ≤ rev p y - rev p x - (y - x) * rev (ld p) x ∧ rev p y - rev p x - (y - x) * rev (ld p) x ≤ M * (y - x) * (y - x)
end Go.Sky
namespace Go.Sky
set_option linter.unusedVariables false
theorem inj_le : ∀ (n m : Nat) (f : Nat → Nat), (∀ k, k < n → f k < m) → (∀ a b, a < n → b < n → f a = f b → a = b) → n ≤ m
  | 0, _, _, _, _ => Nat.zero_le _
  | n + 1, m, f, hf, hi => by
    have h0 := hf n (by omega)
    have := inj_le n (m - 1) (fun k => if f n < f k then f k - 1 else f k) (fun k hk => by
      have h1 := hf k (by omega)
      have h2 : f k ≠ f n := fun e => by have := hi k n (by omega) (by omega) e; omega
      split <;> omega) (fun a b ha hb e => by
      have h2 : f a ≠ f n := fun e => by have := hi a n (by omega) (by omega) e; omega
      have h3 : f b ≠ f n := fun e => by have := hi b n (by omega) (by omega) e; omega
      refine hi a b (by omega) (by omega) ?_
      split at e <;> split at e <;> omega)
    omega
theorem php {n m : Nat} {f : Nat → Nat} (h : m < n) (hf : ∀ k, k < n → f k < m) : ∃ a b, a < n ∧ b < n ∧ a ≠ b ∧ f a = f b := by
  refine Classical.byContradiction fun h9 => ?_
  have := inj_le n m f hf fun a b ha hb e => Classical.byContradiction fun h8 => h9 ⟨a, b, ha, hb, h8, e⟩
  omega
def enc (B : Nat) (d : Nat → Nat) : Nat → Nat
  | 0 => 0
  | n + 1 => enc B d n + d n * B ^ n
theorem enc_lt {B : Nat} {d : Nat → Nat} : ∀ n, (∀ i, i < n → d i < B) → enc B d n < B ^ n
  | 0, _ => by simp [enc]
  | n + 1, h => by
    have h1 := enc_lt n fun i hi => h i (by omega)
    have h2 := h n (by omega)
    have h3 : (d n + 1) * B ^ n ≤ B * B ^ n := Nat.mul_le_mul_right _ h2
    rw [Nat.add_mul, Nat.one_mul] at h3
    rw [Nat.pow_succ, Nat.mul_comm (B ^ n) B]
    show enc B d n + d n * B ^ n < _
    omega
theorem enc_inj {B : Nat} {d e : Nat → Nat} : ∀ n, (∀ i, i < n → d i < B) → (∀ i, i < n → e i < B) → enc B d n = enc B e n → ∀ i, i < n → d i = e i
  | 0, _, _, _, i, hi => absurd hi (Nat.not_lt_zero i)
  | n + 1, h1, h2, h, i, hi => by
    have a1 := enc_lt n fun i hi => h1 i (by omega)
    have a2 := enc_lt n fun i hi => h2 i (by omega)
    have h : enc B d n + d n * B ^ n = enc B e n + e n * B ^ n := h
    have hp : 0 < B ^ n := by omega
    have hd : d n = e n := by
      have b1 : (enc B d n + d n * B ^ n) / B ^ n = d n := by rw [Nat.add_mul_div_right _ _ hp, Nat.div_eq_of_lt a1, Nat.zero_add]
      have b2 : (enc B e n + e n * B ^ n) / B ^ n = e n := by rw [Nat.add_mul_div_right _ _ hp, Nat.div_eq_of_lt a2, Nat.zero_add]
      rw [← b1, ← b2, h]
    rcases Nat.lt_or_ge i n with h3 | h3
    · exact enc_inj n (fun i hi => h1 i (by omega)) (fun i hi => h2 i (by omega)) (by rw [hd] at h; omega) i h3
    · rw [show i = n by omega]; exact hd
def dig (B k j : Nat) : Nat := k / B ^ j % B
theorem enc_dig (B k : Nat) : ∀ n, enc B (dig B k) n = k % B ^ n
  | 0 => by simp [enc, Nat.mod_one]
  | n + 1 => by
    show enc B (dig B k) n + dig B k n * B ^ n = _
    rw [enc_dig B k n, Nat.pow_succ, Nat.mod_mul]
    unfold dig; rw [Nat.mul_comm]
theorem sumTo_le {f : Nat → Int} {C : Int} : ∀ n, (∀ i, i < n → -C ≤ f i ∧ f i ≤ C) → -((n : Int) * C) ≤ sumTo f n ∧ sumTo f n ≤ (n : Int) * C
  | 0, _ => by simp [sumTo_zero]
  | n + 1, h => by
    have h1 := sumTo_le n fun i hi => h i (by omega)
    have h2 := h n (by omega)
    have h3 : ((n + 1 : Nat) : Int) * C = (n : Int) * C + C := by push_cast; grind
    rw [sumTo_succ, h3]; omega
theorem sumTo_sub (f g : Nat → Int) : ∀ n, sumTo (fun i => f i - g i) n = sumTo f n - sumTo g n
  | 0 => by simp [sumTo_zero]
  | n + 1 => by rw [sumTo_succ, sumTo_succ, sumTo_succ, sumTo_sub f g n]; omega
theorem siegel {N M A : Nat} (hMN : M < N) (hA : 0 < A) (c : Nat → Nat → Int) (hc : ∀ i j, i < M → j < N → (c i j).natAbs ≤ A) :
    ∃ x : Nat → Int, (∃ j, j < N ∧ x j ≠ 0) ∧ (∀ j, j < N → (x j).natAbs ≤ (2 * N * A) ^ M) ∧ ∀ i, i < M → sumTo (fun j => c i j * x j) N = 0 := by
  generalize hX : (2 * N * A) ^ M = X
  generalize hW : N * (A * X) = W
  let d := fun k j => dig (X + 1) k j
  have hd : ∀ k j, d k j ≤ X := fun k j => Nat.le_of_lt_succ (Nat.mod_lt _ (Nat.succ_pos X))
  let y := fun k i => sumTo (fun j => c i j * (d k j : Int)) N
  have hy : ∀ k i, i < M → -(W : Int) ≤ y k i ∧ y k i ≤ (W : Int) := fun k i hi => by
    have h1 := sumTo_le (f := fun j => c i j * (d k j : Int)) (C := ((A * X : Nat) : Int)) N fun j hj => by
      have h2 := hc i j hi hj
      have h3 : (c i j * (d k j : Int)).natAbs ≤ A * X := by
        rw [Int.natAbs_mul, Int.natAbs_natCast]; exact Nat.mul_le_mul h2 (hd k j)
      omega
    have h4 : ((N : Int) * ((A * X : Nat) : Int)) = (W : Int) := by rw [← hW]; push_cast; rfl
    rw [h4] at h1; exact h1
  let e := fun k => enc (2 * W + 1) (fun i => (y k i + (W : Int)).toNat) M
  have he : ∀ k i, i < M → (y k i + (W : Int)).toNat < 2 * W + 1 := fun k i hi => by have := hy k i hi; omega
  have hlt : (2 * W + 1) ^ M < (X + 1) ^ N := by
    have h1 : 2 * W + 1 ≤ (2 * N * A) * (X + 1) := by
      have : 0 < N * A := Nat.mul_pos (by omega) hA
      have e1 : 2 * N * A * (X + 1) = 2 * W + 2 * (N * A) := by rw [← hW]; grind
      omega
    have h2 := Nat.pow_le_pow_left h1 M
    rw [Nat.mul_pow, hX] at h2
    have h3 : (X + 1) ^ (M + 1) ≤ (X + 1) ^ N := Nat.pow_le_pow_right (by omega) (by omega)
    rw [Nat.pow_succ] at h3
    have h4 : 0 < (X + 1) ^ M := Nat.pow_pos (by omega)
    have h5 : X * (X + 1) ^ M < (X + 1) ^ M * (X + 1) := by rw [Nat.mul_comm]; exact Nat.mul_lt_mul_of_pos_left (by omega) h4
    omega
  obtain ⟨a, b, ha, hb, hab, hf⟩ := php (f := e) hlt (fun k _ => enc_lt M (he k))
  have hyy := enc_inj M (he a) (he b) hf
  refine ⟨fun j => (d a j : Int) - (d b j : Int), ?_, fun j _ => ?_, fun i hi => ?_⟩
  · refine Classical.byContradiction fun h9 => hab ?_
    have h8 : ∀ j, j < N → d a j = d b j := fun j hj => Classical.byContradiction fun h7 => h9 ⟨j, hj, fun h6 => h7 (by have h6 : (d a j : Int) - (d b j : Int) = 0 := h6; omega)⟩
    have e1 := enc_dig (X + 1) a N
    have e2 := enc_dig (X + 1) b N
    rw [Nat.mod_eq_of_lt ha] at e1
    rw [Nat.mod_eq_of_lt hb] at e2
    have e3 : ∀ n, n ≤ N → enc (X + 1) (dig (X + 1) a) n = enc (X + 1) (dig (X + 1) b) n := fun n => by
      induction n with
      | zero => intro _; rfl
      | succ n ih =>
        intro hn
        have h7 : dig (X + 1) a n = dig (X + 1) b n := h8 n (by omega)
        show enc _ _ n + dig (X + 1) a n * _ = enc _ _ n + dig (X + 1) b n * _
        rw [ih (by omega), h7]
    rw [← e1, ← e2]; exact e3 N (Nat.le_refl _)
  · have h1 := hd a j
    have h2 := hd b j
    dsimp only; omega
  · have h1 : sumTo (fun j => c i j * ((d a j : Int) - (d b j : Int))) N = y a i - y b i := by
      rw [← sumTo_sub]; exact sumTo_congr fun j _ => by grind
    rw [h1]
    have h2 := hyy i hi
    have h3 := hy a i hi
    have h4 := hy b i hi
    omega
end Go.Sky
namespace Go.Sky
set_option linter.unusedVariables false
theorem sumTo_split (f : Nat → Int) (p : Nat) : ∀ q, sumTo f (p + q) = sumTo f p + sumTo (fun k => f (p + k)) q
  | 0 => by simp [sumTo_zero]
  | q + 1 => by rw [← Nat.add_assoc, sumTo_succ, sumTo_succ, sumTo_split f p q]; omega
def sft (a : List Int) (t k : Nat) : Int := if k ≤ t then cf a (t - k) else 0
theorem conv_sft {U a : List Int} {p : Nat} (h : U.length = p) (t : Nat) : (ps U * ps a).c t = sumTo (fun k => sft a t k * cf U k) p := by
  rw [← acc_conv, ← h]
  refine sumTo_congr fun k _ => ?_
  unfold sft; split <;> grind
theorem conv_high {U a : List Int} {p t : Nat} (h : U.length ≤ p) (ht : p + a.length ≤ t + 1) : (ps U * ps a).c t = 0 := by
  rw [PS.mul_c]
  refine sumTo_z fun k hk => ?_
  rw [ps_c, ps_c]
  rcases Nat.lt_or_ge k U.length with h1 | h1
  · rw [cf_ge (p := a) (by omega), Int.mul_zero]
  · rw [cf_ge h1, Int.zero_mul]
theorem siegel_poly {a b : List Int} {p q lo A : Nat} (hA : 0 < A) (ha : ∀ i, (cf a i).natAbs ≤ A) (hb : ∀ i, (cf b i).natAbs ≤ A) (h0 : 0 < p + q) (h1 : p + a.length ≤ p + q + lo) (h2 : q + b.length ≤ p + q + lo) :
    ∃ U V : List Int, U.length = p ∧ V.length = q ∧ ((∃ i, cf U i ≠ 0) ∨ ∃ i, cf V i ≠ 0) ∧ (∀ i, (cf U i).natAbs ≤ (2 * (p + q) * A) ^ (p + q - 1)) ∧ (∀ i, (cf V i).natAbs ≤ (2 * (p + q) * A) ^ (p + q - 1)) ∧
      ∀ t, lo ≤ t → (ps U * ps a).c t + (ps V * ps b).c t = 0 := by
  obtain ⟨x, ⟨j, hj, hne⟩, hx, he⟩ := siegel (N := p + q) (M := p + q - 1) (A := A) (by omega) hA (fun i j => if j < p then sft a (lo + i) j else sft b (lo + i) (j - p)) (fun i j _ _ => by
    split <;> unfold sft <;> split
    · exact ha _
    · simp
    · exact hb _
    · simp)
  have cU : ∀ i, cf (mk p x) i = if i < p then x i else 0 := fun i => cf_mk _ _ _
  have cV : ∀ i, cf (mk q fun k => x (p + k)) i = if i < q then x (p + i) else 0 := fun i => cf_mk _ _ _
  refine ⟨mk p x, mk q fun k => x (p + k), length_mk _ _, length_mk _ _, ?_, fun i => ?_, fun i => ?_, fun t ht => ?_⟩
  · rcases Nat.lt_or_ge j p with h | h
    · exact .inl ⟨j, by rw [cU, if_pos h]; exact hne⟩
    · exact .inr ⟨j - p, by rw [cV, if_pos (by omega), show p + (j - p) = j by omega]; exact hne⟩
  · rw [cU]; split
    · exact hx i (by omega)
    · exact Nat.zero_le _
  · rw [cV]; split
    · exact hx _ (by omega)
    · exact Nat.zero_le _
  · rcases Nat.lt_or_ge (t - lo) (p + q - 1) with h | h
    · have h3 := he (t - lo) h
      rw [show lo + (t - lo) = t by omega, sumTo_split] at h3
      rw [conv_sft (length_mk _ _), conv_sft (length_mk _ _), ← h3]
      congr 1
      · exact sumTo_congr fun k hk => by rw [if_pos hk, cU, if_pos hk]
      · exact sumTo_congr fun k hk => by rw [if_neg (by omega), cV, if_pos hk, show p + k - p = k by omega]
    · rw [conv_high (Nat.le_of_eq (length_mk _ _)) (by omega), conv_high (Nat.le_of_eq (length_mk _ _)) (by omega)]; rfl
theorem conv_le {U a : List Int} {p t X A : Nat} (h : U.length = p) (hU : ∀ i, (cf U i).natAbs ≤ X) (ha : ∀ i, (cf a i).natAbs ≤ A) : ((ps U * ps a).c t).natAbs ≤ p * (X * A) := by
  rw [conv_sft h]
  have h1 := sumTo_le (f := fun k => sft a t k * cf U k) (C := ((X * A : Nat) : Int)) p fun k _ => by
    have : (sft a t k * cf U k).natAbs ≤ X * A := by
      rw [Int.natAbs_mul, Nat.mul_comm]
      refine Nat.mul_le_mul (hU k) ?_
      unfold sft; split
      · exact ha _
      · simp
    omega
  have h2 : ((p : Int) * ((X * A : Nat) : Int)) = ((p * (X * A) : Nat) : Int) := by push_cast; rfl
  rw [h2] at h1; omega
end Go.Sky
namespace Go.Sky
set_option linter.unusedVariables false
theorem prod_len {w q y : List Int} {n : Nat} (h : ∀ x, rev w x = rev q x * rev y x) (hy : Tr y) (h0 : y ≠ []) (hn : ∀ i, n ≤ i → cf w i = 0) : tzl q = [] ∨ (tzl q).length + y.length ≤ n + 1 := by
  by_cases hq : tzl q = []
  · exact .inl hq
  · right
    have hc : ∀ i, cf w i = (ps (tzl q) * ps y).c i := fun i => by
      rw [rev_inj (p := w) (q := lmul (tzl q) y) (fun x => by rw [rev_lmul, rev_tzl]; exact h x) i, cf_lmul, PS.mul_c]; rfl
    have l1 := List.length_pos_iff.2 hq
    have l2 := List.length_pos_iff.2 h0
    have ht := conv_top (p := tzl q) (q := y) (a := (tzl q).length - 1) (b := y.length - 1) (fun i hi => cf_ge (by omega)) (fun i hi => cf_ge (by omega))
    rw [← hc] at ht
    have hne := Int.mul_ne_zero ((tr_tzl q).mem hq) (hy.mem h0)
    rcases Nat.lt_or_ge ((tzl q).length - 1 + (y.length - 1)) n with h9 | h9
    · omega
    · rw [hn _ h9] at ht; exact absurd ht.symm hne
theorem mul_zero_rev {v f : List Int} (hv : tzl v ≠ []) (h : ∀ x, rev v x * rev f x = 0) (x : Rat) : rev f x = 0 := by
  by_cases hf : tzl f = []
  · rw [← rev_tzl, hf]; rfl
  · exfalso
    rcases prod_len (w := []) (q := v) (y := tzl f) (n := 0) (fun x => by rw [rev_tzl, h x]; rfl) (tr_tzl f) hf (fun i _ => cf_nil i) with h9 | h9
    · exact hv h9
    · have := List.length_pos_iff.2 hf
      have := List.length_pos_iff.2 hv
      omega
structure Inv (a b x y : List Int) : Prop where
  ex : ∃ (α β γ : Int) (u' v' u v : List Int), α ≠ 0 ∧ β ≠ 0 ∧ γ ≠ 0 ∧
    (∀ t : Rat, (α : Rat) * rev x t = rev u' t * rev a t + rev v' t * rev b t) ∧ (∀ t : Rat, (β : Rat) * rev y t = rev u t * rev a t + rev v t * rev b t) ∧
    (∀ t : Rat, rev u' t * rev v t - rev u t * rev v' t = (γ : Rat)) ∧ (tzl v).length ≤ a.length - x.length + 1 ∧ (tzl v').length ≤ a.length - x.length + 1
  xl : x.length ≤ b.length
  yl : y.length < x.length
theorem quo_len {x q y z : List Int} {L : Int} {c : Int} (hy : Tr y) (h0 : y ≠ []) (hz : z.length ≤ x.length) (h : ∀ t : Rat, (L : Rat) * rev x t = rev q t * rev y t + (c : Rat) * rev z t) : tzl q = [] ∨ (tzl q).length + y.length ≤ x.length + 1 :=
  prod_len (w := ladd (x.map fun a => L * a) (z.map fun a => (-c) * a)) (n := x.length) (fun t => by rw [rev_ladd, rev_smul, rev_smul]; have := h t; push_cast; grind) hy h0 fun i hi => by
    rw [cf_ladd, cf_smul, cf_smul, cf_ge hi, cf_ge (p := z) (by omega)]; omega
theorem len_lmul_le {p q : List Int} {m n : Nat} (hp : (tzl p).length ≤ m) (hq : (tzl q).length ≤ n) (i : Nat) (hi : m + n ≤ i + 1) : cf (lmul p q) i = 0 := by
  have h1 : cf (lmul p q) i = cf (lmul (tzl p) (tzl q)) i := rev_inj (fun x => by rw [rev_lmul, rev_lmul, rev_tzl, rev_tzl]) i
  rw [h1, cf_lmul]
  have h2 := conv_high (U := tzl p) (a := tzl q) (p := m) (t := i) hp (by omega)
  rw [PS.mul_c] at h2
  exact h2
theorem tzl_len {p : List Int} {n : Nat} (h : ∀ i, n ≤ i → cf p i = 0) : (tzl p).length ≤ n := tzl_len_le h
theorem cf_high {p : List Int} {n i : Nat} (h : (tzl p).length ≤ n) (hi : n ≤ i) : cf p i = 0 := by
  rw [← cf_tzl]; exact cf_ge (by omega)
theorem Inv.next {a b x y z z' q : List Int} {L : Int} (hI : Inv a b x y) (hab : b.length ≤ a.length) (hx : Tr x) (hy : Tr y) (h0 : y ≠ []) (hL : L ≠ 0) (h : ∀ t : Rat, (L : Rat) * rev x t = rev q t * rev y t + rev z' t) (hz : Sim z' z) (hzl : z.length < y.length) : Inv a b y z := by
  obtain ⟨⟨α, β, γ, u', v', u, v, hα, hβ, hγ, e1, e2, e3, l1, l2⟩, xl, yl⟩ := hI
  obtain ⟨m, n, hm, hn, hs⟩ := hz
  have hs' : ∀ t : Rat, (m : Rat) * rev z' t = (n : Rat) * rev z t := fun t => by
    have := rev_ext t (z'.map fun a => m * a) (z.map fun a => n * a) fun i => by rw [cf_smul, cf_smul, hs]
    rwa [rev_smul, rev_smul] at this
  have h9 : ∀ t : Rat, ((L * m : Int) : Rat) * rev x t = rev (q.map fun a => m * a) t * rev y t + (n : Rat) * rev z t := fun t => by
    rw [rev_smul]; push_cast
    have := h t; have := hs' t; grind
  have hql := quo_len hy h0 (by omega) h9
  have hqz : (tzl (q.map fun a => m * a)).length ≤ x.length - y.length + 1 := by
    rcases hql with hq | hq
    · rw [hq]; simp
    · omega
  generalize hQ : (q.map fun a => m * a) = Q at *
  have key : ∀ t : Rat, ((n * (α * β) : Int) : Rat) * rev z t = rev (ladd (u'.map fun c => (L * m * β) * c) ((lmul Q u).map fun c => (-α) * c)) t * rev a t + rev (ladd (v'.map fun c => (L * m * β) * c) ((lmul Q v).map fun c => (-α) * c)) t * rev b t := fun t => by
    rw [rev_ladd, rev_ladd, rev_smul, rev_smul, rev_smul, rev_smul, rev_lmul, rev_lmul]
    have a1 := h9 t; have a2 := e1 t; have a3 := e2 t
    push_cast at a1 ⊢
    have : (n : Rat) * (α * β) * rev z t = α * β * (n * rev z t) := by grind
    rw [this, show (n : Rat) * rev z t = L * m * rev x t - rev Q t * rev y t by grind]
    have : (α : Rat) * β * (L * m * rev x t - rev Q t * rev y t) = L * m * β * (α * rev x t) - α * rev Q t * (β * rev y t) := by grind
    rw [this, a2, a3]; grind
  refine ⟨⟨β, n * (α * β), -(L * m * β * γ), u, v, _, _, hβ, Int.mul_ne_zero hn (Int.mul_ne_zero hα hβ), ?_, e2, key, fun t => ?_, ?_, ?_⟩, by omega, hzl⟩
  · have := Int.mul_ne_zero (Int.mul_ne_zero (Int.mul_ne_zero hL hm) hβ) hγ; omega
  · rw [rev_ladd, rev_ladd, rev_smul, rev_smul, rev_smul, rev_smul, rev_lmul, rev_lmul]
    have := e3 t; push_cast; grind
  · refine tzl_len fun i hi => ?_
    rw [cf_ladd, cf_smul, cf_smul, cf_high (p := v') l2 (by omega), len_lmul_le hqz l1 i (by omega)]; omega
  · omega
theorem Inv.first {a b z z' q : List Int} {L : Int} (hab : b.length ≤ a.length) (ha : Tr a) (hb : Tr b) (h0 : b ≠ []) (hL : L ≠ 0) (h : ∀ t : Rat, (L : Rat) * rev a t = rev q t * rev b t + rev z' t) (hz : Sim z' z) (hzl : z.length < b.length) : Inv a b b z := by
  obtain ⟨m, n, hm, hn, hs⟩ := hz
  have hs' : ∀ t : Rat, (m : Rat) * rev z' t = (n : Rat) * rev z t := fun t => by
    have := rev_ext t (z'.map fun a => m * a) (z.map fun a => n * a) fun i => by rw [cf_smul, cf_smul, hs]
    rwa [rev_smul, rev_smul] at this
  have h9 : ∀ t : Rat, ((L * m : Int) : Rat) * rev a t = rev (q.map fun a => m * a) t * rev b t + (n : Rat) * rev z t := fun t => by
    rw [rev_smul]; push_cast
    have := h t; have := hs' t; grind
  have hql := quo_len hb h0 (by omega) h9
  have hqz : (tzl (q.map fun a => m * a)).length ≤ a.length - b.length + 1 := by
    rcases hql with hq | hq
    · rw [hq]; simp
    · omega
  generalize hQ : (q.map fun a => m * a) = Q at *
  refine ⟨⟨1, n, -(L * m), [], [1], [L * m], Q.map fun c => (-1) * c, by decide, hn, ?_, fun t => ?_, fun t => ?_, fun t => ?_, ?_, ?_⟩, Nat.le_refl _, hzl⟩
  · have := Int.mul_ne_zero hL hm; omega
  · rw [rev_one]; show _ = (0 : Rat) * _ + _; grind
  · rw [rev_one, rev_smul]; have := h9 t; push_cast at this ⊢; grind
  · rw [rev_one, rev_one]; show (0 : Rat) * _ - _ = _; push_cast; grind
  · refine tzl_len fun i hi => ?_
    rw [cf_smul, cf_high hqz (by omega)]; omega
  · refine Nat.le_trans (tzl_le _) ?_
    simp
end Go.Sky
namespace Go.Sky
set_option linter.unusedVariables false
theorem sz_pow {n : Nat} {a : List Int} (h : Sz n a) (i : Nat) : (cf a i).natAbs ≤ 2 ^ n := Nat.le_of_lt ((bl_le n _).1 (h i))
theorem rev_nonzero {p : List Int} (h : tzl p = []) (x : Rat) : rev p x = 0 := by rw [← rev_tzl, h]; rfl
theorem tzl_ne {p : List Int} {i : Nat} (h : cf p i ≠ 0) : tzl p ≠ [] := fun e => h ((tzl_nil_iff p).1 e i)
theorem nn_eq {x a b : Nat} (h1 : x ≤ b) (h2 : b ≤ a) : b - x + 1 + (a - x + 1) = a + b - 2 * x + 2 := by omega
theorem Inv.bound {a b x y : List Int} {n s : Nat} (hI : Inv a b x y) (hab : b.length ≤ a.length) (ha : Tr a) (hx : Tr x) (hy : Tr y) (h0 : y ≠ []) (hp : pcont y = 1) (na : Sz n a) (nb : Sz n b) (hs : a.length + b.length - 2 * x.length + 2 ≤ 2 ^ s) :
    msz y ≤ (s + 1 + n) * (a.length + b.length - 2 * x.length + 2) := by
  obtain ⟨⟨α, β, γ, u', v', u, v, hα, hβ, hγ, e1, e2, e3, l1, l2⟩, xl, yl⟩ := hI
  have hy1 := List.length_pos_iff.2 h0
  have hx0 : x ≠ [] := fun e => by rw [e] at yl; simp at yl
  have ha0 : a ≠ [] := fun e => by
    have h9 : a.length = 0 := by rw [e]; rfl
    omega
  obtain ⟨U, V, lU, lV, hne, bU, bV, hz⟩ := siegel_poly (a := a) (b := b) (p := b.length - x.length + 1) (q := a.length - x.length + 1) (lo := x.length - 1) (A := 2 ^ n) (Nat.pow_pos (by decide)) (sz_pow na) (sz_pow nb) (by omega) (by omega) (by omega)
  have hv : a.length + 1 ≤ (tzl v).length + x.length := by
    refine Classical.byContradiction fun h9 => ?_
    have hid : ∀ i, cf (ladd (a.map fun c => γ * c) ((lmul y v').map fun c => β * c)) i = cf (lmul (tzl v) (x.map fun c => α * c)) i := fun i => rev_inj (fun t => by
      rw [rev_ladd, rev_smul, rev_smul, rev_lmul, rev_lmul, rev_smul, rev_tzl]
      have a1 := e1 t; have a2 := e2 t; have a3 := e3 t
      have : rev v t * (α * rev x t) = (rev u' t * rev v t - rev u t * rev v' t) * rev a t + (rev u t * rev a t + rev v t * rev b t) * rev v' t := by rw [a1]; grind
      rw [this, a3, ← a2]; grind) i
    have h1 := hid (a.length - 1)
    rw [cf_ladd, cf_smul, cf_smul, len_lmul_le (m := y.length) (n := a.length - x.length + 1) (tzl_le _) l2 _ (by omega), cf_lmul] at h1
    have h2 := conv_high (U := tzl v) (a := x.map fun c => α * c) (p := (tzl v).length) (t := a.length - 1) (Nat.le_refl _) (by rw [List.length_map]; omega)
    rw [PS.mul_c] at h2
    have h3 : sumTo (fun k => cf (tzl v) k * cf (x.map fun c => α * c) (a.length - 1 - k)) (a.length - 1 + 1) = 0 := h2
    rw [h3] at h1
    have := Int.mul_ne_zero hγ (ha.mem ha0)
    omega
  have hvne : tzl v ≠ [] := fun e => by rw [e] at hv; simp at hv; omega
  have cR : ∀ i, cf (ladd (lmul U a) (lmul V b)) i = (ps U * ps a).c i + (ps V * ps b).c i := fun i => by
    rw [cf_ladd, cf_lmul, cf_lmul, PS.mul_c, PS.mul_c]; rfl
  generalize hR : ladd (lmul U a) (lmul V b) = R at cR
  have rR : ∀ t, rev R t = rev U t * rev a t + rev V t * rev b t := fun t => by rw [← hR, rev_ladd, rev_lmul, rev_lmul]
  have lR : (tzl R).length ≤ x.length - 1 := tzl_len fun i hi => by rw [cR]; exact hz i hi
  have hf : tzl (ladd (lmul U v) ((lmul u V).map fun c => (-1) * c)) = [] := by
    rcases prod_len (w := ladd (lmul R v) ((lmul y V).map fun c => (-β) * c)) (q := ladd (lmul U v) ((lmul u V).map fun c => (-1) * c)) (y := a) (n := a.length - 1) (fun t => by
      rw [rev_ladd, rev_smul, rev_lmul, rev_lmul, rev_ladd, rev_smul, rev_lmul, rev_lmul, rR]
      have a2 := e2 t
      push_cast
      have : (-(β : Rat)) * (rev y t * rev V t) = - (β * rev y t) * rev V t := by grind
      rw [this, a2]; grind) ha ha0 (fun i hi => by
      rw [cf_ladd, cf_smul, len_lmul_le lR l1 i (by omega), len_lmul_le (m := y.length) (n := a.length - x.length + 1) (tzl_le _) (Nat.le_trans (tzl_le _) (Nat.le_of_eq lV)) i (by omega)]; omega) with h9 | h9
    · exact h9
    · refine Classical.byContradiction fun h8 => ?_
      have := List.length_pos_iff.2 h8; omega
  have huv : ∀ t, rev U t * rev v t = rev u t * rev V t := fun t => by
    have := rev_nonzero hf t
    rw [rev_ladd, rev_smul, rev_lmul, rev_lmul] at this
    push_cast at this; grind
  have hRv : ∀ t, rev R t * rev v t = β * rev y t * rev V t := fun t => by
    rw [rR, e2 t]
    have := huv t; grind
  have hw : ∀ t, (γ : Rat) * rev V t = rev v t * rev (ladd (lmul u' V) ((lmul v' U).map fun c => (-1) * c)) t := fun t => by
    rw [rev_ladd, rev_smul, rev_lmul, rev_lmul, ← e3 t]
    have := huv t; push_cast; grind
  generalize ladd (lmul u' V) ((lmul v' U).map fun c => (-1) * c) = w at hw
  have hV : tzl V ≠ [] := fun e => by
    rcases hne with ⟨i, hi⟩ | ⟨i, hi⟩
    · refine hi (rev_inj (p := U) (q := []) (fun t => ?_) i ▸ cf_nil i)
      exact mul_zero_rev (v := v) (f := U) hvne (fun t => by have := huv t; rw [rev_nonzero e] at this; grind) t
    · exact tzl_ne hi e
  have hwl : ∃ c : Int, c ≠ 0 ∧ ∀ t, rev w t = (c : Rat) := by
    have hwne : tzl w ≠ [] := fun e => hV ((tzl_nil_iff V).2 fun i => by
      have := rev_inj (p := V.map fun c => γ * c) (q := []) (fun t => by rw [rev_smul, hw t, rev_nonzero e]; show _ = (0 : Rat); grind) i
      rw [cf_smul, cf_nil] at this
      exact (Int.mul_eq_zero.1 this).resolve_left hγ)
    rcases prod_len (w := V.map fun c => γ * c) (q := w) (y := tzl v) (n := a.length - x.length + 1) (fun t => by rw [rev_smul, rev_tzl, hw t]; grind) (tr_tzl v) hvne (fun i hi => by rw [cf_smul, cf_ge (by omega)]; omega) with h9 | h9
    · exact absurd h9 hwne
    · have h8 := List.length_pos_iff.2 hwne
      have h7 : (tzl w).length = 1 := by omega
      match hc : tzl w, h7 with
      | [c], _ =>
        refine ⟨c, ?_, fun t => by rw [← rev_tzl, hc, rev_one]⟩
        have := (tr_tzl w).mem hwne
        rw [hc] at this; exact this
  obtain ⟨c, hc0, hc⟩ := hwl
  have hsim : Sim R y := by
    refine ⟨γ, β * c, hγ, Int.mul_ne_zero hβ hc0, fun i => ?_⟩
    have := rev_inj (p := R.map fun d => γ * d) (q := y.map fun d => (β * c) * d) (fun t => by
      rw [rev_smul, rev_smul]; push_cast
      have h1 : rev (ladd (R.map fun d => γ * d) (y.map fun d => (-(β * c)) * d)) t = 0 := mul_zero_rev (v := v) hvne (fun t => by
        rw [rev_ladd, rev_smul, rev_smul]; push_cast
        have a1 := hRv t; have a2 := hw t; rw [hc] at a2
        have : rev v t * (γ * rev R t + -(β * c : Rat) * rev y t) = γ * (rev R t * rev v t) - β * rev y t * (rev v t * c) := by grind
        rw [this, a1, ← a2]; grind) t
      rw [rev_ladd, rev_smul, rev_smul] at h1
      push_cast at h1; grind) i
    rwa [cf_smul, cf_smul] at this
  have hsz : Sz ((s + 1 + n) * (a.length + b.length - 2 * x.length + 2)) R := fun i => by
    rw [cR]
    have c1 := conv_le (t := i) lU bU (sz_pow na)
    have c2 := conv_le (t := i) lV bV (sz_pow nb)
    have hN3 : b.length - x.length + 1 + (a.length - x.length + 1) = a.length + b.length - 2 * x.length + 2 := nn_eq xl hab
    rw [← hN3] at hs ⊢
    generalize hN : b.length - x.length + 1 + (a.length - x.length + 1) = N at *
    generalize hXX : (2 * N * 2 ^ n) ^ (N - 1) = X at *
    have c3 : ((ps U * ps a).c i + (ps V * ps b).c i).natAbs ≤ N * (X * 2 ^ n) := by
      rw [← hN, Nat.add_mul]
      have := Int.natAbs_add_le ((ps U * ps a).c i) ((ps V * ps b).c i)
      omega
    refine (bl_le _ _).2 (Nat.lt_of_le_of_lt c3 ?_)
    have hX0 : 0 < X := by rw [← hXX]; exact Nat.pow_pos (Nat.mul_pos (by omega) (Nat.pow_pos (by decide)))
    have c4 : N * (X * 2 ^ n) < (2 * N * 2 ^ n) ^ N := by
      have e : (2 * N * 2 ^ n) ^ N = X * (2 * N * 2 ^ n) := by
        rw [← hXX, ← Nat.pow_succ, Nat.succ_eq_add_one, show N - 1 + 1 = N by omega]
      rw [e]
      have : 0 < N * (X * 2 ^ n) := Nat.mul_pos (by omega) (Nat.mul_pos hX0 (Nat.pow_pos (by decide)))
      have e2 : X * (2 * N * 2 ^ n) = 2 * (N * (X * 2 ^ n)) := by grind
      omega
    have c5 : 2 * N * 2 ^ n ≤ 2 ^ (s + 1 + n) := by
      rw [Nat.pow_add, Nat.pow_succ]
      exact Nat.mul_le_mul_right _ (by omega)
    have c6 := Nat.pow_le_pow_left c5 N
    rw [← Nat.pow_mul] at c6
    exact Nat.lt_of_lt_of_le c4 c6
  have h1 : tzl R ≠ [] := fun e => by
    obtain ⟨m, k, hm, hk, e9⟩ := hsim
    have := e9 (y.length - 1)
    rw [(tzl_nil_iff R).1 e, Int.mul_zero] at this
    exact Int.mul_ne_zero hk (hy.mem h0) this.symm
  have hsim2 : Sim (tzl R) y := by
    obtain ⟨m, k, hm, hk, e9⟩ := hsim
    exact ⟨m, k, hm, hk, fun i => by rw [cf_tzl]; exact e9 i⟩
  have h2 := (sim_pprim (tr_tzl R)).trans hsim2
  have h3 : ∀ i, (cf y i).natAbs = (cf (pprim (tzl R)) i).natAbs := fun i => by
    rcases sim_sign (tr_pprim (tr_tzl R)) hy (fun e => h1 (List.eq_nil_of_length_eq_zero (by rw [← length_pprim, e]; rfl))) (pcont_pprim (tr_tzl R) h1) hp h2 with h9 | h9
    · rw [h9]
    · rw [h9 i, Int.natAbs_neg]
  exact msz_le fun i => by rw [h3]; exact sz_pprim hsz.tzl i
end Go.Sky

