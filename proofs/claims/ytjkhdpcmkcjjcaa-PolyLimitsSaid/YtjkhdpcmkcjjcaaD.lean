/- the arithmetic of the reference
   Proved without conditions of its own: each theorem bears its own. -/
import Derived.Test.YtjkhdpcmkcjjcaaC
import Derived.Test.YtjkhdpcmkcjjcaaProg
set_option linter.all false
namespace Go.Sky
open Go.RowKit (Below)
set_option linter.unusedVariables false
set_option maxRecDepth 20000
theorem two_D : 2 ≤ 1000000000 := by decide
theorem D_pos : 0 < 1000000000 := by decide
abbrev d9p (v : Value) (x : Nat) : Pc := slp 1 encN v (dg 1000000000 x)
theorem len9_bl (x : Nat) : (dg 1000000000 x).length ≤ bl x := by
  rw [dg_length_le two_D]
  exact Nat.lt_of_lt_of_le (bl_self x) (Nat.pow_le_pow_left (by decide) _)
theorem tz_full {b : Nat} (hb : 2 ≤ b) {o : List Nat} (ho : ∀ d ∈ o, d < b) {x : Nat} (hv : val b o = x) (h : o.length = 0 ∨ b ^ (o.length - 1) ≤ x) : o = dg b x := by
  rw [← hv, dg_val hb o ho]
  have h1 : (tz o).length ≤ o.length := (tz_prefix o).1
  have h2 : o.length ≤ (tz o).length := by
    rw [← dg_val hb o ho, hv]
    rcases h with h | h
    · omega
    · have := (dg_length_lt hb (o.length - 1) x).2 h; omega
  have h3 := (tz_prefix o).2
  rw [List.take_of_length_le h2] at h3
  exact h3
theorem plus_step {b : Nat} {o xs ys : List Nat} {k c : Nat} (hl : o.length = k) (h : val b o + c * b ^ k = val b (xs.take k) + val b (ys.take k)) :
    val b (o ++ [(c + xs.getD k 0 + ys.getD k 0) % b]) + (c + xs.getD k 0 + ys.getD k 0) / b * b ^ (k + 1) = val b (xs.take (k + 1)) + val b (ys.take (k + 1)) := by
  rw [val_append, val_take_succ, val_take_succ, hl]
  have e := Nat.div_add_mod (c + xs.getD k 0 + ys.getD k 0) b
  generalize (c + xs.getD k 0 + ys.getD k 0) / b = q at *
  generalize (c + xs.getD k 0 + ys.getD k 0) % b = r at *
  simp only [val, Nat.pow_succ]
  generalize b ^ k = B at *
  have : (b * q + r) * B = (c + xs.getD k 0 + ys.getD k 0) * B := by rw [e]
  grind
def d9s (a b c : Nat) : Nat := if a < b + c then a + 1000000000 - (b + c) else a - (b + c)
theorem d9s_int {a b c : Nat} (ha : a < 1000000000) (hb : b < 1000000000) (hc : c ≤ 1) : d9s a b c < 1000000000 ∧ d9s a b c + (b + c) = a + brw a b c * 1000000000 := by
  unfold d9s brw
  split <;> omega
theorem minus_step {o xs ys : List Nat} {k c : Nat} (hc : c ≤ 1) (hx : xs.getD k 0 < 1000000000) (hy : ys.getD k 0 < 1000000000) (hl : o.length = k) (h : val 1000000000 o + val 1000000000 (ys.take k) = val 1000000000 (xs.take k) + c * 1000000000 ^ k) :
    val 1000000000 (o ++ [d9s (xs.getD k 0) (ys.getD k 0) c]) + val 1000000000 (ys.take (k + 1)) = val 1000000000 (xs.take (k + 1)) + brw (xs.getD k 0) (ys.getD k 0) c * 1000000000 ^ (k + 1) := by
  rw [val_append, val_take_succ, val_take_succ, hl]
  have e := (d9s_int hx hy hc).2
  generalize d9s (xs.getD k 0) (ys.getD k 0) c = r at *
  generalize brw (xs.getD k 0) (ys.getD k 0) c = q at *
  simp only [val, Nat.pow_succ]
  generalize 1000000000 ^ k = B at *
  have : (r + (ys.getD k 0 + c)) * B = (xs.getD k 0 + q * 1000000000) * B := by rw [e]
  grind
theorem all_snoc {p : Nat → Prop} {o : List Nat} (h : ∀ d ∈ o, p d) {x : Nat} (hx : p x) : ∀ d ∈ o ++ [x], p d := fun d hd => by
  rcases List.mem_append.1 hd with h1 | h1
  · exact h d h1
  · rw [List.mem_singleton.1 h1]; exact hx
theorem pow_le_dg {b x k : Nat} (hb : 2 ≤ b) (h : k < (dg b x).length) : b ^ k ≤ x := (dg_length_lt hb k x).1 h
theorem take_dg_all {b x k : Nat} (hb : 2 ≤ b) (h : (dg b x).length ≤ k) : val b ((dg b x).take k) = x := by rw [val_take_all _ _ _ h, val_dg hb]
def cmpI (x y : Nat) : Int := if x < y then -1 else if y < x then 1 else 0
section
variable {P : Program} {N : Nat} {sc : Nat → Prop} {env env' : Env} {H H' : Hp} {Q Q' : Exit → Act → World → Prop} {M : Nat → Prop}
variable {o : Oper} {t t' : TypeId} {x y : Operand} {m n : Nat}
theorem n_add (ho : o.op = .binOp .add t x y t') (hx : ev env x = some (.int .i64 (m : Int))) (hy : ev env y = some (.int .i64 (n : Int))) (h : m + n ≤ 9223372036854775807) : Det P N sc o env H (.int .i64 ((m + n : Nat) : Int)) := by
  have := d_add (P := P) (N := N) (sc := sc) (H := H) ho hx hy ⟨by omega, by omega⟩
  rwa [← Int.natCast_add] at this
theorem n_mul (ho : o.op = .binOp .mul t x y t') (hx : ev env x = some (.int .i64 (m : Int))) (hy : ev env y = some (.int .i64 (n : Int))) (h : m * n ≤ 9223372036854775807) : Det P N sc o env H (.int .i64 ((m * n : Nat) : Int)) := by
  have := d_mul (P := P) (N := N) (sc := sc) (H := H) ho hx hy (by rw [← Int.natCast_mul]; exact ⟨by omega, by omega⟩)
  rwa [← Int.natCast_mul] at this
theorem n_quo (ho : o.op = .binOp .quo t x y t') (hx : ev env x = some (.int .i64 (m : Int))) (hy : ev env y = some (.int .i64 (n : Int))) (h : m ≤ 9223372036854775807) (hn : 0 < n) : Det P N sc o env H (.int .i64 ((m / n : Nat) : Int)) := by
  have := d_quo (P := P) (N := N) (sc := sc) (H := H) ho hx hy (by omega) (by omega) (by omega)
  rwa [← Int.natCast_ediv] at this
theorem n_rem (ho : o.op = .binOp .rem t x y t') (hx : ev env x = some (.int .i64 (m : Int))) (hy : ev env y = some (.int .i64 (n : Int))) (hn : 0 < n) : Det P N sc o env H (.int .i64 ((m % n : Nat) : Int)) := by
  have := d_rem (P := P) (N := N) (sc := sc) (H := H) ho hx hy (by omega) (by omega)
  rwa [← Int.natCast_emod] at this
end
end Go.Sky
namespace Go.Sky
theorem dg_getD0 {l : List Nat} {i : Nat} (h : l.length ≤ i) : l.getD i 0 = 0 := by simp [List.getD, List.getElem?_eq_none h]
end Go.Sky
namespace Go.Sky
theorem dg_len_mono {b x y : Nat} (hb : 2 ≤ b) (h : x ≤ y) : (dg b x).length ≤ (dg b y).length := by
  rcases Nat.lt_or_ge (dg b y).length (dg b x).length with h1 | h1
  · have := dg_len_lt hb h1; omega
  · exact h1
end Go.Sky
namespace Go.Sky
theorem cmpI_ge {a b : Nat} : 0 ≤ cmpI a b ↔ b ≤ a := by unfold cmpI; split <;> (try split) <;> omega
theorem drop_set_val {q : List Nat} {k d : Nat} (hk : 0 < k) (h : k ≤ q.length) : val 1000000000 ((q.set (k - 1) d).drop (k - 1)) = d + 1000000000 * val 1000000000 (q.drop k) := by
  rw [drop_set _ _ _ (by omega), show k - 1 + 1 = k by omega]; rfl
end Go.Sky
namespace Go.Sky
theorem tz_three {m : Nat} (h : m < 9223372036854775809) : tz [m % 1000000000, m / 1000000000 % 1000000000, m / 1000000000 / 1000000000] = dg 1000000000 m := by
  rw [← dg_val two_D [m % 1000000000, m / 1000000000 % 1000000000, m / 1000000000 / 1000000000] (by intro d hd; simp at hd; omega)]
  congr 1
  simp only [val]
  omega
theorem sign9 {x : Int} (h : (((dg 1000000000 x.natAbs).length : Nat) : Int) = 0) : Value.int .i64 x.sign = .int .i64 0 := by
  have h1 := (dg_nil_iff two_D x.natAbs).1 (by omega)
  have : x = 0 := by omega
  subst this; rfl
theorem len9_pos {x : Nat} (h : ¬ (((dg 1000000000 x).length : Nat) : Int) = 0) : 0 < x := by
  rcases Nat.eq_zero_or_pos x with h1 | h1
  · subst h1; simp [dg_zero] at h
  · exact h1
theorem made_b {s : Bool} {n : Nat} {z : Int} (hn : n = z.natAbs) (hs : sg s z) : (s && decide (0 < n)) = decide (z < 0) := by
  subst hn
  cases s
  · have := hs.2 rfl; rw [Bool.false_and, decide_eq_false (by omega)]
  · have := hs.1 rfl; rw [Bool.true_and, decide_eq_decide]; omega
theorem len_pos9 (n : Nat) : decide ((0 : Int) < (((dg 1000000000 n).length : Nat) : Int)) = decide (0 < n) := by
  rw [decide_eq_decide]
  have := dg_nil_iff two_D n
  omega
theorem beq_dec {a b : Bool} (h : (a == b) = true) : a = b := by simpa using h
end Go.Sky
namespace Go.Sky
section
variable {P : Program} {N : Nat} {sc : Nat → Prop} {env env' : Env} {H H' : Hp} {Q Q' : Exit → Act → World → Prop} {M : Nat → Prop}
variable {o : Oper} {t t' : TypeId} {x y : Operand} {m n : Nat}
theorem nn_quo (ho : o.op = .binOp .quo t x y t') (hx : ev env x = some (.int .i64 (-(m : Int)))) (hy : ev env y = some (.int .i64 (n : Int))) (h : m ≤ 9223372036854775808) (hn : 1 < n) : Det P N sc o env H (.int .i64 (-((m / n : Nat) : Int))) := d_bin ho hx hy fun w => by
  have h1 : (-(m : Int)).tdiv (n : Int) = -((m / n : Nat) : Int) := by rw [Int.neg_tdiv, Int.ofNat_tdiv]
  have h2 : m / n ≤ 9223372036854775807 := by
    have := Nat.div_le_div_left (show 2 ≤ n from hn) (by omega : 0 < 2) (a := m)
    omega
  generalize m / n = q at *
  have hw : inI (-(q : Int)) := ⟨by omega, by omega⟩
  simp [binOp, Op.intDiv, h1, wrap_i hw]; omega
theorem nn_rem (ho : o.op = .binOp .rem t x y t') (hx : ev env x = some (.int .i64 (-(m : Int)))) (hy : ev env y = some (.int .i64 (n : Int))) (hn : 0 < n) : Det P N sc o env H (.int .i64 (-((m % n : Nat) : Int))) := d_bin ho hx hy fun w => by
  have h1 : (-(m : Int)).tmod (n : Int) = -((m % n : Nat) : Int) := by rw [Int.neg_tmod, Int.ofNat_tmod]
  simp [binOp, Op.intDiv, h1]; omega
theorem n_neg (ho : o.op = .unOp .neg t x) (hx : ev env x = some (.int .i64 (-(m : Int)))) (h : m ≤ 9223372036854775807) : Det P N sc o env H (.int .i64 (m : Int)) := fun a w hs => by
  have hw : inI (m : Int) := ⟨by omega, by omega⟩
  simp [execOp, ho, hs.ev hx, Op.unary, Op.intArith, wrap_i hw]
end
end Go.Sky
namespace Go.Sky
end Go.Sky
namespace Go.Sky
theorem to_step {p xs : List Nat} {k r : Nat} (hk : 0 < k) (hp : k ≤ p.length) (hx : k ≤ xs.length) (hv : val 1000000000 (p.drop k) * 256 + r = val 1000000000 (xs.drop k)) :
    val 1000000000 ((p.set (k - 1) ((r * 1000000000 + xs.getD (k - 1) 0) / 256)).drop (k - 1)) * 256 + (r * 1000000000 + xs.getD (k - 1) 0) % 256 = val 1000000000 (xs.drop (k - 1)) := by
  rw [drop_set_val hk hp, drop_get 0 xs (k - 1) (by omega), show k - 1 + 1 = k by omega]
  simp only [val]
  have e := Nat.div_add_mod (r * 1000000000 + xs.getD (k - 1) 0) 256
  generalize (r * 1000000000 + xs.getD (k - 1) 0) / 256 = q at *
  generalize (r * 1000000000 + xs.getD (k - 1) 0) % 256 = s at *
  generalize val 1000000000 (p.drop k) = A at *
  generalize val 1000000000 (xs.drop k) = B at *
  rw [← hv, Nat.add_mul, Nat.mul_add, Nat.mul_assoc 1000000000 A 256]
  generalize 1000000000 * (A * 256) = Z
  clear hv
  omega
theorem to_digit {r a : Nat} (hr : r < 256) (ha : a < 1000000000) : (r * 1000000000 + a) / 256 < 1000000000 := by
  have h : r * 1000000000 + a < 256 * 1000000000 := by
    have h1 : r * 1000000000 ≤ 255 * 1000000000 := Nat.mul_le_mul_right _ (by omega)
    omega
  exact Nat.div_lt_of_lt_mul h
theorem to_push {bs : List Nat} {m n : Nat} (hv : val 256 bs + 256 ^ bs.length * m = n) : val 256 (bs ++ [m % 256]) + 256 ^ (bs ++ [m % 256]).length * (m / 256) = n := by
  rw [val_append, List.length_append]
  simp only [val, List.length_cons, List.length_nil, Nat.pow_succ, Nat.zero_add, Nat.mul_zero, Nat.add_zero, Nat.pow_zero, Nat.mul_one]
  have e := Nat.div_add_mod m 256
  generalize m / 256 = q at *
  generalize m % 256 = s at *
  rw [← hv, ← e]
  generalize 256 ^ bs.length = P at *
  grind
theorem to_ge {bs : List Nat} {m n : Nat} (hv : val 256 bs + 256 ^ bs.length * m = n) (hm : 0 < m) : 256 ^ bs.length ≤ n := by
  have := Nat.le_mul_of_pos_right (256 ^ bs.length) hm
  omega
theorem to_len {bs : List Nat} {n : Nat} (h : 256 ^ bs.length ≤ n) : bs.length ≤ bl n := by
  have h1 := pow_le_dg (b := 256) (x := n) (k := bs.length) (by omega) ((dg_length_lt (by omega) _ _).2 h)
  have h2 := (dg_length_lt (by omega : 2 ≤ 256) bs.length n).2 h
  have h3 := len256 n
  omega
theorem drop_rev {bs : List Nat} {k : Nat} (hk : 0 < k) (h : k ≤ bs.length) : (bs.drop k).reverse ++ [bs.getD (k - 1) 0] = (bs.drop (k - 1)).reverse := by
  rw [drop_get 0 bs (k - 1) (by omega), show k - 1 + 1 = k by omega]; simp
theorem bstr_bs {bs : List Nat} {n : Nat} (h : bs = dg 256 n) : (⟨((bs.drop 0).reverse.map UInt8.ofNat).toArray⟩ : ByteArray) = bstr n := by rw [h, List.drop_zero]; rfl
end Go.Sky
namespace Go.Sky
end Go.Sky
namespace Go.Sky
def qfull (a b : Int) : Prop := 65536 < bl a.natAbs ∨ 65536 < bl b.natAbs
instance (a b : Int) : Decidable (qfull a b) := by unfold qfull; infer_instance
def qn (a b : Int) : Int := if qfull a b then 0 else a
def qd (a b : Int) : Int := if qfull a b then 0 else b
def qe (a b : Int) : Int := if qfull a b then 7 else 0
end Go.Sky
/- Slices of integers that hang at the elements of a slice. -/
namespace Go.Sky
open Go.RowKit (Below)
set_option linter.unusedVariables false
variable {P : Program} {N : Nat} {sc : Nat → Prop} {env env' : Env} {H H' : Hp} {Q Q' : Exit → Act → World → Prop} {M : Nat → Prop}
abbrev encW (w : Bool × ByteArray) : Value := .agg #[.bool w.1, .string w.2]
abbrev encI (z : Int × SL) : Value := .agg #[.bool (decide (z.1 < 0)), svv z.2]
abbrev encS {α : Type} (z : SL × α) : Value := svv z.1
abbrev qI (z : Int × SL) : Pc := d9p (svv z.2) z.1.natAbs
abbrev pp (v : Value) (zs : List (Int × SL)) : Pc := deep 2 encI qI v zs
abbrev ints (zs : List (Int × SL)) : List Int := zs.map Prod.fst
abbrev I0 : Int × SL := (0, none, 0, 0)
theorem length_ints (zs : List (Int × SL)) : (ints zs).length = zs.length := by simp
theorem cf_ints (zs : List (Int × SL)) (i : Nat) : (zs.getD i I0).1 = cf (ints zs) i := by
  simp only [cf, List.getD, ints, List.getElem?_map]
  cases zs[i]? <;> rfl
theorem pre_deep {β : Type} {k : Nat} {enc : β → Value} {q : β → Pc} {v : Value} {zs : List β} {al : Bool} {r : List Pc} {z : β} (i : Nat) (hi : lk H i = some (deep k enc q v zs)) (hi0 : Nat.beq i 0 = false) (hz : z ∈ zs) (h : PreOk H al r) : PreOk H al (q z :: r) :=
  ⟨⟨i, _, fun e => by subst e; simp at hi0, hi, fun w h => h.2 z hz, fun b hb => .inr ⟨z, hz, hb⟩, fun _ => rfl⟩, h⟩
theorem s_predeep {β : Type} {k : Nat} {enc : β → Value} {q : β → Pc} {v : Value} {zs : List β} (i j n : Nat) (hi : lk H i = some (deep k enc q v zs)) (hi0 : Nat.beq i 0 = false) (hn : n ≤ zs.length) : ∀ a w, Sat N sc env H a w → Sat N sc env ((j, deep k enc q (preV v n) (zs.take n)) :: H) a w :=
  s_sub i j hi hi0 rfl (fun w h => ⟨⟨rowAt_pre n hn h.1.1, fun b hb => h.1.2 b (by rw [ownBlock_preV] at hb; exact hb)⟩, fun z hz => h.2 z (List.mem_of_mem_take hz)⟩) (fun b hb => by
    rcases hb with hb | ⟨z, hz, hb⟩
    · left; rw [ownBlock_preV] at hb; exact hb
    · right; exact ⟨z, List.mem_of_mem_take hz, hb⟩) rfl
theorem f_self_deep {β : Type} {k : Nat} {enc : β → Value} {q : β → Pc} {v : Value} {zs : List β} (i : Nat) (hi : lk H i = some (deep k enc q v zs)) : ∀ a w, Sat N sc env H a w → preV v zs.length = v := fun a w hs => by
  obtain ⟨ad, c, h, _⟩ := (hs.hold i _ hi).1.1
  rw [h]; rfl
theorem take_ints (zs : List (Int × SL)) (k : Nat) : ints (zs.take k) = (ints zs).take k := by simp [ints, List.map_take]
theorem pre_dI {v : Value} {zs : List (Int × SL)} {al : Bool} {r : List Pc} {z : Int × SL} (i : Nat) (hi : lk H i = some (pp v zs)) (hi0 : Nat.beq i 0 = false) (hz : z ∈ zs) (h : PreOk H al r) : PreOk H al (d9p (svv z.2) z.1.natAbs :: r) := pre_deep (q := qI) (z := z) i hi hi0 hz h
/-- the place of an element's cell -/
def eaf (v : Value) (i k q : Nat) : Addr := (ead v i k).add q
end Go.Sky
namespace Go.Sky
set_option linter.unusedVariables false
set_option maxRecDepth 20000
theorem ints_snoc (zs : List (Int × SL)) (z : Int × SL) : ints (zs ++ [z]) = ints zs ++ [z.1] := by simp [ints]
theorem map_wr_iff (xs ys : List Int) : xs.map wr = ys.map wr ↔ xs = ys := by
  refine ⟨fun h => ?_, fun h => by rw [h]⟩
  exact List.map_inj_right (fun x y h => wv_inj (congrArg Prod.fst h) (congrArg Prod.snd h)) |>.1 h
theorem Cal.imp2 {P : Program} {f : FuncId} {args : Array Value} {p1 p q : Pc} {pre : List Pc} {al : Bool} {G : Type} {φ : G → Prop} {val : G → Value} {its : G → List Pc} (h : Cal P f args (p1 :: p :: pre) al φ val its) (hh : ∀ w, q.holds w → p.holds w) (hf : ∀ b, p.fp b → q.fp b) :
    Cal P f args (p1 :: q :: pre) al φ val its := fun w hp => by
  refine (h w fun r hr => ?_).mono ?_
  · rcases List.mem_cons.1 hr with rfl | hr
    · exact hp _ (List.mem_cons_self ..)
    · rcases List.mem_cons.1 hr with rfl | hr
      · exact hh w (hp q (List.mem_cons_of_mem _ (List.mem_cons_self ..)))
      · exact hp r (List.mem_cons_of_mem _ (List.mem_cons_of_mem _ hr))
  · rintro e w' ⟨g, he, hg, hb, hits⟩
    refine ⟨g, he, hg, hb, fun p' hp' => ?_⟩
    obtain ⟨h1, h2, h3⟩ := hits p' hp'
    refine ⟨h1, h2, fun b hb => ?_⟩
    rcases h3 b hb with h | ⟨h, r, hr, hrb⟩
    · exact .inl h
    · refine .inr ⟨h, ?_⟩
      rcases List.mem_cons.1 hr with rfl | hr
      · exact ⟨r, List.mem_cons_self .., hrb⟩
      · rcases List.mem_cons.1 hr with rfl | hr
        · exact ⟨q, List.mem_cons_of_mem _ (List.mem_cons_self ..), hf b hrb⟩
        · exact ⟨r, List.mem_cons_of_mem _ (List.mem_cons_of_mem _ hr), hrb⟩
end Go.Sky
namespace Go.Sky
/-! the pseudo-remainder, as the reference finds it -/
def shm (q : List Int) (c : Int) (s i : Nat) : List Int := mk (s + i) fun t => if t < s then 0 else c * cf q (t - s)
section
variable {p q : List Int}
theorem rsteps_top (hq : 0 < q.length) (hl : q.length ≤ p.length) : ∀ j, j ≤ p.length - q.length + 1 → ∀ t, p.length - j ≤ t → cf (rsteps p q j) t = 0
  | 0, _, t, ht => cf_ge (by unfold rsteps; omega)
  | j + 1, hj, t, ht => by
    rcases Nat.lt_or_ge t p.length with h | h
    · unfold rsteps
      rw [cf_rstep (by rw [length_rsteps]; exact h)]
      by_cases he : t = p.length - 1 - j
      · subst he
        rw [if_pos (by omega), show p.length - 1 - j - (p.length - 1 - j - (q.length - 1)) = q.length - 1 by omega]
        omega
      · rw [rsteps_top hq hl j (by omega) t (by omega), Int.zero_mul, if_neg (by omega)]; rfl
    · exact cf_ge (by rw [length_rsteps]; omega)
/-- what the reference's rest is at some step -/
def RestInv (p q R : List Int) (j : Nat) : Prop := Tr R ∧ ∀ t, cf R t = cf (rsteps p q j) t * cf q (q.length - 1) ^ (p.length - q.length + 1 - j)
end
end Go.Sky
namespace Go.Sky
section
variable {P : Program} {N : Nat} {sc : Nat → Prop} {env env' : Env} {H H' : Hp}
end
end Go.Sky
namespace Go.Sky
end Go.Sky
namespace Go.Sky
def rterm (a b : Int) : Nat → List Int
  | 0 => [1]
  | i + 1 => pmul (rterm a b i) (tzl [a, b])
def rsum (p : List Int) (a b d : Int) : Nat → List Int
  | 0 => []
  | i + 1 => padd (rsum p a b d i) (pscale (rterm a b i) (cf p i * d ^ (p.length - 1 - i)))
def hs (f : Nat → PS) : Nat → PS
  | 0 => 0
  | n + 1 => hs f n + f n
end Go.Sky
namespace Go.Sky
abbrev RW := List (Bool × ByteArray)
abbrev qR (z : SL × RW) : Pc := slp 2 encW (svv z.1) z.2
abbrev qZ (z : SL × List Int) : Pc := slp 2 wv (svv z.1) z.2
abbrev R0 : SL × RW := ((none, 0, 0), [])
def short1 (r : RW) : Bool := (decide (r.length ≤ 14) || decide (r.length = 26)) && r.all fun c => decide (c.2.size ≤ 16)
def shortb (ls : List RW) : Bool := ls.all short1
theorem cf_pder (p : List Int) (i : Nat) : cf (pder p) i = cf p (i + 1) * ((i : Int) + 1) := by
  unfold pder
  rw [cf_mk]
  split
  · rfl
  · rw [cf_ge (p := p) (by omega), Int.zero_mul]
theorem r1g' {P : Program} {N : Nat} {sc : Nat → Prop} {M : Nat → Prop} {env : Env} {H : Hp} {ops : Array Oper} {F : Env → Hp → Prop} {rest : List (Nat × Nat)} {i : Nat} {o : Oper} {G : Type} {φ : G → Prop} {genv : G → Env} {gH : G → Hp} {j e : Nat} {b : Bool} (ho : ops[i]? = some o) (hg : o.guard = some (j, b)) (hj : (ops[j]?).bind (·.dst) = some e) (he : lk env e = some (.bool b)) (heN : Nat.blt e N = true) (ht : T P N sc M o env H φ genv gH)
    (h : ∀ g, φ g → LD P N sc M ops F rest (genv g) (gH g)) :
    LD P N sc M ops F ((i, 1) :: rest) env H := r1g ht ho hg hj he heN h
theorem inI_bl {x : Int} (h : inI x) : bl x.natAbs ≤ 65536 := sz_ints (l := [x]) (fun y hy => by rw [List.mem_singleton.1 hy]; exact h) 0
end Go.Sky
namespace Go.Sky
open Go.Proofs
set_option linter.unusedVariables false
theorem pU : Enc Try.prog 81 1 encU := Enc.flat Try.sizeOf81 Try.isAgg81 (fun _ => rfl)
theorem pB : Enc Try.prog 5 1 encB := Enc.flat Try.sizeOf5 Try.isAgg5 (fun _ => rfl)
theorem pN : Enc Try.prog 3 1 encN := Enc.flat Try.sizeOf3 Try.isAgg3 (fun _ => rfl)
theorem pZ : Enc Try.prog 3 1 encZ := Enc.flat Try.sizeOf3 Try.isAgg3 (fun _ => rfl)
theorem add64_run (args : Array Value) (w : World) : (callFunc 89 args).run Try.prog w = ((add64Entry args).run Try.prog w).andThen fun v w' => .ok (.value v) w' :=
  run_callFunc_extern Try.func89 (by kernel_rfl) (by kernel_rfl) (by kernel_rfl) (by kernel_rfl) args w
theorem sub64_run (args : Array Value) (w : World) : (callFunc 90 args).run Try.prog w = ((sub64Entry args).run Try.prog w).andThen fun v w' => .ok (.value v) w' :=
  run_callFunc_extern Try.func90 (by kernel_rfl) (by kernel_rfl) (by kernel_rfl) (by kernel_rfl) args w
end Go.Sky
theorem Go.Proofs.Try.ti81 : Go.Proofs.Try.prog.info? 81 = some Go.Proofs.Try.t81 := by kernel_rfl
namespace Go.Sky
open Go.Proofs
end Go.Sky
theorem Go.Proofs.Try.ti5 : Go.Proofs.Try.prog.info? 5 = some Go.Proofs.Try.t5 := by kernel_rfl
namespace Go.Sky
open Go.Proofs
end Go.Sky
theorem Go.Proofs.Try.ti3 : Go.Proofs.Try.prog.info? 3 = some Go.Proofs.Try.t3 := by kernel_rfl
namespace Go.Sky
open Go.Proofs
theorem pW : Enc Try.prog 26 2 encW := Enc.agg (by decide) Try.sizeOf26 Try.isAgg26 (fun x => ⟨[.bool x.1, .string x.2], rfl, rfl, by simp [Value.oneCell']⟩)
theorem pV : Enc Try.prog 26 2 wv := Enc.agg (by decide) Try.sizeOf26 Try.isAgg26 (fun x => ⟨[.bool (decide (x < 0)), .string (bstr x.natAbs)], rfl, rfl, by simp [Value.oneCell']⟩)
theorem pI : Enc Try.prog 74 2 encI := Enc.agg (by decide) Try.sizeOf74 Try.isAgg74 (fun x => ⟨[.bool (decide (x.1 < 0)), svv x.2], rfl, rfl, by simp [Value.oneCell']⟩)
theorem sh26 : Try.prog.stoodInHeld 26 = false := by kernel_rfl
theorem sh32 : Try.prog.stoodInHeld 32 = false := by kernel_rfl
theorem eg26 : Try.prog.eqGuardType Try.prog.depth 26 = false := by kernel_rfl
theorem eg32 : Try.prog.eqGuardType Try.prog.depth 32 = false := by kernel_rfl
theorem in26 (d : Nat) (w : World) (a : Bool) (s : ByteArray) (b : Bool) (t : ByteArray) : (Op.equalIn (d + 2) 26 (.agg #[.bool a, .string s]) (.agg #[.bool b, .string t])).run Try.prog w = .ok (eqW a s b t) w := by
  have hu : Try.prog.underlying 26 = some (.struct (Try.prog.fieldsOf 26)) := by unfold Program.fieldsOf; rw [Try.underlying26]
  rw [run_equalIn_agg w (d + 1) 26 _ _ hu sh26]
  unfold Program.fieldsOf
  rw [Try.underlying26]
  simp [Op.eqFields, part, Try.isAgg4, Try.isAgg9, run_equalIn_bool' _ _ _ _ _ Try.underlying4, run_equalIn_string _ _ _ _ _ Try.underlying9]
  unfold eqW
  cases hab : (a == b)
  · simp_all
  · by_cases h : s.toList = t.toList <;> simp_all
theorem neq26 (w : World) (a : Bool) (s : ByteArray) (b : Bool) (t : ByteArray) : (binOp .neq 26 (.agg #[.bool a, .string s]) (.agg #[.bool b, .string t])).run Try.prog w = .ok (.bool (!eqW a s b t)) w := by
  rw [run_neq_struct, in26]; rfl
theorem in32 (d : Nat) (w : World) (a : Bool) (s : ByteArray) (a2 : Bool) (s2 : ByteArray) (b : Bool) (t : ByteArray) (b2 : Bool) (t2 : ByteArray) : (Op.equalIn (d + 3) 32 (.agg #[.bool a, .string s, .bool a2, .string s2]) (.agg #[.bool b, .string t, .bool b2, .string t2])).run Try.prog w = .ok (eqW a s b t && eqW a2 s2 b2 t2) w := by
  have hu : Try.prog.underlying 32 = some (.struct (Try.prog.fieldsOf 32)) := by unfold Program.fieldsOf; rw [Try.underlying32]
  rw [run_equalIn_agg w (d + 2) 32 _ _ hu sh32]
  unfold Program.fieldsOf
  rw [Try.underlying32]
  simp [Op.eqFields, part, Try.isAgg26, Try.sizeOf26, in26]
  cases hab : eqW a s b t <;> cases hab2 : eqW a2 s2 b2 t2 <;> simp_all
theorem neq32 (w : World) (a : Bool) (s : ByteArray) (a2 : Bool) (s2 : ByteArray) (b : Bool) (t : ByteArray) (b2 : Bool) (t2 : ByteArray) : (binOp .neq 32 (.agg #[.bool a, .string s, .bool a2, .string s2]) (.agg #[.bool b, .string t, .bool b2, .string t2])).run Try.prog w = .ok (.bool (!(eqW a s b t && eqW a2 s2 b2 t2))) w := by
  rw [run_neq_struct, in32]; rfl
end Go.Sky
theorem Go.Proofs.Try.ti26 : Go.Proofs.Try.prog.info? 26 = some Go.Proofs.Try.t26 := by kernel_rfl
namespace Go.Sky
open Go.Proofs
end Go.Sky
theorem Go.Proofs.Try.ti74 : Go.Proofs.Try.prog.info? 74 = some Go.Proofs.Try.t74 := by kernel_rfl
namespace Go.Sky
open Go.Proofs
end Go.Sky
theorem Go.Proofs.Try.ti4 : Go.Proofs.Try.prog.info? 4 = some Go.Proofs.Try.t4 := by kernel_rfl
namespace Go.Sky
open Go.Proofs
end Go.Sky
theorem Go.Proofs.Try.ti9 : Go.Proofs.Try.prog.info? 9 = some Go.Proofs.Try.t9 := by kernel_rfl
namespace Go.Sky
open Go.Proofs
theorem b26_   : Try.prog.built 26 [] = some #[.bool false, .string ⟨#[]⟩] := by
  refine built_struct _ Try.ti26 Try.underlying26 rfl (pl := [(0, 1), (1, 1)]) (by simp [Try.ti4, Try.ti9]; try decide) ?_
  simp [Instr.fill, show (Value.agg #[.bool false, .string ⟨#[]⟩]).cells = #[.bool false, .string ⟨#[]⟩] from rfl]
theorem b26_01 {v0 v1 : Value} (h0 : v0.oneCell' = true) (h1 : v1.oneCell' = true) : Try.prog.built 26 [(0, v0), (1, v1)] = some #[v0, v1] := by
  refine built_struct _ Try.ti26 Try.underlying26 rfl (pl := [(0, 1), (1, 1)]) (by simp [Try.ti4, Try.ti9]; try decide) ?_
  simp [Instr.fill, cells_of_one h0, cells_of_one h1, show (Value.agg #[.bool false, .string ⟨#[]⟩]).cells = #[.bool false, .string ⟨#[]⟩] from rfl]
theorem b26_1 {v1 : Value} (h1 : v1.oneCell' = true) : Try.prog.built 26 [(1, v1)] = some #[.bool false, v1] := by
  refine built_struct _ Try.ti26 Try.underlying26 rfl (pl := [(0, 1), (1, 1)]) (by simp [Try.ti4, Try.ti9]; try decide) ?_
  simp [Instr.fill, cells_of_one h1, show (Value.agg #[.bool false, .string ⟨#[]⟩]).cells = #[.bool false, .string ⟨#[]⟩] from rfl]
end Go.Sky
theorem Go.Proofs.Try.ti32 : Go.Proofs.Try.prog.info? 32 = some Go.Proofs.Try.t32 := by kernel_rfl
namespace Go.Sky
open Go.Proofs
theorem b32_   : Try.prog.built 32 [] = some #[.bool false, .string ⟨#[]⟩, .bool false, .string ⟨#[]⟩] := by
  refine built_struct _ Try.ti32 Try.underlying32 rfl (pl := [(0, 2), (2, 2)]) (by simp [Try.ti26]; try decide) ?_
  simp [Instr.fill, show (Value.agg #[.bool false, .string ⟨#[]⟩, .bool false, .string ⟨#[]⟩]).cells = #[.bool false, .string ⟨#[]⟩, .bool false, .string ⟨#[]⟩] from rfl]
theorem b32_01 {c0_0 c0_1 c1_0 c1_1 : Value}  : Try.prog.built 32 [(0, .agg #[c0_0, c0_1]), (1, .agg #[c1_0, c1_1])] = some #[c0_0, c0_1, c1_0, c1_1] := by
  refine built_struct _ Try.ti32 Try.underlying32 rfl (pl := [(0, 2), (2, 2)]) (by simp [Try.ti26]; try decide) ?_
  simp [Instr.fill, show (Value.agg #[c0_0, c0_1]).cells = #[c0_0, c0_1] from rfl, show (Value.agg #[c1_0, c1_1]).cells = #[c1_0, c1_1] from rfl, show (Value.agg #[.bool false, .string ⟨#[]⟩, .bool false, .string ⟨#[]⟩]).cells = #[.bool false, .string ⟨#[]⟩, .bool false, .string ⟨#[]⟩] from rfl]
end Go.Sky
theorem Go.Proofs.Try.ti65 : Go.Proofs.Try.prog.info? 65 = some Go.Proofs.Try.t65 := by kernel_rfl
namespace Go.Sky
open Go.Proofs
theorem b74_   : Try.prog.built 74 [] = some #[.bool false, .slice none 0 0] := by
  refine built_struct _ Try.ti74 Try.underlying74 rfl (pl := [(0, 1), (1, 1)]) (by simp [Try.ti4, Try.ti65]; try decide) ?_
  simp [Instr.fill, show (Value.agg #[.bool false, .slice none 0 0]).cells = #[.bool false, .slice none 0 0] from rfl]
theorem b74_01 {v0 v1 : Value} (h0 : v0.oneCell' = true) (h1 : v1.oneCell' = true) : Try.prog.built 74 [(0, v0), (1, v1)] = some #[v0, v1] := by
  refine built_struct _ Try.ti74 Try.underlying74 rfl (pl := [(0, 1), (1, 1)]) (by simp [Try.ti4, Try.ti65]; try decide) ?_
  simp [Instr.fill, cells_of_one h0, cells_of_one h1, show (Value.agg #[.bool false, .slice none 0 0]).cells = #[.bool false, .slice none 0 0] from rfl]
end Go.Sky
theorem Go.Proofs.Try.ti86 : Go.Proofs.Try.prog.info? 86 = some Go.Proofs.Try.t86 := by kernel_rfl
namespace Go.Sky
open Go.Proofs
end Go.Sky
theorem Go.Proofs.Try.ti83 : Go.Proofs.Try.prog.info? 83 = some Go.Proofs.Try.t83 := by kernel_rfl
namespace Go.Sky
open Go.Proofs
theorem b86_01 {v0 v1 : Value} (h0 : v0.oneCell' = true) (h1 : v1.oneCell' = true) : Try.prog.built 86 [(0, v0), (1, v1)] = some #[v0, v1] := by
  refine built_struct _ Try.ti86 Try.underlying86 rfl (pl := [(0, 1), (1, 1)]) (by simp [Try.ti4, Try.ti83]; try decide) ?_
  simp [Instr.fill, cells_of_one h0, cells_of_one h1, show (Value.agg #[.bool false, .slice none 0 0]).cells = #[.bool false, .slice none 0 0] from rfl]
end Go.Sky

