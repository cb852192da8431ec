/- Rules, arithmetic and contracts: part 10. No conditions but those that each theorem names. -/
import Derived.Test.YteikicbnfbgpnaaGreatDa08
set_option linter.all false
namespace Go.Sky
open Go.Proofs.Tryz
open Go.Proofs
set_option synthInstance.maxHeartbeats 0
set_option synthInstance.maxSize 100000
set_option maxRecDepth 20000
set_option maxHeartbeats 4000000
set_option linter.unusedSimpArgs false
theorem Ba(b:Bool)(s:ByteArray):Pn prog 178 #[.agg #[.bool b,.string s]] [] (.bool (okW b s)):=by
 refine Zd func178 ntmps178 fun w0 sc hw hsc=>go 2 ?_
 refine Yc (Yb 1) fun b _=>go 8 ?_
 refine dt (Zre J J J J)<|go 2 ?_
 refine Zc J (fun h264=>?_) (fun h264=>?_)
 ·refine go 10 ?_
  exact Xo hsc () results178 (by unfold okW;rw [if_pos h264]) trivial Za
 ·refine go 6 ?_
  refine dt (Ybk (i:=0) J J J uT9 J)<|go 2 ?_
  refine Yv (d:=13) J (fun s267=>?_) (fun s267=>?_)
  ·refine go 9 ?_
   exact Xo hsc () results178 (by unfold okW;rw [if_neg h264];simp_all<;>omega) trivial Za
  ·refine go 9 ?_
   exact Xo hsc () results178 (by unfold okW;rw [if_neg h264];simp_all<;>omega) trivial Za
theorem Mi(x:Int)(hx:bl x.natAbs≤65536):Cal prog 178 #[wv x] [] false (G:=Unit) (fun _=>True) (fun _=> .bool true) (fun _=>[]):=Au hx▸Ba _ _
theorem Zi1(b:Bool)(s:ByteArray)(c:Bool)(t:ByteArray):Pn prog 228 #[.agg #[.bool b,.string s],.agg #[.bool c,.string t]] [] (.bool (okW b s && okW c t)):=by
 refine Zd func228 ntmps228 fun w0 sc hw hsc=>go 2 ?_
 refine Yc (Yb 1) fun b _=>Yc (Yb 2) fun b_2 _=>go 6 ?_
 refine cl 2 [] (Ba _ _) fun _ _=>go 1 ?_
 refine Cj (d:=7) J (fun s271=>?_) (fun s271=>?_)
 ·refine go 1 ?_
  refine Hs 2 [] (Ba _ _) fun _ _=>go 5 ?_
  exact Xo hsc () results228 (by simp_all) trivial Za
 ·refine go 7 ?_
  exact Xo hsc () results228 (by simp_all) trivial Za
theorem Lj(x y:Int)(hx:bl x.natAbs≤65536)(hy:bl y.natAbs≤65536):Pn prog 228 #[wv x,wv y] [] (.bool true):=by
 have h:=Zi1 (decide (x<0)) (Xn x.natAbs) (decide (y<0)) (Xn y.natAbs)
 rw [Au hx,Au hy]at h;exact h
theorem Lt(x:Int)(hx:bl x.natAbs≤65536):Pn prog 237 #[wv x] [] (.int .i64 x.sign):=by
 refine Zd func237 ntmps237 fun w0 sc hw hsc=>go 2 ?_
 refine Yc (Yb 1) fun b _=>go 7 ?_
 refine cl 1 [] (Mi _ ‹_›) fun _ _=>go 9 ?_
 refine cl 2 [] (Xi _ _ (Yn _)) fun g hg=>cl 2 [2] (Zha _ _ _ ‹_›) fun _ _=>go 4 ?_
 exact Xo hsc () results237 J trivial Za
theorem Zgb(x:Int)(hx:bl x.natAbs≤65536):Pn prog 240 #[wv x] [] (.int .i64 (bl x.natAbs:Int)):=by
 refine Zd func240 ntmps240 fun w0 sc hw hsc=>go 2 ?_
 refine Yc (Yb 1) fun b _=>go 7 ?_
 refine cl 1 [] (Mi _ ‹_›) fun _ _=>go 10 ?_
 refine cl 2 [] (Zaw _) fun v _=>cl 2 [2] (Zhc _ _) fun _ _=>go 4 ?_
 exact Xo hsc () results240 J trivial Za
theorem Zmu(x y:Int)(hx:bl x.natAbs≤65536)(hy:bl y.natAbs≤65536):Pn prog 180 #[wv x,wv y] [] (Ae (x+y)):=by
 refine Zd func180 ntmps180 fun w0 sc hw hsc=>?_
 have hb:=Hy x y
 refine go 2 ?_
 refine Yc (Yb 1) fun b _=>Yc (Yb 2) fun b_2 _=>Yc (Zr 3) fun b_3 _=>go 8 ?_
 refine cl 3 [] (Lj _ _ ‹_› ‹_›) fun _ _=>go 7 ?_
 refine Qe (fun _=>False) [(0,0),(2,0),(1,1),(3,1),(4,1),(5,1),(6,0),(7,0),(8,3),(9,3)]<|go 2 ?_
 refine Yz (Zf 4 [] (Xi _ _ (Yn _))) fun g hg=>Yz (Zf 5 [] (Xi _ _ (Yn _))) fun g_2 hg_2=>Yz (Zf 6 [4,5] (Zdf _ _ _ _ _ _ ‹_› ‹_›)) fun g_3 hg_3=>Yz (Zf 6 [6] (Kl _ _ _ ‹_›)) fun _ _=>go 7 ?_
 exact Nu hsc () results180 J trivial Za
theorem Zxa(x y:Int)(hx:bl x.natAbs≤65536)(hy:bl y.natAbs≤65536):Pn prog 239 #[wv x,wv y] [] (Ae (x-y)):=by
 refine Zd func239 ntmps239 fun w0 sc hw hsc=>?_
 have hb:=Zbg x y
 have hny:=Zme y
 refine go 2 ?_
 refine Yc (Yb 1) fun b _=>Yc (Yb 2) fun b_2 _=>Yc (Zr 3) fun b_3 _=>go 8 ?_
 refine cl 3 [] (Lj _ _ ‹_› ‹_›) fun _ _=>go 7 ?_
 refine Qe (fun _=>False) [(0,0),(2,0),(1,1),(3,1),(4,1),(5,1),(6,1),(7,0),(8,0),(9,3),(10,3)]<|go 2 ?_
 refine Yz (Zf 4 [] (Xi _ _ (Yn _))) fun g hg=>Yz (Zf 5 [] (Xi _ _ (Yn _))) fun g_2 hg_2=>Yz (Zf 6 [5] (Zk4 _ _ _ ‹_›)) fun g_3 hg_3=>Yz (Zf 7 [4,6] (Zdf _ _ _ _ _ _ ‹_› ‹_›)) fun g_4 hg_4=>Yz (Zf 7 [7] (Kl _ _ _ ‹_› (by rw [←Int.sub_eq_add_neg];omega))) fun _ _=>go 7 ?_
 exact Nu hsc () results239 (by rw [Int.sub_eq_add_neg]<;>rfl) trivial Za
theorem Zmr(x y:Int)(hx:bl x.natAbs≤65536)(hy:bl y.natAbs≤65536):Pn prog 234 #[wv x,wv y] [] (Ae (x*y)):=by
 refine Zd func234 ntmps234 fun w0 sc hw hsc=>?_
 have hb:=Xb x y
 refine go 2 ?_
 refine Yc (Yb 1) fun b _=>Yc (Yb 2) fun b_2 _=>Yc (Zr 3) fun b_3 _=>go 8 ?_
 refine cl 3 [] (Lj _ _ ‹_› ‹_›) fun _ _=>go 7 ?_
 refine Qe (fun _=>False) [(0,0),(2,0),(1,1),(3,1),(4,1),(5,1),(6,0),(7,0),(8,3),(9,3)]<|go 2 ?_
 refine Yz (Zf 4 [] (Xi _ _ (Yn _))) fun g hg=>Yz (Zf 5 [] (Xi _ _ (Yn _))) fun g_2 hg_2=>Yz (Zf 6 [4,5] (Za5 _ _ _ _ _ _ ‹_› ‹_›)) fun g_3 hg_3=>Yz (Zf 6 [6] (Kl _ _ _ ‹_›)) fun _ _=>go 7 ?_
 exact Nu hsc () results234 J trivial Za
theorem Zmt(x y:Int)(hx:bl x.natAbs≤65536)(hy:bl y.natAbs≤65536):Pn prog 188 #[wv x,wv y] [] (Ae (Int.gcd x y:Int)):=by
 refine Zd func188 ntmps188 fun w0 sc hw hsc=>?_
 have hb:=Zmg x.natAbs y.natAbs
 refine go 2 ?_
 refine Yc (Yb 1) fun b _=>Yc (Yb 2) fun b_2 _=>Yc (Zr 3) fun b_3 _=>go 8 ?_
 refine cl 3 [] (Lj _ _ ‹_› ‹_›) fun _ _=>go 7 ?_
 refine Qe (fun _=>False) [(0,0),(1,0),(3,0),(4,0),(2,1),(5,1),(6,1),(7,0),(8,1),(9,0),(10,0),(11,3),(12,3)]<|go 4 ?_
 refine Yz (Zf 4 [] (Zaw _)) fun v _=>Yz (Zf 5 [] (Zaw _)) fun v_2 _=>Yz (Zf 6 [4,5] (Zk7 _ _ _ _)) fun v_3 _=>?_
 refine Qb J J (Ph (Qg (ivs:=[(0,_),(1,_)]) J K4 (fun a w hs=>La ((Zz J) a w hs) ((Qt (i:=6) J Zk) a w hs))))<|Yz (Zf 6 [6] (Kl false _ (Int.gcd x y:Int) (by simp [sg]) (by show bl (Nat.gcd x.natAbs y.natAbs)≤_;omega))) fun _ _=>go 7 ?_
 exact Nu hsc () results188 J trivial Za
theorem Ec(x y:Int)(hx:bl x.natAbs≤65536)(hy:bl y.natAbs≤65536)(hy0:y≠0):Pn prog 179 #[wv x,wv y] [] (.tuple #[wv (Cr (x/y)),wv (Cr (x%y)),.int .i64 0]):=by
 refine Zd func179 ntmps179 fun w0 sc hw hsc=>?_
 have hb:=Zga x y
 have hb2:=Zuz x y hy0
 refine go 2 ?_
 refine Yc (Yb 1) fun b _=>Yc (Yb 2) fun b_2 _=>Yc (Zr 3) fun b_3 _=>Yc (Zr 4) fun b_4 _=>go 8 ?_
 refine cl 4 [] (Lj _ _ ‹_› ‹_›) fun _ _=>go 11 ?_
 refine dt (Zre J J J J)<|go 2 ?_
 refine Zc J (fun h337=>?_) (fun h337=>?_)
 ·rw [Gu]at h337
  exfalso;exact hy0 (by have:=(Qv (by omega:2≤256) y.natAbs).1 h337;omega)
 ·refine go 2 ?_
  refine jn (G:=Bool×Value×Value×Nat×Nat) [4,5] [0,1,2,3,4] (fun q=>[(7,.pointer (some ⟨q.2.2.2.1,0,none⟩)),(8,.pointer (some ⟨q.2.2.2.2,0,none⟩))]) (fun q=>[(84,Gd q.2.1 (x/y).natAbs),(85,Gd q.2.2.1 (x%y).natAbs),(86,box q.2.2.2.1 219 #[.bool q.1,q.2.1]),(87,box q.2.2.2.2 219 #[.bool false,q.2.2.1])]) (fun q=>sg q.1 (x/y)) ?_ ?_
  ·refine Il [1,2] [11]<|Zl (n:=10) [(0,0),(2,0)]<|go 3 ?_
   refine Zj7 (n:=9) 1 8 9 ?_ ?_ ?_
   ·refine Np (Zf 81 [] (Xi _ _ (Yn _))) fun g hg=>?_
    refine Zj7 (n:=8) 3 8 9 ?_ ?_ ?_
    ·refine Np (Zf 82 [] (Xi _ _ (Yn _))) fun g_2 hg_2=>?_
     refine Zj7 (n:=7) 4 8 9 ?_ ?_ ?_
     ·refine Np (Zf 84 [81,82] (Pi _ _ _ _ _ _ ‹_› ‹_› hy0)) fun g_3 hg_3=>?_
      refine Zl (n:=4) [(5,0),(6,0),(7,0)]<|go 4 ?_
      refine Qw (n:=3) 8 9 ?_ ?_
      ·refine Np (Nm 86) fun b_5 ho=>?_
       refine Zl (n:=0) [(9,1),(10,1),(11,3)]<|Yz (Nm 87) fun b_6 ho2=>go 3 ?_
       exact Zw<|On (_,_,_,_,_) ‹_› K2 K4
      ·refine Np (Nm 87) fun b_7 ho3=>?_
       refine Zl (n:=0) [(8,1),(10,1),(11,3)]<|Yz (Nm 86) fun b_8 ho4=>go 3 ?_
       exact Zw<|On (_,_,_,_,_) ‹_› K2 K4
     ·refine Np (Nm 86) fun b_9 ho5=>?_
      refine Qw (n:=6) 4 9 ?_ ?_
      ·refine Np (Zf 84 [81,82] (Pi _ _ _ _ _ _ ‹_› ‹_› hy0)) fun g_4 hg_4=>?_
       refine Zl (n:=0) [(5,0),(6,0),(7,0),(9,1),(10,1),(11,3)]<|go 3 ?_
       refine Yz (Nm 87) fun b_10 ho6=>go 3 ?_
       exact Zw<|On (_,_,_,_,_) ‹_› K2 K4
      ·refine Np (Nm 87) fun b_11 ho7=>?_
       refine Zl (n:=0) [(4,1),(5,0),(6,0),(7,0),(10,1),(11,3)]<|Yz (Zf 84 [81,82] (Pi _ _ _ _ _ _ ‹_› ‹_› hy0)) fun g_5 hg_5=>go 6 ?_
       exact Zw<|On (_,_,_,_,_) ‹_› K2 K4
     ·refine Np (Nm 87) fun b_12 ho8=>?_
      refine Qw (n:=6) 4 8 ?_ ?_
      ·refine Np (Zf 84 [81,82] (Pi _ _ _ _ _ _ ‹_› ‹_› hy0)) fun g_6 hg_6=>?_
       refine Zl (n:=0) [(5,0),(6,0),(7,0),(8,1),(10,1),(11,3)]<|go 3 ?_
       refine Yz (Nm 86) fun b_13 ho9=>go 3 ?_
       exact Zw<|On (_,_,_,_,_) ‹_› K2 K4
      ·refine Np (Nm 86) fun b_14 ho10=>?_
       refine Zl (n:=0) [(4,1),(5,0),(6,0),(7,0),(10,1),(11,3)]<|Yz (Zf 84 [81,82] (Pi _ _ _ _ _ _ ‹_› ‹_› hy0)) fun g_7 hg_7=>go 6 ?_
       exact Zw<|On (_,_,_,_,_) ‹_› K2 K4
    ·refine Np (Nm 86) fun b_15 ho11=>?_
     refine Qw (n:=7) 3 9 ?_ ?_
     ·refine Np (Zf 82 [] (Xi _ _ (Yn _))) fun g_8 hg_8=>?_
      refine Qw (n:=6) 4 9 ?_ ?_
      ·refine Np (Zf 84 [81,82] (Pi _ _ _ _ _ _ ‹_› ‹_› hy0)) fun g_9 hg_9=>?_
       refine Zl (n:=0) [(5,0),(6,0),(7,0),(9,1),(10,1),(11,3)]<|go 3 ?_
       refine Yz (Nm 87) fun b_16 ho12=>go 3 ?_
       exact Zw<|On (_,_,_,_,_) ‹_› K2 K4
      ·refine Np (Nm 87) fun b_17 ho13=>?_
       refine Zl (n:=0) [(4,1),(5,0),(6,0),(7,0),(10,1),(11,3)]<|Yz (Zf 84 [81,82] (Pi _ _ _ _ _ _ ‹_› ‹_› hy0)) fun g_10 hg_10=>go 6 ?_
       exact Zw<|On (_,_,_,_,_) ‹_› K2 K4
     ·refine Np (Nm 87) fun b_18 ho14=>?_
      refine Zl (n:=0) [(3,1),(4,1),(5,0),(6,0),(7,0),(10,1),(11,3)]<|Yz (Zf 82 [] (Xi _ _ (Yn _))) fun g_11 hg_11=>Yz (Zf 84 [81,82] (Pi _ _ _ _ _ _ ‹_› ‹_› hy0)) fun g_12 hg_12=>go 6 ?_
      exact Zw<|On (_,_,_,_,_) ‹_› K2 K4
    ·refine Np (Nm 87) fun b_19 ho15=>?_
     refine Qw (n:=7) 3 8 ?_ ?_
     ·refine Np (Zf 82 [] (Xi _ _ (Yn _))) fun g_13 hg_13=>?_
      refine Qw (n:=6) 4 8 ?_ ?_
      ·refine Np (Zf 84 [81,82] (Pi _ _ _ _ _ _ ‹_› ‹_› hy0)) fun g_14 hg_14=>?_
       refine Zl (n:=0) [(5,0),(6,0),(7,0),(8,1),(10,1),(11,3)]<|go 3 ?_
       refine Yz (Nm 86) fun b_20 ho16=>go 3 ?_
       exact Zw<|On (_,_,_,_,_) ‹_› K2 K4
      ·refine Np (Nm 86) fun b_21 ho17=>?_
       refine Zl (n:=0) [(4,1),(5,0),(6,0),(7,0),(10,1),(11,3)]<|Yz (Zf 84 [81,82] (Pi _ _ _ _ _ _ ‹_› ‹_› hy0)) fun g_15 hg_15=>go 6 ?_
       exact Zw<|On (_,_,_,_,_) ‹_› K2 K4
     ·refine Np (Nm 86) fun b_22 ho18=>?_
      refine Zl (n:=0) [(3,1),(4,1),(5,0),(6,0),(7,0),(10,1),(11,3)]<|Yz (Zf 82 [] (Xi _ _ (Yn _))) fun g_16 hg_16=>Yz (Zf 84 [81,82] (Pi _ _ _ _ _ _ ‹_› ‹_› hy0)) fun g_17 hg_17=>go 6 ?_
      exact Zw<|On (_,_,_,_,_) ‹_› K2 K4
   ·refine Np (Nm 86) fun b_23 ho19=>?_
    refine Qw (n:=8) 1 9 ?_ ?_
    ·refine Np (Zf 81 [] (Xi _ _ (Yn _))) fun g_18 hg_18=>?_
     refine Qw (n:=7) 3 9 ?_ ?_
     ·refine Np (Zf 82 [] (Xi _ _ (Yn _))) fun g_19 hg_19=>?_
      refine Qw (n:=6) 4 9 ?_ ?_
      ·refine Np (Zf 84 [81,82] (Pi _ _ _ _ _ _ ‹_› ‹_› hy0)) fun g_20 hg_20=>?_
       refine Zl (n:=0) [(5,0),(6,0),(7,0),(9,1),(10,1),(11,3)]<|go 3 ?_
       refine Yz (Nm 87) fun b_24 ho20=>go 3 ?_
       exact Zw<|On (_,_,_,_,_) ‹_› K2 K4
      ·refine Np (Nm 87) fun b_25 ho21=>?_
       refine Zl (n:=0) [(4,1),(5,0),(6,0),(7,0),(10,1),(11,3)]<|Yz (Zf 84 [81,82] (Pi _ _ _ _ _ _ ‹_› ‹_› hy0)) fun g_21 hg_21=>go 6 ?_
       exact Zw<|On (_,_,_,_,_) ‹_› K2 K4
     ·refine Np (Nm 87) fun b_26 ho22=>?_
      refine Zl (n:=0) [(3,1),(4,1),(5,0),(6,0),(7,0),(10,1),(11,3)]<|Yz (Zf 82 [] (Xi _ _ (Yn _))) fun g_22 hg_22=>Yz (Zf 84 [81,82] (Pi _ _ _ _ _ _ ‹_› ‹_› hy0)) fun g_23 hg_23=>go 6 ?_
      exact Zw<|On (_,_,_,_,_) ‹_› K2 K4
    ·refine Np (Nm 87) fun b_27 ho23=>?_
     refine Zl (n:=0) [(1,1),(3,1),(4,1),(5,0),(6,0),(7,0),(10,1),(11,3)]<|Yz (Zf 81 [] (Xi _ _ (Yn _))) fun g_24 hg_24=>Yz (Zf 82 [] (Xi _ _ (Yn _))) fun g_25 hg_25=>Yz (Zf 84 [81,82] (Pi _ _ _ _ _ _ ‹_› ‹_› hy0)) fun g_26 hg_26=>go 6 ?_
     exact Zw<|On (_,_,_,_,_) ‹_› K2 K4
   ·refine Np (Nm 87) fun b_28 ho24=>?_
    refine Qw (n:=8) 1 8 ?_ ?_
    ·refine Np (Zf 81 [] (Xi _ _ (Yn _))) fun g_27 hg_27=>?_
     refine Qw (n:=7) 3 8 ?_ ?_
     ·refine Np (Zf 82 [] (Xi _ _ (Yn _))) fun g_28 hg_28=>?_
      refine Qw (n:=6) 4 8 ?_ ?_
      ·refine Np (Zf 84 [81,82] (Pi _ _ _ _ _ _ ‹_› ‹_› hy0)) fun g_29 hg_29=>?_
       refine Zl (n:=0) [(5,0),(6,0),(7,0),(8,1),(10,1),(11,3)]<|go 3 ?_
       refine Yz (Nm 86) fun b_29 ho25=>go 3 ?_
       exact Zw<|On (_,_,_,_,_) ‹_› K2 K4
      ·refine Np (Nm 86) fun b_30 ho26=>?_
       refine Zl (n:=0) [(4,1),(5,0),(6,0),(7,0),(10,1),(11,3)]<|Yz (Zf 84 [81,82] (Pi _ _ _ _ _ _ ‹_› ‹_› hy0)) fun g_30 hg_30=>go 6 ?_
       exact Zw<|On (_,_,_,_,_) ‹_› K2 K4
     ·refine Np (Nm 86) fun b_31 ho27=>?_
      refine Zl (n:=0) [(3,1),(4,1),(5,0),(6,0),(7,0),(10,1),(11,3)]<|Yz (Zf 82 [] (Xi _ _ (Yn _))) fun g_31 hg_31=>Yz (Zf 84 [81,82] (Pi _ _ _ _ _ _ ‹_› ‹_› hy0)) fun g_32 hg_32=>go 6 ?_
      exact Zw<|On (_,_,_,_,_) ‹_› K2 K4
    ·refine Np (Nm 86) fun b_32 ho28=>?_
     refine Zl (n:=0) [(1,1),(3,1),(4,1),(5,0),(6,0),(7,0),(10,1),(11,3)]<|Yz (Zf 81 [] (Xi _ _ (Yn _))) fun g_33 hg_33=>Yz (Zf 82 [] (Xi _ _ (Yn _))) fun g_34 hg_34=>Yz (Zf 84 [81,82] (Pi _ _ _ _ _ _ ‹_› ‹_› hy0)) fun g_35 hg_35=>go 6 ?_
     exact Zw<|On (_,_,_,_,_) ‹_› K2 K4
  ·rintro⟨qb,qv,rv,b7,b8⟩ hq
   dsimp only at hq
   dsimp only
   refine go 3 ?_
   refine cl 4 [84] (Kl _ _ _ ‹_›) fun _ _=>go 9 ?_
   refine cl 4 [85] (Kl _ _ _ (Ydw x hy0)) fun _ _=>go 7 ?_
   refine Il [4] [3,4]<|Zl (n:=0) [(1,0),(0,1),(2,1),(3,3),(4,3)]<|go 6 ?_
   refine Zw<|go 2 ?_
   exact xe3 hsc () results179 J trivial Za
theorem Ad(s t:Bool)(v w:Value)(x y:Int)(hs:sg s x)(ht:sg t y)(hy0:y≠0)(hx:bl x.natAbs≤1000000000:=by omega)(hy:bl y.natAbs≤1000000000:=by omega):Pn prog 165 #[.agg #[.bool s,v],.agg #[.bool t,w]] [Gd v x.natAbs,Gd w y.natAbs] (Bi x y):=by
 refine Zd func165 ntmps165 fun w0 sc hw hsc=>?_
 have hb:=Zmg x.natAbs y.natAbs
 have hg0:Ns x y≠0:=Yeu hy0
 have hgs:sg t (Ns x y):=Ydu ht hy0
 have hga:=Ax x y
 have hq1:=Zga x (Ns x y)
 have hq2:=Zga y (Ns x y)
 refine go 2 ?_
 refine Yc (Yb 3) fun b _=>Yc (Yb 4) fun b_2 _=>Yc (Zr 5) fun b_3 _=>go 4 ?_
 refine Im (fun _=>False) [9]<|Zl (n:=4) [(0,0),(1,0),(2,0),(3,0),(4,0),(5,0)]<|go 7 ?_
 refine Qw (n:=3) 6 8 ?_ ?_
 ·refine Np (Zf 81 [1,2] (Zk7 _ _ _ _)) fun v _=>?_
  refine Zl (n:=0) [(7,0),(8,1),(9,3)]<|Qb J J (Ph (Qg (ivs:=[(0,_),(1,_)]) J K4 (fun a w hs=>La ((Zz J) a w hs) ((Qt (i:=81) J Zk) a w hs))))<|Yz (Zr 82) fun b_4 _=>go 2 ?_
  refine Zw<|go 2 ?_
  refine Zi (Mv 81 (Zti _ x y) J J)<|go 3 ?_
  refine cl 6 [1,81] (Pi _ _ _ _ x (Ns x y) hs hgs hg0 O (by rw [hga];omega)) fun g hg=>go 10 ?_
  refine cl 8 [2,81] (Pi _ _ _ _ y (Ns x y) ht hgs hg0 O (by rw [hga];omega)) fun g_2 hg_2=>go 9 ?_
  refine cl 9 [6] (Kl _ _ _ ‹_›) fun _ _=>go 3 ?_
  refine Yc (Zr 10) fun b_5 _=>go 7 ?_
  refine cl 10 [8] (Kl _ _ _ ‹_›) fun _ _=>go 3 ?_
  refine Yc (Zr 11) fun b_6 _=>go 10 ?_
  refine Yv (d:=43) J (fun s460=>?_) (fun s460=>?_)
  ·refine go 8 ?_
   refine dt (Qg (ivs:=[]) J trivial (fun a w hs=>Yck))<|go 6 ?_
   exact Nu hsc () results165 (Bh (by unfold Lb;first | exact .inl (Dq ‹_›) | exact .inr (Dq ‹_›))) trivial Za
  ·refine go 5 ?_
   refine Zc J (fun h460=>?_) (fun h460=>?_)
   ·refine go 2 ?_
    refine dt (Qg (ivs:=[]) J trivial (fun a w hs=>Yck))<|go 6 ?_
    exact Nu hsc () results165 (Bh (by unfold Lb;first | exact .inl (Dq ‹_›) | exact .inr (Dq ‹_›))) trivial Za
   ·refine go 6 ?_
    refine dt (Qg (ivs:=[(0,_),(1,_)]) J K4 (fun a w hs=>Zik))<|go 5 ?_
    exact Nu hsc () results165 (Znq (Decidable.byContradiction ‹_›) (Decidable.byContradiction ‹_›)) trivial Za
 ·refine Np (Zr 82) fun b_7 _=>?_
  refine Zl (n:=0) [(6,1),(7,0),(9,3)]<|Yz (Zf 81 [1,2] (Zk7 _ _ _ _)) fun v_2 _=>?_
  refine Qb J J (Ph (Qg (ivs:=[(0,_),(1,_)]) J K4 (fun a w hs=>La ((Zz J) a w hs) ((Qt (i:=81) J Zk) a w hs))))<|go 2 ?_
  refine Zw<|go 2 ?_
  refine Zi (Mv 81 (Zti _ x y) J J)<|go 3 ?_
  refine cl 12 [1,81] (Pi _ _ _ _ x (Ns x y) hs hgs hg0 O (by rw [hga];omega)) fun g_3 hg_3=>go 10 ?_
  refine cl 14 [2,81] (Pi _ _ _ _ y (Ns x y) ht hgs hg0 O (by rw [hga];omega)) fun g_4 hg_4=>go 9 ?_
  refine cl 15 [12] (Kl _ _ _ ‹_›) fun _ _=>go 3 ?_
  refine Yc (Zr 16) fun b_8 _=>go 7 ?_
  refine cl 16 [14] (Kl _ _ _ ‹_›) fun _ _=>go 3 ?_
  refine Yc (Zr 17) fun b_9 _=>go 10 ?_
  refine Yv (d:=43) J (fun s460_2=>?_) (fun s460_2=>?_)
  ·refine go 8 ?_
   refine dt (Qg (ivs:=[]) J trivial (fun a w hs=>Yck))<|go 6 ?_
   exact Nu hsc () results165 (Bh (by unfold Lb;first | exact .inl (Dq ‹_›) | exact .inr (Dq ‹_›))) trivial Za
  ·refine go 5 ?_
   refine Zc J (fun h460_2=>?_) (fun h460_2=>?_)
   ·refine go 2 ?_
    refine dt (Qg (ivs:=[]) J trivial (fun a w hs=>Yck))<|go 6 ?_
    exact Nu hsc () results165 (Bh (by unfold Lb;first | exact .inl (Dq ‹_›) | exact .inr (Dq ‹_›))) trivial Za
   ·refine go 6 ?_
    refine dt (Qg (ivs:=[(0,_),(1,_)]) J K4 (fun a w hs=>Zik))<|go 5 ?_
    exact Nu hsc () results165 (Znq (Decidable.byContradiction ‹_›) (Decidable.byContradiction ‹_›)) trivial Za
theorem Zbv(x y:Int)(hx:bl x.natAbs≤65536)(hy:bl y.natAbs≤65536)(hy0:y≠0:=by omega):Pn prog 221 #[wv x,wv y] [] (Bi x y):=by
 refine Zd func221 ntmps221 fun w0 sc hw hsc=>go 2 ?_
 refine Yc (Yb 1) fun b _=>Yc (Yb 2) fun b_2 _=>Yc (Zr 3) fun b_3 _=>go 8 ?_
 refine cl 3 [] (Lj _ _ ‹_› ‹_›) fun _ _=>go 11 ?_
 refine dt (Zre J J J J)<|go 2 ?_
 refine Zc J (fun h471=>?_) (fun h471=>?_)
 ·rw [Gu]at h471
  exfalso;exact hy0 (by have:=(Qv (by omega:2≤256) y.natAbs).1 h471;omega)
 ·refine go 3 ?_
  refine Qe (fun _=>False) [(0,0),(2,0),(1,1),(3,1),(4,1),(5,0),(6,0),(7,3),(8,3)]<|go 2 ?_
  refine Yz (Zf 4 [] (Xi _ _ (Yn _))) fun g hg=>Yz (Zf 5 [] (Xi _ _ (Yn _))) fun g_2 hg_2=>Yz (Zf 5 [4,5] (Ad _ _ _ _ _ _ ‹_› ‹_› hy0)) fun _ _=>go 7 ?_
  exact Nu hsc () results221 J trivial Za
theorem Zfd(b:Bool)(s:ByteArray)(c:Bool)(t:ByteArray):Pn prog 216 #[.agg #[.bool b,.string s,.bool c,.string t]] [] (.bool (okR b s c t)):=by
 refine Zd func216 ntmps216 fun w0 sc hw hsc=>go 2 ?_
 refine Yc (Yb 1) fun b _=>go 9 ?_
 refine cl 1 [] (Zi1 _ _ _ _) fun _ _=>go 1 ?_
 refine Cj (d:=8) J (fun s451=>?_) (fun s451=>?_)
 ·have hcc:okW c t=true:=by simp_all
  have hok:=Zk2 hcc
  obtain⟨hk1,hk2,hk3⟩:=Classical.choose_spec hok
  generalize Classical.choose hok=z at hk1 hk2 hk3 ⊢
  subst hk2;subst hk3
  try clear hok
  refine go 2 ?_
  refine Hs 1 [] (Lt z hk1) fun _ _=>go 6 ?_
  exact Xo hsc () results216 (by first | rw [Zn4 (by simp_all) hk1] | (unfold okR;simp_all)) trivial Za
 ·refine go 9 ?_
  exact Xo hsc () results216 (by first | rw [Zn4 (by simp_all) hk1] | (unfold okR;simp_all)) trivial Za
theorem Nq(x y:Int)(hx:bl x.natAbs≤65536)(hy:bl y.natAbs≤65536)(hy0:0<y):Cal prog 216 #[rX x y] [] false (G:=Unit) (fun _=>True) (fun _=> .bool true) (fun _=>[]):=okR_wv hx hy hy0▸Zfd _ _ _ _
theorem Zh(x:Int)(hx:Nc x:=by exact⟨O,O⟩):Pn prog 131 #[.int .i64 x] [] (wv x):=by
 refine Zd func131 ntmps131 fun w0 sc hw hsc=>?_
 have hxa:=hx.1
 have hxb:=hx.2
 have hxU:x.natAbs<U:=by simp only [U];omega
 have hxl:bl x.natAbs≤64:=(Xs 64 _).2 (by rw [←Ycx];exact hxU)
 refine go 2 ?_
 refine Yc (Zr 1) fun b _=>go 5 ?_
 refine dt (Yfs (r:=x%18446744073709551616) J J uT3 Ag J)<|go 3 ?_
 refine jn (G:=Unit) [0,2] [0,1] (fun _=>[(3,.int .u64 ((x.natAbs:Nat):Int))]) (fun _=>[]) (fun _=>True) ?_ ?_
 ·refine go 6 ?_
  refine Zc J (fun h276=>?_) (fun h276=>?_)
  ·refine go 2 ?_
   refine dt (Zxh (r:=x.natAbs) J J O)<|go 2 ?_
   exact On () trivial ⟨by first | rfl | (rw [show x%18446744073709551616=((x.natAbs:Nat):Int) by omega];rfl),trivial⟩ trivial
  ·refine go 1 ?_
   exact On () trivial ⟨by first | rfl | (rw [show x%18446744073709551616=((x.natAbs:Nat):Int) by omega];rfl),trivial⟩ trivial
 ·rintro _ -
  refine go 5 ?_
  refine tt (Qz (i:=2) (ivs:=[(0,_)]) (enc:=Oo) [x.natAbs] J J K2 Qm ti232 J J J J J pU.cells J J hw.h) fun v _=>cl 2 [2] (Qr _ _) fun _ _=>?_
  refine Xu (Zbh 2 J J pU)<|Xu (Zjf 2 (Zd4 hxU) J J)<|dt (Qg (ivs:=[(0,_),(1,_)]) J K4 (fun a w hs=>La ((Zz J) a w hs) ((Qt (i:=2) J (Yj pU)) a w hs)))<|cl 2 [2] (Kl _ _ x (Yn _)) fun _ _=>go 3 ?_
  refine Yc (Zr 3) fun b_2 _=>go 11 ?_
  exact Xo hsc () results131 (by rw [Ll O]<;>rfl) trivial Za
theorem Za1(v:Value)(xs:List Int)(hs:Sz 65536 xs):Cal prog 189 #[v] [Yk 2 wv v xs] true (G:=Unit) (fun _=>True) (fun _=>Ml v (tzl xs).length) (fun _=>[Yk 2 wv (Ml v (tzl xs).length) (tzl xs)]):=by
 refine Zd func189 ntmps189 fun w0 sc hw hsc=>?_
 refine Mr (Zq2 (i:=1) J Zk) (fun hself=>?_)
 refine Mr (Er (i:=1) J Zk) fun hlen=>go 7 ?_
 refine lp (G:=Nat) [] [0] (fun k=>[(0,Ml v k)]) (fun k=>[(1,Yk 2 wv (Ml v k) (xs.take k))]) (fun k=>(k≤xs.length)∧(tzl (xs.take k)=tzl xs)) (fun k=>k) xs.length ⟨Nat.le_refl _,by rw [List.take_length]⟩ ⟨by rw [hself];rfl,trivial⟩ ⟨by rw [hself,List.take_length];rfl,trivial⟩ ?_
 rintro k ⟨hk,ht⟩
 have hl:(xs.take k).length=k:=by rw [List.length_take];omega
 refine go 7 ?_
 refine Yv (d:=6) J (fun s35=>?_) (fun s35=>?_)
 ·refine go 4 ⟨O,?_⟩
  refine Da (Ym (ii:=1) (i:=k-1) J J J J Zk Oh Ln) J J<|go 1 ⟨O,?_⟩
  refine Hs 1 [] (Lt _ ((hs.take _).getD _)) fun _ _=>go 4 ?_
  refine Zc J (fun h35=>?_) (fun h35=>?_)
  ·have hstep:=Zmy hk O (Zgk (k:=k) O (Int.sign_eq_zero_iff_zero.1 ‹_›):cf xs (k-1)=0)
   refine go 8 ⟨O,?_⟩
   refine dt (Zt9 (ii:=1) (i:=k-1) J J J J Zk Oh Ln)<|go 3 ?_
   exact Yw (Zyj 1 1 (k-1) J J)<|Xg (k-1) ⟨O1,by rw [←ht,←hstep]⟩ O1 ⟨by rw [←Ix v k (k-1)];rfl,trivial⟩ ⟨by rw [Ix,List.take_take,Nat.min_eq_left O];rfl,trivial⟩
  ·refine go 12 ?_
   have hx:tzl xs=xs.take k:=by rw [←ht];exact Zcq hk (by first | (left;omega) | (right;exact Zcu (k:=k) O ‹_›))
   exact Xo hsc () results189 (by rw [hx,hl]) trivial (Nz 1 Za (by rw [hx,hl]))
 ·refine go 24 ?_
  have hx:tzl xs=xs.take k:=by rw [←ht];exact Zcq hk (by first | (left;omega) | (right;exact Zcu (k:=k) O ‹_›))
  exact Xo hsc () results189 (by rw [hx,hl]) trivial (Nz 1 Za (by rw [hx,hl]))
theorem Zqk(v:Value)(r:List (Bool×ByteArray)):Pn prog 190 #[v] [Yk 2 Zq6 v r] (.bool (okP r)):=by
 refine Zd func190 ntmps190 fun w0 sc hw hsc=>?_
 refine Mr (Er (i:=1) J Zk) fun hlen=>go 14 ?_
 refine lp (G:=Nat) [0,5,6] [0,1] (fun k=>[(7,.int .i64 (k:Int))]) (fun k=>[]) (fun k=>(k≤r.length)∧((r.take k).all (fun w=>okW w.1 w.2)=true)) (fun k=>r.length-k) 0 ⟨O1,O6⟩ K1 trivial ?_
 rintro k ⟨hk,ha⟩
 refine go 6 ?_
 refine Zc J (fun h51=>?_) (fun h51=>?_)
 ·refine go 7 ⟨O2,?_⟩
  refine dt (Lz (ii:=1) (false,⟨#[]⟩) J J J Zk pW O2)<|Yc (Zr 2) fun b _=>go 6 ?_
  refine cl 2 [] (Ba _ _) fun _ _=>go 3 ?_
  refine My J (fun h52=>?_) (fun h52=>?_)
  ·refine go 11 ?_
   exact Xo hsc () results190 (by rw [Yel (Zu (i:=k) (d:=(false,⟨#[]⟩))) (by simp_all)]) trivial Za
  ·refine go 7 ⟨O,?_⟩
   exact Xg (k+1) ⟨O1,by rw [Qx (false,⟨#[]⟩) _ _ O,List.all_append,ha];simpa using h52⟩ O1 K1 trivial
 ·refine go 6 ?_
  obtain rfl:k=r.length:=O
  rw [List.take_length]at ha
  obtain⟨xs,hxs,rfl⟩:=Zn3 (List.all_eq_true.1 ha)
  have hsz:=Sz.of_mem hxs
  rw [List.length_map]at hlen
  refine Zi (Zkm 1 (q:=Yk 2 wv v xs) J J (Ydr v xs) (fun _ h=>fpn h) J)<|go 5 ?_
  refine Yv (d:=18) J (fun s56=>?_) (fun s56=>?_)
  ·refine go 4 ?_
   refine Yv (d:=22) J (fun s56_2=>?_) (fun s56_2=>?_)
   ·refine go 14 ?_
    exact Xo hsc () results190 (by rw [Zk3 hxs];first | (simp_all;done) | (simp_all;omega)) trivial Za
   ·refine go 4 ⟨O,?_⟩
    refine Da (Ym (ii:=1) (i:=xs.length-1) J J J J Zk Oh Ln) J J<|go 1 ⟨O,?_⟩
    refine Hs 2 [] (Lt _ (hsz.getD _)) fun _ _=>go 7 ?_
    exact Xo hsc () results190 (by rw [Zk3 hxs];first | (simp_all;done) | (simp_all;omega)) trivial Za
  ·refine go 18 ?_
   exact Xo hsc () results190 (by rw [Zk3 hxs];first | (simp_all;done) | (simp_all;omega)) trivial Za
theorem Ys(v:Value)(xs:List Int)(h:Vp xs):Cal prog 190 #[v] [Yk 2 wv v xs] false (G:=Unit) (fun _=>True) (fun _=> .bool true) (fun _=>[]):=okP_wr h▸(Zqk v (xs.map wr)).imp (Zp5 v xs) (fun _ h=>fpm h)
theorem Py(v:Value)(xs:List Int)(hs:Sz 65536 xs):Pn prog 195 #[v] [Yk 2 wv v xs] (.int .i64 (Xz xs:Int)):=by
 refine Zd func195 ntmps195 fun w0 sc hw hsc=>?_
 refine Mr (Er (i:=1) J Zk) fun hlen=>go 19 ?_
 refine lp (G:=Nat) [6,7] [0,1] (fun k=>[(8,.int .i64 (k:Int)),(3,.int .i64 (Xz (xs.take k):Int))]) (fun k=>[]) (fun k=>k≤xs.length) (fun k=>xs.length-k) 0 O1 K2 trivial ?_
 rintro k hk
 refine go 6 ?_
 refine Zc J (fun h83=>?_) (fun h83=>?_)
 ·refine go 8 ⟨O2,O2,?_⟩
  refine Yc (Zr 2) fun b _=>go 6 ?_
  refine cl 2 [] (Zgb _ (hs.getD _)) fun _ _=>?_
  refine dt (Zfb J J J)<|go 8 ⟨O,?_⟩
  exact Xg (k+1) O1 O1 ⟨J,by rw [Qx 0 _ _ O,Zzs];exact congrArg some (Zac O),trivial⟩ trivial
 ·refine go 12 ?_
  exact Xo hsc () results195 (by rw [List.take_of_length_le O]) trivial Za
theorem Zls(bd:Nat)(t:TypeId)(e e2:Int)(n:Bool)(s:ByteArray):Zau prog 238 #[.pointer (some ⟨bd,0,none⟩),.agg #[.bool n,.string s],.int .i64 e2] [] false bd t #[.int .i64 e] (G:=Unit) (fun _=>True) (fun _=> .agg #[.bool n,.string s]) (fun _=>#[.int .i64 (if e=0 then e2 else e)]) (fun _=>[]):=by
 refine Hx func238 J ntmps238 J trivial ?_
 intro w0 sc hw hsc;have hw:=Hw.mk hw
 simp only [Ql,Xj]
 refine go 2 ?_
 refine Yc (Yb 2) fun b _=>Yc (Zr 3) fun b_2 _=>go 12 ?_
 refine Zc J (fun h19=>?_) (fun h19=>?_)
 ·refine go 15 ?_
  exact Gf (.inl J) hsc () _ (fun a w hs=>Zbi hs results238 (Hg (i:=3) J J isAgg80 Ln J)) J trivial 1 J (by simp_all [Ha]) J J Za
 ·refine go 9 ?_
  exact Gf (.inl J) hsc () _ (fun a w hs=>Zbi hs results238 (Hg (i:=3) J J isAgg80 Ln J)) J trivial 1 J (by simp_all [Ha]) J J Za
theorem d_mul_(bd:Nat)(e x y:Int)(hx:bl x.natAbs≤65536)(hy:bl y.natAbs≤65536):Zau prog 191 #[.pointer (some ⟨bd,0,none⟩),wv x,wv y] [] false bd 250 #[.int .i64 e] (G:=Unit) (fun _=>True) (fun _=>wv (Cr (x*y))) (fun _=>#[.int .i64 (err e (x*y))]) (fun _=>[]):=by
 refine Hx func191 J ntmps191 J trivial ?_
 intro w0 sc hw hsc;have hw:=Hw.mk hw
 simp only [Ql,Xj]
 refine go 2 ?_
 refine Yc (Yb 2) fun b _=>Yc (Yb 3) fun b_2 _=>Yc (Zr 4) fun b_3 _=>go 3 ?_
 refine Qe (fun x=>x=bd) [(0,0),(1,0),(2,0),(3,0),(4,0),(5,1),(6,0),(7,0),(8,1),(9,3)]<|go 5 ?_
 refine Yz (Zf 4 [] (Zmr _ _ ‹_› ‹_›)) fun _ _=>go 2 ?_
 refine Bk J (Xp (n:=4) (i:=1) (Zls _ _ _ _ _ _) J J J K3 call238 J O3 Yf J hw.h J) fun _ _=>go 4 ?_
 exact Gf (.inl J) hsc () _ (fun a w hs=>Zbi hs results191 (Hg (i:=4) J J isAgg80 Ln J)) J trivial 1 J J J J Za
theorem Gr(bd:Nat)(x y:Int)(hx:bl x.natAbs≤65536)(hy:bl y.natAbs≤65536)(hz:bl (x*y).natAbs≤65536):Zau prog 191 #[.pointer (some ⟨bd,0,none⟩),wv x,wv y] [] false bd 250 #[.int .i64 0] (G:=Unit) (fun _=>True) (fun _=>wv (x*y)) (fun _=>#[.int .i64 0]) (fun _=>[]):=by
 have h:=d_mul_ bd 0 x y hx hy
 rw [Ll hz,Zq4 hz]at h;exact h
theorem d_add_(bd:Nat)(e x y:Int)(hx:bl x.natAbs≤65536)(hy:bl y.natAbs≤65536):Zau prog 196 #[.pointer (some ⟨bd,0,none⟩),wv x,wv y] [] false bd 250 #[.int .i64 e] (G:=Unit) (fun _=>True) (fun _=>wv (Cr (x+y))) (fun _=>#[.int .i64 (err e (x+y))]) (fun _=>[]):=by
 refine Hx func196 J ntmps196 J trivial ?_
 intro w0 sc hw hsc;have hw:=Hw.mk hw
 simp only [Ql,Xj]
 refine go 2 ?_
 refine Yc (Yb 2) fun b _=>Yc (Yb 3) fun b_2 _=>Yc (Zr 4) fun b_3 _=>go 3 ?_
 refine Qe (fun x=>x=bd) [(0,0),(1,0),(2,0),(3,0),(4,0),(5,1),(6,0),(7,0),(8,1),(9,3)]<|go 5 ?_
 refine Yz (Zf 4 [] (Zmu _ _ ‹_› ‹_›)) fun _ _=>go 2 ?_
 refine Bk J (Xp (n:=4) (i:=1) (Zls _ _ _ _ _ _) J J J K3 call238 J O3 Yf J hw.h J) fun _ _=>go 4 ?_
 exact Gf (.inl J) hsc () _ (fun a w hs=>Zbi hs results196 (Hg (i:=4) J J isAgg80 Ln J)) J trivial 1 J J J J Za
theorem Zh4(bd:Nat)(x y:Int)(hx:bl x.natAbs≤65536)(hy:bl y.natAbs≤65536)(hz:bl (x+y).natAbs≤65536):Zau prog 196 #[.pointer (some ⟨bd,0,none⟩),wv x,wv y] [] false bd 250 #[.int .i64 0] (G:=Unit) (fun _=>True) (fun _=>wv (x+y)) (fun _=>#[.int .i64 0]) (fun _=>[]):=by
 have h:=d_add_ bd 0 x y hx hy
 rw [Ll hz,Zq4 hz]at h;exact h
theorem d_sub_(bd:Nat)(e x y:Int)(hx:bl x.natAbs≤65536)(hy:bl y.natAbs≤65536):Zau prog 194 #[.pointer (some ⟨bd,0,none⟩),wv x,wv y] [] false bd 250 #[.int .i64 e] (G:=Unit) (fun _=>True) (fun _=>wv (Cr (x-y))) (fun _=>#[.int .i64 (err e (x-y))]) (fun _=>[]):=by
 refine Hx func194 J ntmps194 J trivial ?_
 intro w0 sc hw hsc;have hw:=Hw.mk hw
 simp only [Ql,Xj]
 refine go 2 ?_
 refine Yc (Yb 2) fun b _=>Yc (Yb 3) fun b_2 _=>Yc (Zr 4) fun b_3 _=>go 3 ?_
 refine Qe (fun x=>x=bd) [(0,0),(1,0),(2,0),(3,0),(4,0),(5,1),(6,0),(7,0),(8,1),(9,3)]<|go 5 ?_
 refine Yz (Zf 4 [] (Zxa _ _ ‹_› ‹_›)) fun _ _=>go 2 ?_
 refine Bk J (Xp (n:=4) (i:=1) (Zls _ _ _ _ _ _) J J J K3 call238 J O3 Yf J hw.h J) fun _ _=>go 4 ?_
 exact Gf (.inl J) hsc () _ (fun a w hs=>Zbi hs results194 (Hg (i:=4) J J isAgg80 Ln J)) J trivial 1 J J J J Za
theorem Zrb(bd:Nat)(x y:Int)(hx:bl x.natAbs≤65536)(hy:bl y.natAbs≤65536)(hz:bl (x-y).natAbs≤65536):Zau prog 194 #[.pointer (some ⟨bd,0,none⟩),wv x,wv y] [] false bd 250 #[.int .i64 0] (G:=Unit) (fun _=>True) (fun _=>wv (x-y)) (fun _=>#[.int .i64 0]) (fun _=>[]):=by
 have h:=d_sub_ bd 0 x y hx hy
 rw [Ll hz,Zq4 hz]at h;exact h
theorem Ybn(bd:Nat)(v:Value)(xs:List Int)(hs:Sz 65536 xs):Cal prog 192 #[.pointer (some ⟨bd,0,none⟩),v] [Ir bd 250 #[.int .i64 0],Yk 2 wv v xs] true (G:=Unit) (fun _=>True) (fun _=> .tuple #[Ml v (tzl xs).length,.int .i64 0]) (fun _=>[Yk 2 wv (Ml v (tzl xs).length) (tzl xs)]):=by
 refine Zd func192 ntmps192 fun w0 sc hw hsc=>go 17 ?_
 refine Zc J (fun h43=>?_) (fun h43=>?_)
 ·exfalso;simp_all
 ·refine go 5 ?_
  refine cl 3 [2] (Za1 _ _ ‹_›) fun _ _=>go 5 ?_
  exact Nu hsc () results192 J trivial (Nz 3 Za)
theorem Nr(v:Value)(xs:List Int)(c:Int)(hv:Vp xs)(hc:bl c.natAbs≤65536)(hz:∀i,bl (cf xs i*c).natAbs≤65536):Cal prog 136 #[v,wv c] [Yk 2 wv v xs] true (G:=Value) (fun r=>True) (fun r=> .tuple #[r,.int .i64 0]) (fun r=>[Yk 2 wv r (Yp xs c)]):=by
 refine Zd func136 ntmps136 fun w0 sc hw hsc=>?_
 have hlen:=hv.len
 refine go 2 ?_
 refine Yc (Yb 2) fun b _=>go 8 ?_
 refine cl 2 [1] (Ys _ _ ‹_›) fun _ _=>go 3 ?_
 refine Hs 2 [] (Mi _ ‹_›) fun _ _=>go 9 ?_
 refine Yc (Zr 3) fun b_2 _=>go 6 ?_
 refine tt (He (i:=4) (n:=_) (by_:=24) (enc:=wv) 0 J J J J Oh ti80 J pV.cells pV.pos J J J hw.h J J) fun v _=>go 12 ?_
 refine lp (G:=Nat) [3,6,7,21,22] [0,1,2,3] (fun k=>[(23,.int .i64 (k:Int))]) (fun k=>[(4,Pu 2 80 wv v (fill xs.length k (fun i=>cf xs i*c)))]) (fun k=>k≤xs.length) (fun k=>xs.length-k) 0 O1 K1 ⟨by rw [Eb xs.length (fun i=>cf xs i*c)];rfl,trivial⟩ ?_
 rintro k hk
 refine go 6 ?_
 refine Zc J (fun h159=>?_) (fun h159=>?_)
 ·refine go 9 ⟨O2,O2,?_⟩
  refine Yc (Zr 5) fun b_3 _=>go 9 ?_
  refine tt (Xp (n:=5) (i:=3) (Gr _ _ _ (hv.sz.getD _) hc (hz _)) J J J K3 call191 J O3 Yf J hw.h trivial) (fun _ _=>?_)
  refine dt (Ym (ii:=4) (i:=k) J J J J (Yj pV) Oh Ln J (by rw [Qa];omega))<|tt (Mt (i:=4) (enc:=wv) _ J J J J J J pV J hw.h O3 (by rw [Qa];omega)) fun _ _=>go 7 ⟨O,?_⟩
  exact Xg (k+1) O1 O1 K1 ⟨by rw [←Zaf O];rfl,trivial⟩
 ·refine go 6 ?_
  obtain rfl:k=xs.length:=O
  refine Zi (Pg 4 J J pV)<|Zi (Zgw 3 J J)<|go 2 ?_
  refine cl 6 [3,4] (Ybn _ _ _ (by rw [Hr];exact Zbq fun i _=>hz i)) fun _ _=>go 7 ?_
  exact Nu hsc _ results136 J trivial (Nz 6 Za (by rw [Zvw]<;>rfl))
theorem Di(v:Value)(xs:List Int)(hv:Vp xs)(hz:∀i,bl (cf xs (i+1)*((i:Int)+1)).natAbs≤65536):Cal prog 260 #[v] [Yk 2 wv v xs] true (G:=Value) (fun r=>True) (fun r=> .tuple #[r,.int .i64 0]) (fun r=>[Yk 2 wv r (Yh xs)]):=by
 refine Zd func260 ntmps260 fun w0 sc hw hsc=>?_
 have hlen:=hv.len
 refine go 10 ?_
 refine cl 1 [1] (Ys _ _ ‹_›) fun _ _=>go 14 ?_
 refine Zc J (fun h170=>?_) (fun h170=>?_)
 ·refine go 8 ?_
  exact Nu hsc _ results260 J trivial (Nn (Zzd O) Za)
 ·refine go 4 ?_
  refine Yc (Zr 2) fun b _=>go 7 ⟨O,?_⟩
  refine tt (He (i:=3) (n:=(xs.length-1)) (by_:=24) (enc:=wv) 0 J J J J Oh ti80 J pV.cells pV.pos J J J hw.h) fun v _=>go 12 ?_
  refine lp (G:=Nat) [0,4,5,18] [0,1,2] (fun k=>[(19,.int .i64 (k:Int))]) (fun k=>[(3,Pu 2 80 wv v (fill (xs.length-1) k (fun i=>cf xs (i+1)*((i:Int)+1))))]) (fun k=>k≤xs.length-1) (fun k=>xs.length-1-k) 0 O1 K1 ⟨by rw [Eb (xs.length-1) (fun i=>cf xs (i+1)*((i:Int)+1))];rfl,trivial⟩ ?_
  rintro k hk
  have hlf:(fill (xs.length-1) k (fun i=>cf xs (i+1)*((i:Int)+1))).length=xs.length-1:=Qa _ _ _
  refine go 6 ?_
  refine Zc J (fun h175=>?_) (fun h175=>?_)
  ·try rw [List.length_replicate]at *
   refine go 10 ?_
   refine Qe (fun x=>x=b) [(0,0),(1,0),(2,0),(3,0),(4,0),(5,0),(6,0),(7,0),(8,0),(9,1),(10,1),(11,0),(12,3)]<|go 5 ⟨O,?_⟩
   refine Qb J J (st1 2 J (Ym (ii:=1) (i:=k+1) J J J J Zk Oh Ln))<|go 3 ⟨O,O,?_⟩
   refine Yz (Zf 3 [] (Zh _ (by first | assumption | exact⟨O,O⟩))) fun _ _=>?_
   refine Bk J (Xp (n:=3) (i:=2) (Gr _ (cf xs (k+1)) ((k:Int)+1) (hv.sz _) (Nat.le_trans (Of (n:=32) O) O3) (hz k)) J J J K3 call191 J O3 Yf J hw.h J) (fun _ _=>?_)
   refine Qb J J (st1 2 J (Ym (ii:=3) (i:=k) J J J J (Yj pV) Oh Ln J (by rw [Qa];omega)))<|r3' J (Mt (i:=3) (enc:=wv) _ J J J J J J pV J hw.h O3 (by rw [Qa];omega)) fun _ _=>go 7 ⟨O,?_⟩
   exact Xg (k+1) O1 O1 K1 ⟨by rw [←Zaf O];rfl,trivial⟩
  ·try rw [List.length_replicate]at *
   refine go 6 ?_
   obtain rfl:k=xs.length-1:=O
   refine Zi (Pg 3 J J pV)<|Zi (Zgw 2 J J)<|go 2 ?_
   refine cl 4 [2,3] (Ybn _ _ _ (by rw [Hr];exact Zbq fun i _=>hz i)) fun _ _=>go 7 ?_
   exact Nu hsc _ results260 J trivial (Nz 4 Za (by rw [Yeg hv.tr]<;>rfl))
theorem Zkx(v:Value)(xs:List Int)(hv:Vp xs):Pn prog 197 #[v] [Yk 2 wv v xs] (.tuple #[wv (Yy xs),.int .i64 0]):=by
 refine Zd func197 ntmps197 fun w0 sc hw hsc=>?_
 have hlen:=hv.len
 have hcb:∀k,bl (Yy (xs.take k)).natAbs≤65536:=fun k=>Zn0 _ (hv.sz.take k)
 refine go 2 ?_
 refine Yc (Zr 2) fun b _=>go 7 ?_
 refine cl 2 [1] (Ys _ _ ‹_›) fun _ _=>go 8 ?_
 refine Yc (Zr 3) fun b_2 _=>go 4 ?_
 refine Yc (Zr 4) fun b_3 _=>go 11 ?_
 refine lp (G:=Nat) [2,4,5,12,13] [0,1,2] (fun k=>[(14,.int .i64 (k:Int))]) (fun k=>[(4,box b_3 80 #[.bool (decide (Yy (xs.take k)<0)),.string (Xn (Yy (xs.take k)).natAbs)]),(3,box b_2 250 #[.int .i64 0])]) (fun k=>k≤xs.length) (fun k=>xs.length-k) 0 O1 K1 K2 ?_
 rintro k hk
 have hgc:=fun h=>Lq (p:=xs) (k:=k) h
 refine go 6 ?_
 refine Zc J (fun h264=>?_) (fun h264=>?_)
 ·refine go 8 ⟨O2,O2,?_⟩
  refine Yc (Zr 5) fun b_4 _=>go 7 ?_
  refine cl 5 [] (Zmt (Yy (xs.take k)) (xs.getD k 0) (hcb _) (hv.sz.getD _)) fun _ _=>go 2 ?_
  refine tt (Xp (n:=5) (i:=3) (Zls _ _ _ _ _ _) J J J K3 call238 J O3 Yf J hw.h trivial) fun _ _=>go 8 ⟨O,?_⟩
  have hc1:=hcb (k+1)
  rw [hgc O]at hc1
  exact Xg (k+1) O1 O1 K1 ⟨by rw [hgc O];simp only [Ll hc1];rfl,by simp only [Zlk hc1];rfl,trivial⟩
 ·refine go 6 ?_
  refine Il [3,4] [5]<|Zl (n:=0) [(0,0),(1,0),(2,0),(3,0),(4,1),(5,3)]<|go 7 ?_
  refine Zw<|go 2 ?_
  exact Nu hsc () results197 (by rw [show k=xs.length by omega,List.take_length]<;>rfl) trivial Za
theorem Zix(v:Value)(xs:List Int)(c:Int)(hv:Sz 65536 xs)(hlen:xs.length≤1000)(hc:bl c.natAbs≤65536)(hd:∀i,c∣cf xs i)(hc0:xs≠[]→c≠0):Cal prog 198 #[v,wv c] [Yk 2 wv v xs] true (G:=Value) (fun r=>True) (fun r=> .tuple #[r,.int .i64 0]) (fun r=>[Yk 2 wv r (xs.map (· / c))]):=by
 refine Zd func198 ntmps198 fun w0 sc hw hsc=>go 2 ?_
 refine Yc (Yb 2) fun b _=>go 8 ?_
 refine tt (He (i:=3) (n:=_) (by_:=24) (enc:=wv) 0 J J J J Oh ti80 J pV.cells pV.pos J J J hw.h J J) fun v _=>go 12 ?_
 refine lp (G:=Nat) [3,6,15,16] [0,1,2] (fun k=>[(17,.int .i64 (k:Int))]) (fun k=>[(3,Pu 2 80 wv v (fill xs.length k (fun i=>cf xs i/c)))]) (fun k=>k≤xs.length) (fun k=>xs.length-k) 0 O1 K1 ⟨by rw [Eb xs.length (fun i=>cf xs i/c)];rfl,trivial⟩ ?_
 rintro k hk
 have hcl:Cr (xs.getD k 0/c)=cf xs k/c:=Ll (Bp (hd k) (hv k))
 refine go 6 ?_
 refine Zc J (fun h273=>?_) (fun h273=>?_)
 ·refine go 9 ⟨O2,O2,?_⟩
  refine Yc (Zr 4) fun b_2 _=>go 8 ?_
  refine cl 4 [] (Ec _ _ (hv.getD _) hc (hc0 (by intro e;rw [e]at h273;simp at h273;omega))) fun _ _=>go 4 ?_
  refine Yc (Zr 5) fun b_3 _=>Yc (Zr 6) fun b_4 _=>go 12 ?_
  refine Zc J (fun h275=>?_) (fun h275=>?_)
  ·exfalso;simp_all
  ·refine go 6 ?_
   refine dt (Ym (ii:=3) (i:=k) J J J J (Yj pV) Oh Ln J (by rw [Qa];omega))<|tt (Mt (i:=3) (enc:=wv) _ J J J J J J pV J hw.h O3 (by rw [Qa];omega)) fun _ _=>go 7 ⟨O,?_⟩
   exact Xg (k+1) O1 O1 K1 ⟨by rw [←Zaf O];simp only [hcl];rfl,trivial⟩
 ·refine go 13 ?_
  obtain rfl:k=xs.length:=O
  exact Nu hsc _ results198 J trivial (gow 3 Za (by rw [Hr,Zzt xs (· / c)]<;>rfl))
theorem Oj(v:Value)(xs:List Int)(hv:Vp xs):Cal prog 140 #[v] [Yk 2 wv v xs] true (G:=Value) (fun r=>True) (fun r=> .tuple #[r,.int .i64 0]) (fun r=>[Yk 2 wv r (Zx xs)]):=by
 refine Zd func140 ntmps140 fun w0 sc hw hsc=>?_
 have hlen:=hv.len
 refine go 9 ?_
 refine cl 1 [1] (Zkx _ _ ‹_›) fun _ _=>go 3 ?_
 refine Yc (Zr 2) fun b _=>go 11 ?_
 refine Zc J (fun h286=>?_) (fun h286=>?_)
 ·exfalso;simp_all
 ·refine go 6 ?_
  refine cl 3 [1] (Zix _ _ _ hv.sz O (Zn0 _ hv.sz) (Ny _) hv.ne) fun _ _=>go 7 ?_
  exact Nu hsc _ results140 J trivial (Nz 3 Za J)
theorem Zvz(v:Value)(xs:List Int)(x y:Int)(hv:Vp xs)(hx:bl x.natAbs≤65536)(hy:bl y.natAbs≤65536)(hy0:0<y):Pn prog 308 #[v,rX x y] [Yk 2 wv v xs] (.tuple #[wv (evv xs x y),.int .i64 (eve xs x y)]):=by
 refine Zd func308 ntmps308 fun w0 sc hw hsc=>?_
 have hlen:=hv.len
 refine go 2 ?_
 refine Yc (Yb 2) fun b _=>Yc (Zr 3) fun b_2 _=>go 7 ?_
 refine cl 3 [1] (Ys _ _ ‹_›) fun _ _=>go 3 ?_
 refine Hs 3 [] (Nq _ _ ‹_› ‹_› ‹_›) fun _ _=>go 15 ?_
 refine Zc J (fun h186=>?_) (fun h186=>?_)
 ·refine go 2 ?_
  refine dt (Qg (ivs:=[]) J trivial (fun a w hs=>b80_))<|go 6 ?_
  exact Nu hsc () results308 (by rw [List.eq_nil_of_length_eq_zero (l:=xs) O];rfl) trivial Za
 ·have hne:xs≠[]:=fun e=>by rw [e]at h186;simp at h186
  have hm1:=Qu hv.sz
  have hsxy:Sz 65536 [x,y]:=Sz.of_mem (by intro z hz;simp at hz;rcases hz with rfl | rfl<;>assumption)
  have hm2:=Qu hsxy
  have hm3:(xs.length-1)*Xz [x,y]≤24*65536:=Nat.mul_le_mul O hm2
  have hm4:((xs.length:Int)-1)*(Xz [x,y]:Int)=(((xs.length-1)*Xz [x,y]:Nat):Int):=by rw [Int.natCast_mul];congr 1;omega
  refine go 3 ?_
  refine jn (G:=Unit) [0,3,4] [0,1,2,3] (fun _=>[(37,.bool (decide ((65536:Int)<(Xz xs:Int)+((xs.length:Int)-1)*(Xz [x,y]:Int)+8)))]) (fun _=>[]) (fun _=>True) ?_ ?_
  ·refine Im (fun _=>False) []<|Zl (n:=7) [(0,0),(2,0),(3,0),(4,0),(5,0),(6,0),(7,0),(8,0)]<|go 9 ⟨O,?_⟩
   refine Qw (n:=6) 1 9 ?_ ?_
   ·refine Np (Zf 3 [1] (Py _ _ (by first | exact hv.sz | exact hsxy))) fun _ _=>?_
    refine Zl (n:=0) [(9,1),(10,1),(11,0),(12,0),(13,0),(14,0)]<|Bk J (Qz (i:=90) (ivs:=[(0,_),(1,_)]) (enc:=wv) [x,y] J J K4 Ydd ti80 J J J J J pV.cells J J hw.h) fun v _=>Yz (Zf 3 [90] (Py _ _ (by first | exact hv.sz | exact hsxy))) fun _ _=>go 5 ⟨by rw [hm4];exact⟨O,O⟩,by rw [hm4];exact⟨O,O⟩,by rw [hm4];exact⟨O,O⟩,?_⟩
    exact Zw<|On () trivial K1 trivial
   ·refine Zar J (Qz (i:=90) (ivs:=[(0,_),(1,_)]) (enc:=wv) [x,y] J J K4 Ydd ti80 J J J J J pV.cells J J hw.h) (fun v_2 _=>?_)
    refine Zl (n:=0) [(1,1),(10,1),(11,0),(12,0),(13,0),(14,0)]<|Yz (Zf 3 [1] (Py _ _ (by first | exact hv.sz | exact hsxy))) fun _ _=>Yz (Zf 3 [90] (Py _ _ (by first | exact hv.sz | exact hsxy))) fun _ _=>go 5 ⟨by rw [hm4];exact⟨O,O⟩,by rw [hm4];exact⟨O,O⟩,by rw [hm4];exact⟨O,O⟩,?_⟩
    exact Zw<|On () trivial K1 trivial
  ·rintro _ -
   refine Zc J (fun h189=>?_) (fun h189=>?_)
   ·have hE:Mo xs x y:=⟨hne,by rw [hm4]at h189;omega⟩
    refine go 2 ?_
    refine dt (Qg (ivs:=[]) J trivial (fun a w hs=>b80_))<|go 6 ?_
    exact Nu hsc () results308 (by unfold evv eve;rw [if_pos hE,if_pos hE]<;>rfl) trivial Za
   ·have hF:Xz xs+(xs.length-1)*Xz [x,y]+8≤65536:=by rw [hm4]at h189;omega
    refine go 4 ?_
    refine Yc (Zr 4) fun b_3 _=>go 2 ?_
    refine jn (G:=Nat×Nat) [0,3,4,6] [0,1,2,3,4] (fun q=>[(7,.pointer (some ⟨q.1,0,none⟩)),(8,.pointer (some ⟨q.2,0,none⟩))]) (fun q=>[(97,box q.1 80 (wc (xs.getD (xs.length-1) 0))),(98,box q.2 80 (wc 1))]) (fun q=>True) ?_ ?_
    ·refine Im (fun _=>False) [9,10]<|Zl (n:=5) [(0,0),(1,0),(2,0),(3,0),(4,0),(5,0)]<|go 4 ⟨O,?_⟩
     refine Qb J J (Ph (Ym (ii:=1) (i:=(xs.length-1)) J J J J Zk Oh Ln))<|go 2 ⟨O,?_⟩
     refine Zj7 (n:=4) 6 7 8 ?_ ?_ ?_
     ·refine Np (Zf 4 [] (Zh _ (by first | assumption | exact⟨O,O⟩))) fun _ _=>?_
      refine Qw (n:=3) 7 8 ?_ ?_
      ·refine Np (Zr 97) fun b_4 _=>?_
       refine Zl (n:=0) [(8,1),(9,3),(10,3)]<|Yz (Zr 98) fun b_5 _=>go 3 ?_
       exact Zw<|On (_,_) trivial K2 K2
      ·refine Np (Zr 98) fun b_6 _=>?_
       refine Zl (n:=0) [(7,1),(9,3),(10,3)]<|Yz (Zr 97) fun b_7 _=>go 3 ?_
       exact Zw<|On (_,_) trivial K2 K2
     ·refine Np (Zr 97) fun b_8 _=>?_
      refine Qw (n:=3) 6 8 ?_ ?_
      ·refine Np (Zf 4 [] (Zh _ (by first | assumption | exact⟨O,O⟩))) fun _ _=>?_
       refine Zl (n:=0) [(8,1),(9,3),(10,3)]<|Yz (Zr 98) fun b_9 _=>go 3 ?_
       exact Zw<|On (_,_) trivial K2 K2
      ·refine Np (Zr 98) fun b_10 _=>?_
       refine Zl (n:=0) [(6,1),(9,3),(10,3)]<|Yz (Zf 4 [] (Zh _ (by first | assumption | exact⟨O,O⟩))) fun _ _=>go 3 ?_
       exact Zw<|On (_,_) trivial K2 K2
     ·refine Np (Zr 98) fun b_11 _=>?_
      refine Qw (n:=3) 6 7 ?_ ?_
      ·refine Np (Zf 4 [] (Zh _ (by first | assumption | exact⟨O,O⟩))) fun _ _=>?_
       refine Zl (n:=0) [(7,1),(9,3),(10,3)]<|Yz (Zr 97) fun b_12 _=>go 3 ?_
       exact Zw<|On (_,_) trivial K2 K2
      ·refine Np (Zr 97) fun b_13 _=>?_
       refine Zl (n:=0) [(6,1),(9,3),(10,3)]<|Yz (Zf 4 [] (Zh _ (by first | assumption | exact⟨O,O⟩))) fun _ _=>go 3 ?_
       exact Zw<|On (_,_) trivial K2 K2
    ·rintro⟨b7,b8⟩ -
     dsimp only
     refine go 10 ⟨O,?_⟩
     refine lp (G:=Nat) [0,3,4,6,7,8] [0,1,2,3,4] (fun k=>[(9,.int .i64 ((k:Int)-1))]) (fun k=>[(97,box b7 80 (wc (Lh xs x y k))),(98,box b8 80 (wc (y^(xs.length-1-k))))]) (fun k=>k≤xs.length-1) (fun k=>k) (xs.length-1) O1 ⟨by rw [show((xs.length-1:Nat):Int)-1=(xs.length:Int)-2 by omega];rfl,trivial⟩ ⟨by rw [Ye6 x y O];rfl,by rw [Nat.sub_self,Int.pow_zero];rfl,trivial⟩ ?_
     rintro k hk
     refine go 7 ?_
     refine Zc J (fun h194=>?_) (fun h194=>?_)
     ·have hpw:y^(xs.length-1-k)*y=y^(xs.length-1-(k-1)):=Zy4 y O hk
      have hst:Lh xs x y k*x+xs.getD (k-1) 0*y^(xs.length-1-(k-1))=Lh xs x y (k-1):=Zwi x y O hk
      refine go 9 ?_
      refine tt (Xp (n:=4) (i:=4) (Gr _ _ _ (Zlu hF) hy (by rw [hpw];exact Zlu hF)) J J J K3 call191 J O3 Yf J hw.h trivial) fun _ _=>go 3 ?_
      refine Qe (fun x=>x=b_3) [(0,0),(1,0),(2,0),(4,0),(5,0),(6,0),(7,0),(8,0),(3,1),(9,1),(10,1),(11,3)]<|go 5 ?_
      refine Qb J J (st1 4 J (Ym (ii:=1) (i:=(k-1)) J J J J Zk Oh Ln))<|go 2 ⟨O,?_⟩
      refine Bk J (Xp (n:=4) (i:=4) (Gr _ _ _ (by first | exact Zlv hF hlen _ | exact hv.sz.getD _) (by first | exact hx | (rw [hpw];exact Zlu hF)) (by first | exact Zq3 hF hlen O hk | (rw [hpw];exact Zlt hF))) J J J K3 call191 J O3 Yf J hw.h J) (fun _ _=>?_)
      refine Bk J (Xp (n:=4) (i:=4) (Gr _ _ _ (by first | exact Zlv hF hlen _ | exact hv.sz.getD _) (by first | exact hx | (rw [hpw];exact Zlu hF)) (by first | exact Zq3 hF hlen O hk | (rw [hpw];exact Zlt hF))) J J J K3 call191 J O3 Yf J hw.h J) (fun _ _=>?_)
      refine Bk J (Xp (n:=4) (i:=4) (Zh4 _ _ _ (Zq3 hF hlen O hk) (by rw [hpw];exact Zlt hF) (by rw [hpw,hst];exact Zlv hF hlen _)) J J J K3 call196 J O3 Yf J hw.h J) fun _ _=>go 9 ⟨O,?_⟩
      exact Xg (k-1) O1 O1 ⟨by rw [show((k-1:Nat):Int)-1=(k:Int)-1-1 by omega];rfl,trivial⟩ ⟨by rw [hpw,hst];rfl,by rw [hpw];rfl,trivial⟩
     ·refine go 14 ?_
      refine Zc J (fun h198=>?_) (fun h198=>?_)
      ·exfalso;simp_all
      ·refine go 10 ?_
       obtain rfl:k=0:=O
       have hE:¬Mo xs x y:=fun h=>by have:=h.2;omega
       exact Nu hsc () results308 (by unfold evv eve;rw [if_neg hE,if_neg hE,←Zoq]<;>rfl) trivial Za
theorem Znw(v:Value)(xs:List Int)(x y:Int)(hv:Vp xs)(hx:bl x.natAbs≤65536)(hy:bl y.natAbs≤65536)(hy0:0<y):Pn prog 291 #[v,rX x y] [Yk 2 wv v xs] (.tuple #[.int .i64 (evv xs x y).sign,.int .i64 (eve xs x y)]):=by
 refine Zd func291 ntmps291 fun w0 sc hw hsc=>?_
 have hlen:=hv.len
 refine go 2 ?_
 refine Yc (Yb 2) fun b _=>go 8 ?_
 refine cl 2 [1] (Zvz _ _ _ _ hv hx hy hy0) fun _ _=>go 3 ?_
 refine Yc (Zr 3) fun b_2 _=>go 7 ?_
 refine cl 3 [] (Lt _ (evv_bl hlen)) fun _ _=>go 6 ?_
 exact Nu hsc () results291 J trivial Za
theorem Cp(bd:Nat)(v:Value)(xs:List Int)(hs:Sz 65536 xs):Zau prog 192 #[.pointer (some ⟨bd,0,none⟩),v] [Yk 2 wv v xs] true bd 250 #[.int .i64 0] (G:=Unit) (fun _=>True) (fun _=> .tuple #[Ml v (tzl xs).length,.int .i64 0]) (fun _=>#[.int .i64 0]) (fun _=>[Yk 2 wv (Ml v (tzl xs).length) (tzl xs)]):=by
 refine Hx func192 J ntmps192 J K1 ?_
 intro w0 sc hw hsc;have hw:=Hw.mk hw
 simp only [Ql,Xj]
 refine go 17 ?_
 refine Zc J (fun h43=>?_) (fun h43=>?_)
 ·exfalso;simp_all
 ·refine go 5 ?_
  refine cl 3 [2] (Za1 _ _ ‹_›) fun _ _=>go 5 ?_
  exact Gf (.inl J) hsc () _ (fun a w hs=>Zvs hs results192 J J) J trivial 1 J J J J (Kx 3 J J J Za)
theorem Zul(v:Value)(xs:List Int)(hx:xs.length*24≤140737488355328:=by omega):Ygt prog 305 #[v] [Yk 2 wv v xs] (G:=Value) (fun r=>True) (fun r=>r) (fun r=>Pu 2 80 wv r xs):=by
 refine Zuu func305 J ntmps305 J K1 ?_
 intro w0 sc hw hsc;have hw:=Hw.mk hw
 simp only [Ql,Xj]
 refine Mr (f_nil (i:=1) J Zk) fun hnil=>go 9 ?_
 refine dt (Zub J J J (i:=1) J Zk Oh)<|go 2 ?_
 refine My J (fun h357=>?_) (fun h357=>?_)
 ·refine go 7 ?_
  obtain rfl:xs=[]:=hnil (by simpa using h357)
  exact Yw (Nw 9 2 80 wv)<|Zj8 (.inl J) (.slice none 0 0) _ (fun a w hs=>Zbi hs results305 J) J trivial J 9 J J J
 ·refine go 4 ?_
  refine tt (t_bs0 (i:=2) (enc:=wv) J J J Oh pV J hw.h) fun v _=>go 1 ?_
  refine tt (Kg (i:=2) (j:=1) (by_:=24) J J J J J J O3 J Zk Oh ti80 J pV J J J O8 O3 J hw.h) fun v_2 _=>go 4 ?_
  exact Zj8 (.inl J) _ _ (fun a w hs=>Zbi hs results305 J) J trivial J 2 J (by rfl) J
theorem Ze6(v:Value)(xs:List Int)(hv:Vp xs):Pn prog 301 #[v] [Yk 2 wv v xs] (.tuple #[.int .i64 ((xs.length:Int)-1),.int .i64 0]):=by
 refine Zd func301 ntmps301 fun w0 sc hw hsc=>?_
 have hlen:=hv.len
 refine go 10 ?_
 refine cl 1 [1] (Ys _ _ ‹_›) fun _ _=>go 16 ⟨O,?_⟩
 exact Nu hsc () results301 J trivial Za
theorem Zjo(v:Value)(xs:List Int)(hv:Vp xs):Pn prog 302 #[v] [Yk 2 wv v xs] (.tuple #[.int .i64 (Xz xs:Int),.int .i64 0]):=by
 refine Zd func302 ntmps302 fun w0 sc hw hsc=>go 10 ?_
 refine cl 1 [1] (Ys _ _ ‹_›) fun _ _=>go 9 ?_
 refine cl 1 [1] (Py _ _ hv.sz) fun _ _=>go 5 ?_
 exact Nu hsc () results302 J trivial Za
theorem Zpe(bd:Nat)(v u:Value)(xs ys:List Int)(hv:Vp xs)(hu:Vp ys)(hz:∀i,bl (cf xs i+cf ys i).natAbs≤65536):Zau prog 193 #[v,u,.pointer (some ⟨bd,0,none⟩),.func (.func 196) #[.pointer (some ⟨bd,0,none⟩)] #[]] [Yk 2 wv v xs,Yk 2 wv u ys] true bd 250 #[.int .i64 0] (G:=Value) (fun r=>True) (fun r=> .tuple #[r,.int .i64 0]) (fun r=>#[.int .i64 0]) (fun r=>[Yk 2 wv r (Zei xs ys)]):=by
 refine Hx func193 J ntmps193 J K2 ?_
 intro w0 sc hw hsc;have hw:=Hw.mk hw
 simp only [Ql,Xj]
 have hlen:=hv.len
 have hlen2:=hu.len
 refine go 10 ?_
 refine cl 3 [2] (Ys _ _ ‹_›) fun _ _=>go 3 ?_
 refine Hs 3 [3] (Ys _ _ ‹_›) fun _ _=>go 13 ?_
 refine dt (Zfb J J J)<|tt (He (i:=4) (n:=(max xs.length ys.length)) (by_:=24) (enc:=wv) 0 J J J J Oh ti80 J pV.cells pV.pos J J J hw.h) fun v _=>go 12 ?_
 refine lp (G:=Nat) [0,1,2,3,10,29] [0,1,2,3] (fun k=>[(30,.int .i64 (k:Int))]) (fun k=>[(4,Pu 2 80 wv v (fill (max xs.length ys.length) k (fun i=>cf xs i+cf ys i)))]) (fun k=>k≤max xs.length ys.length) (fun k=>max xs.length ys.length-k) 0 O1 K1 ⟨by rw [Eb (max xs.length ys.length) (fun i=>cf xs i+cf ys i)];rfl,trivial⟩ ?_
 rintro k hk
 have hlf:(fill (max xs.length ys.length) k (fun i=>cf xs i+cf ys i)).length=max xs.length ys.length:=Qa _ _ _
 refine go 6 ?_
 refine Zc J (fun h106=>?_) (fun h106=>?_)
 ·try rw [List.length_replicate]at *
  refine go 12 ?_
  refine Yc (Zr 5) fun b _=>Yc (Zr 6) fun b_2 _=>go 2 ?_
  refine jn (G:=Unit) [0,1,2,3,10,11,12,13,29,30] [0,4,1,2,3,6] (fun _=>[]) (fun _=>[(5,box b 80 (wc (cf xs k)))]) (fun _=>True) ?_ ?_
  ·refine go 8 ?_
   refine Zc J (fun h108=>?_) (fun h108=>?_)
   ·refine go 7 ⟨O2,O2,?_⟩
    exact On () trivial trivial ⟨by first | rfl | (rw [Ya (p:=xs) O];rfl),trivial⟩
   ·refine go 1 ?_
    exact On () trivial trivial ⟨by first | rfl | (rw [Ya (p:=xs) O];rfl),trivial⟩
  ·rintro _ -
   refine jn (G:=Unit) [0,1,2,3,10,11,12,13,29,30] [0,5,4,1,2,3] (fun _=>[]) (fun _=>[(6,box b_2 80 (wc (cf ys k)))]) (fun _=>True) ?_ ?_
   ·refine go 8 ?_
    refine Zc J (fun h111=>?_) (fun h111=>?_)
    ·refine go 7 ⟨O2,O2,?_⟩
     exact On () trivial trivial ⟨by first | rfl | (rw [Ya (p:=ys) O];rfl),trivial⟩
    ·refine go 1 ?_
     exact On () trivial trivial ⟨by first | rfl | (rw [Ya (p:=ys) O];rfl),trivial⟩
   ·rintro _ -
    refine go 6 ?_
    refine tt (Zm2 (n:=6) (i:=1) (fs:=[_]) (vs:=[_,_]) (Zh4 _ _ _ (hv.sz _) (hu.sz _) (hz _)) J J J J K2 call196 J O3 Yf J hw.h trivial) (fun _ _=>?_)
    refine dt (Ym (ii:=4) (i:=k) J J J J (Yj pV) Oh Ln J (by rw [Qa];omega))<|tt (Mt (i:=4) (enc:=wv) _ J J J J J J pV J hw.h O3 (by rw [Qa];omega)) fun _ _=>go 7 ⟨O,?_⟩
    exact Xg (k+1) O1 O1 K1 ⟨by rw [←Zaf O];rfl,trivial⟩
 ·try rw [List.length_replicate]at *
  refine go 6 ?_
  obtain rfl:k=max xs.length ys.length:=O
  refine Zi (Pg 4 J J pV)<|go 3 ?_
  refine tt (Xp (n:=7) (i:=1) (Cp _ _ _ (by rw [Hr];exact Zbq fun i _=>hz i)) J J J K2 call192 J O3 (Yi 4 J J J Yf) J hw.h trivial) fun _ _=>go 7 ?_
  exact Gf (.inl J) hsc _ _ (fun a w hs=>Zvs hs results193 J J) J trivial 1 J J J J (Zhu 7 J J J (by rw [Hr]<;>rfl) Za)
theorem Zpd(bd:Nat)(v u:Value)(xs ys:List Int)(hv:Vp xs)(hu:Vp ys)(hz:∀i,bl (cf xs i-cf ys i).natAbs≤65536):Zau prog 193 #[v,u,.pointer (some ⟨bd,0,none⟩),.func (.func 194) #[.pointer (some ⟨bd,0,none⟩)] #[]] [Yk 2 wv v xs,Yk 2 wv u ys] true bd 250 #[.int .i64 0] (G:=Value) (fun r=>True) (fun r=> .tuple #[r,.int .i64 0]) (fun r=>#[.int .i64 0]) (fun r=>[Yk 2 wv r (Bz xs ys)]):=by
 refine Hx func193 J ntmps193 J K2 ?_
 intro w0 sc hw hsc;have hw:=Hw.mk hw
 simp only [Ql,Xj]
 have hlen:=hv.len
 have hlen2:=hu.len
 refine go 10 ?_
 refine cl 3 [2] (Ys _ _ ‹_›) fun _ _=>go 3 ?_
 refine Hs 3 [3] (Ys _ _ ‹_›) fun _ _=>go 13 ?_
 refine dt (Zfb J J J)<|tt (He (i:=4) (n:=(max xs.length ys.length)) (by_:=24) (enc:=wv) 0 J J J J Oh ti80 J pV.cells pV.pos J J J hw.h) fun v _=>go 12 ?_
 refine lp (G:=Nat) [0,1,2,3,10,29] [0,1,2,3] (fun k=>[(30,.int .i64 (k:Int))]) (fun k=>[(4,Pu 2 80 wv v (fill (max xs.length ys.length) k (fun i=>cf xs i-cf ys i)))]) (fun k=>k≤max xs.length ys.length) (fun k=>max xs.length ys.length-k) 0 O1 K1 ⟨by rw [Eb (max xs.length ys.length) (fun i=>cf xs i-cf ys i)];rfl,trivial⟩ ?_
 rintro k hk
 have hlf:(fill (max xs.length ys.length) k (fun i=>cf xs i-cf ys i)).length=max xs.length ys.length:=Qa _ _ _
 refine go 6 ?_
 refine Zc J (fun h106=>?_) (fun h106=>?_)
 ·try rw [List.length_replicate]at *
  refine go 12 ?_
  refine Yc (Zr 5) fun b _=>Yc (Zr 6) fun b_2 _=>go 2 ?_
  refine jn (G:=Unit) [0,1,2,3,10,11,12,13,29,30] [0,4,1,2,3,6] (fun _=>[]) (fun _=>[(5,box b 80 (wc (cf xs k)))]) (fun _=>True) ?_ ?_
  ·refine go 8 ?_
   refine Zc J (fun h108=>?_) (fun h108=>?_)
   ·refine go 7 ⟨O2,O2,?_⟩
    exact On () trivial trivial ⟨by first | rfl | (rw [Ya (p:=xs) O];rfl),trivial⟩
   ·refine go 1 ?_
    exact On () trivial trivial ⟨by first | rfl | (rw [Ya (p:=xs) O];rfl),trivial⟩
  ·rintro _ -
   refine jn (G:=Unit) [0,1,2,3,10,11,12,13,29,30] [0,5,4,1,2,3] (fun _=>[]) (fun _=>[(6,box b_2 80 (wc (cf ys k)))]) (fun _=>True) ?_ ?_
   ·refine go 8 ?_
    refine Zc J (fun h111=>?_) (fun h111=>?_)
    ·refine go 7 ⟨O2,O2,?_⟩
     exact On () trivial trivial ⟨by first | rfl | (rw [Ya (p:=ys) O];rfl),trivial⟩
    ·refine go 1 ?_
     exact On () trivial trivial ⟨by first | rfl | (rw [Ya (p:=ys) O];rfl),trivial⟩
   ·rintro _ -
    refine go 6 ?_
    refine tt (Zm2 (n:=6) (i:=1) (fs:=[_]) (vs:=[_,_]) (Zrb _ _ _ (hv.sz _) (hu.sz _) (hz _)) J J J J K2 call194 J O3 Yf J hw.h trivial) (fun _ _=>?_)
    refine dt (Ym (ii:=4) (i:=k) J J J J (Yj pV) Oh Ln J (by rw [Qa];omega))<|tt (Mt (i:=4) (enc:=wv) _ J J J J J J pV J hw.h O3 (by rw [Qa];omega)) fun _ _=>go 7 ⟨O,?_⟩
    exact Xg (k+1) O1 O1 K1 ⟨by rw [←Zaf O];rfl,trivial⟩
 ·try rw [List.length_replicate]at *
  refine go 6 ?_
  obtain rfl:k=max xs.length ys.length:=O
  refine Zi (Pg 4 J J pV)<|go 3 ?_
  refine tt (Xp (n:=7) (i:=1) (Cp _ _ _ (by rw [Hr];exact Zbq fun i _=>hz i)) J J J K2 call192 J O3 (Yi 4 J J J Yf) J hw.h trivial) fun _ _=>go 7 ?_
  exact Gf (.inl J) hsc _ _ (fun a w hs=>Zvs hs results193 J J) J trivial 1 J J J J (Zhu 7 J J J (by rw [Hr]<;>rfl) Za)
theorem Zy6(v u:Value)(xs ys:List Int)(hv:Vp xs)(hu:Vp ys)(hz:∀i,bl (cf xs i+cf ys i).natAbs≤65536):Cal prog 139 #[v,u] [Yk 2 wv v xs,Yk 2 wv u ys] true (G:=Value) (fun r=>True) (fun r=> .tuple #[r,.int .i64 0]) (fun r=>[Yk 2 wv r (Zei xs ys)]):=by
 refine Zd func139 ntmps139 fun w0 sc hw hsc=>go 8 ?_
 refine Yc (Zr 3) fun b _=>go 6 ?_
 refine dt (d_mkf (vs:=[_]) J K1)<|tt (Xp (n:=4) (i:=3) (Zpe _ _ _ _ _ ‹_› ‹_› ‹_›) J J J K4 call193 J O3 (Yi 1 J J J (Yi 2 J J J Yf)) J hw.h trivial) fun _ _=>go 7 ?_
 exact Nu hsc _ results139 J trivial (Nz 4 Za)
theorem Zy5(v u:Value)(xs ys:List Int)(hv:Vp xs)(hu:Vp ys)(hz:∀i,bl (cf xs i-cf ys i).natAbs≤65536):Cal prog 137 #[v,u] [Yk 2 wv v xs,Yk 2 wv u ys] true (G:=Value) (fun r=>True) (fun r=> .tuple #[r,.int .i64 0]) (fun r=>[Yk 2 wv r (Bz xs ys)]):=by
 refine Zd func137 ntmps137 fun w0 sc hw hsc=>go 8 ?_
 refine Yc (Zr 3) fun b _=>go 6 ?_
 refine dt (d_mkf (vs:=[_]) J K1)<|tt (Xp (n:=4) (i:=3) (Zpd _ _ _ _ _ ‹_› ‹_› ‹_›) J J J K4 call193 J O3 (Yi 1 J J J (Yi 2 J J J Yf)) J hw.h trivial) fun _ _=>go 7 ?_
 exact Nu hsc _ results137 J trivial (Nz 4 Za)
theorem Znx(v u:Value)(xs ys:List Int)(hv:Vp xs)(hu:Vp ys)(hF:¬Dj xs ys):Cal prog 138 #[v,u] [Yk 2 wv v xs,Yk 2 wv u ys] true (G:=Value) (fun r=>True) (fun r=> .tuple #[r,.int .i64 0]) (fun r=>[Yk 2 wv r (Xw xs ys)]):=by
 refine Zd func138 ntmps138 fun w0 sc hw hsc=>?_
 have hlen:=hv.len
 have hlen2:=hu.len
 have hm1:=Qu hv.sz
 have hm2:=Qu hu.sz
 refine go 10 ?_
 refine cl 2 [1] (Ys _ _ ‹_›) fun _ _=>go 3 ?_
 refine Hs 2 [2] (Ys _ _ ‹_›) fun _ _=>go 14 ?_
 refine Yv (d:=23) J (fun s136=>?_) (fun s136=>?_)
 ·refine go 15 ?_
  exact Nu hsc _ results138 J trivial (Nn (Zc9 (p:=xs) (q:=ys) (by first | (left;omega) | (right;omega))) Za)
 ·refine go 6 ?_
  refine Zc J (fun h136=>?_) (fun h136=>?_)
  ·refine go 8 ?_
   exact Nu hsc _ results138 J trivial (Nn (Zc9 (p:=xs) (q:=ys) (by first | (left;omega) | (right;omega))) Za)
  ·have hnx:xs≠[]:=by intro e;subst e;simp_all
   have hny:ys≠[]:=by intro e;subst e;simp_all
   have hlx:0<xs.length:=List.length_pos_iff.2 hnx
   have hly:0<ys.length:=List.length_pos_iff.2 hny
   refine go 13 ⟨O,O,?_⟩
   refine Yv (d:=35) J (fun s139=>?_) (fun s139=>?_)
   ·exfalso;exact hF ⟨hnx,hny,.inl O⟩
   ·refine go 1 ?_
    refine Hs 2 [1] (Py _ _ (by first | exact hv.sz | exact hu.sz)) fun _ _=>go 1 ?_
    refine Hs 2 [2] (Py _ _ (by first | exact hv.sz | exact hu.sz)) fun _ _=>go 6 ⟨O,O,?_⟩
    refine Zc J (fun h139=>?_) (fun h139=>?_)
    ·exfalso;exact hF ⟨hnx,hny,by first | (left;omega) | (right;omega)⟩
    ·have hsz:Xz xs+Xz ys+5≤65536:=O
     have hpq:∀i j,bl (cf xs i*cf ys j).natAbs≤65536:=fun i j=>by have:=Xb (cf xs i) (cf ys j);have:=Ld xs i;have:=Ld ys j;omega
     have hac:∀i j t,i<25→bl (Cv xs ys i j t).natAbs≤65536:=fun i j t hi=>by have:=Ygn (i:=i) (j:=j) (t:=t) (Ld xs) (Ld ys) O;omega
     have hacc:∀t,bl (acc xs ys xs.length t).natAbs≤65536:=fun t=>by have:=bl_acc (i:=xs.length) (t:=t) (Ld xs) (Ld ys) O;omega
     have hsum:∀i j,i<25→bl (Cv xs ys i j (i+j)+cf xs i*cf ys j).natAbs≤65536:=fun i j hi=>by rw [←Zw3];exact hac i (j+1) _ hi
     refine go 4 ?_
     refine Yc (Zr 3) fun b _=>go 10 ⟨O,O,?_⟩
     refine tt (He (i:=4) (n:=(xs.length+ys.length-1)) (by_:=24) (enc:=wv) 0 J J J J Oh ti80 J pV.cells pV.pos J J J hw.h) fun v _=>go 12 ?_
     refine lp (G:=Nat) [1,6,7,51,52] [0,1,2,3] (fun i=>[(53,.int .i64 (i:Int))]) (fun i=>[(4,Pu 2 80 wv v (mk (xs.length+ys.length-1) (acc xs ys i)))]) (fun i=>i≤xs.length) (fun i=>xs.length-i) 0 O1 K1 ⟨by rw [Zqg];rfl,trivial⟩ ?_
     rintro i hi
     refine go 6 ?_
     refine Zc J (fun h144=>?_) (fun h144=>?_)
     ·refine go 9 ⟨O2,O2,?_⟩
      refine Yc (Zr 5) fun b_2 _=>go 12 ?_
      refine lp (G:=Nat) [1,6,7,8,9,51,52,53,58,59] [0,1,2,3,5] (fun j=>[(60,.int .i64 (j:Int))]) (fun j=>[(4,Pu 2 80 wv v (mk (xs.length+ys.length-1) (Cv xs ys i j)))]) (fun j=>j≤ys.length) (fun j=>ys.length-j) 0 O1 K1 ⟨by rw [Zw2];rfl,trivial⟩ ?_
      rintro j hj
      have hgd:i+j<xs.length+ys.length-1→(mk (xs.length+ys.length-1) (Cv xs ys i j)).getD (i+j) 0=Cv xs ys i j (i+j):=fun h=>Zbb h
      refine go 6 ?_
      refine Zc J (fun h145=>?_) (fun h145=>?_)
      ·refine go 9 ⟨O2,O2,?_⟩
       refine Yc (Zr 6) fun b_3 _=>go 4 ?_
       refine Qe (fun x=>x=b) [(0,0),(1,0),(2,0),(3,0),(4,0),(5,0),(6,0),(7,0),(8,0),(9,0),(10,0),(11,0),(12,1),(13,1),(14,0),(15,3)]<|go 8 ⟨O,O,?_⟩
       refine Qb J J (st1 3 J (Ym (ii:=4) (i:=(i+j)) J J J J (Yj pV) Oh Ln O (by rw [Yd];omega)))<|go 3 ⟨by rw [Yd];omega,?_⟩
       refine Bk J (Xp (n:=6) (i:=3) (Gr _ _ _ (hv.sz _) (hu.sz _) (hpq i j)) J J J K3 call191 J O3 Yf J hw.h J) (fun _ _=>?_)
       refine Bk J (Xp (n:=6) (i:=3) (Zh4 _ _ _ (by rw [hgd O];exact hac i j _ O) (hpq i j) (by rw [hgd O];exact hsum i j O)) J J J K3 call196 J O3 Yf J hw.h J) (fun _ _=>?_)
       refine Qb J J (st1 3 J (Ym (ii:=4) (i:=(i+j)) J J J J (Yj pV) Oh Ln O (by rw [Yd];omega)))<|r3' J (Mt (i:=4) (enc:=wv) _ J J J J J J pV J hw.h O3 (by rw [Yd];omega)) fun _ _=>go 7 ⟨O,?_⟩
       exact Xg (j+1) O1 O1 K1 ⟨by rw [←Ycu O,←hgd O];rfl,trivial⟩
      ·refine go 10 ⟨O,?_⟩
       obtain rfl:j=ys.length:=O
       exact Xg (i+1) O1 O1 K1 ⟨by rw [←Ycv];rfl,trivial⟩
     ·refine go 6 ?_
      obtain rfl:i=xs.length:=O
      refine Zi (Pg 4 J J pV)<|go 2 ?_
      refine tt (Xp (n:=7) (i:=3) (Cp _ _ _ (Zbq fun t _=>hacc t)) J J J K2 call192 J O3 (Yi 4 J J J Yf) J hw.h trivial) fun _ _=>go 7 ?_
      exact Nu hsc _ results138 J trivial (Nz 7 Za (by rw [Zy8]<;>rfl))
end Go.Sky

