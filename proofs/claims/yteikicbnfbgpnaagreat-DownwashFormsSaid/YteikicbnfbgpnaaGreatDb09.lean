/- Rules, arithmetic and contracts: part 10. No conditions but those that each theorem names. -/
import Derived.Test.YteikicbnfbgpnaaGreatDb08
set_option linter.all false
namespace Go.Sky
open Go.Proofs.Tryz
open Go.Proofs
set_option synthInstance.maxHeartbeats 0
set_option synthInstance.maxSize 100000
set_option maxRecDepth 20000
set_option maxHeartbeats 4000000
set_option linter.unusedSimpArgs false
theorem Ag(b:Bool)(s:ByteArray):Om prog 178 #[.agg #[.bool b,.string s]] [] (.bool (okW b s)):=by
 refine Zd func178 ntmps178 fun w0 sc hw hsc=>go 2 ?_
 refine Yk (Yj 1) fun b _=>go 8 ?_
 refine dt (Zs7 J J J J)<|go 2 ?_
 refine Zc J (fun h264=>?_) (fun h264=>?_)
 ·refine go 10 ?_
  exact Xn hsc () results178 (by unfold okW;rw [if_pos h264]) trivial Za
 ·refine go 6 ?_
  refine dt (Ydt (i:=0) J J J uT9 J)<|go 2 ?_
  refine Yt (d:=13) J (fun s267=>?_) (fun s267=>?_)
  ·refine go 9 ?_
   exact Xn hsc () results178 (by unfold okW;rw [if_neg h264];simp_all<;>omega) trivial Za
  ·refine go 9 ?_
   exact Xn hsc () results178 (by unfold okW;rw [if_neg h264];simp_all<;>omega) trivial Za
theorem Ld(x:Int)(hx:bl x.natAbs≤65536):Cal prog 178 #[wv x] [] false (G:=Unit) (fun _=>True) (fun _=> .bool true) (fun _=>[]):=Zau hx▸Ag _ _
theorem Zj9(b:Bool)(s:ByteArray)(c:Bool)(t:ByteArray):Om prog 228 #[.agg #[.bool b,.string s],.agg #[.bool c,.string t]] [] (.bool (okW b s && okW c t)):=by
 refine Zd func228 ntmps228 fun w0 sc hw hsc=>go 2 ?_
 refine Yk (Yj 1) fun b _=>Yk (Yj 2) fun b_2 _=>go 6 ?_
 refine cl 2 [] (Ag _ _) fun _ _=>go 1 ?_
 refine Bo (d:=7) J (fun s271=>?_) (fun s271=>?_)
 ·refine go 1 ?_
  refine Gy 2 [] (Ag _ _) fun _ _=>go 5 ?_
  exact Xn hsc () results228 (by simp_all) trivial Za
 ·refine go 7 ?_
  exact Xn hsc () results228 (by simp_all) trivial Za
theorem Kd(x y:Int)(hx:bl x.natAbs≤65536)(hy:bl y.natAbs≤65536):Om prog 228 #[wv x,wv y] [] (.bool true):=by
 have h:=Zj9 (decide (x<0)) (Xz x.natAbs) (decide (y<0)) (Xz y.natAbs)
 rw [Zau hx,Zau hy]at h;exact h
theorem Km(x:Int)(hx:bl x.natAbs≤65536):Om prog 237 #[wv x] [] (.int .i64 x.sign):=by
 refine Zd func237 ntmps237 fun w0 sc hw hsc=>go 2 ?_
 refine Yk (Yj 1) fun b _=>go 7 ?_
 refine cl 1 [] (Ld _ ‹_›) fun _ _=>go 9 ?_
 refine cl 2 [] (Xt _ _ (Xc _)) fun g hg=>cl 2 [2] (Zib _ _ _ ‹_›) fun _ _=>go 4 ?_
 exact Xn hsc () results237 J trivial Za
theorem Zhb(x:Int)(hx:bl x.natAbs≤65536):Om prog 240 #[wv x] [] (.int .i64 (bl x.natAbs:Int)):=by
 refine Zd func240 ntmps240 fun w0 sc hw hsc=>go 2 ?_
 refine Yk (Yj 1) fun b _=>go 7 ?_
 refine cl 1 [] (Ld _ ‹_›) fun _ _=>go 10 ?_
 refine cl 2 [] (Zbj _) fun v _=>cl 2 [2] (Zid _ _) fun _ _=>go 4 ?_
 exact Xn hsc () results240 J trivial Za
theorem Zod(x y:Int)(hx:bl x.natAbs≤65536)(hy:bl y.natAbs≤65536):Om prog 180 #[wv x,wv y] [] (Zah (x+y)):=by
 refine Zd func180 ntmps180 fun w0 sc hw hsc=>?_
 have hb:=It x y
 refine go 2 ?_
 refine Yk (Yj 1) fun b _=>Yk (Yj 2) fun b_2 _=>Yk (Zz 3) fun b_3 _=>go 8 ?_
 refine cl 3 [] (Kd _ _ ‹_› ‹_›) fun _ _=>go 7 ?_
 refine Qe (fun _=>False) [(0,0),(2,0),(1,1),(3,1),(4,1),(5,1),(6,0),(7,0),(8,3),(9,3)]<|go 2 ?_
 refine Yz (Zg 4 [] (Xt _ _ (Xc _))) fun g hg=>Yz (Zg 5 [] (Xt _ _ (Xc _))) fun g_2 hg_2=>Yz (Zg 6 [4,5] (Zd8 _ _ _ _ _ _ ‹_› ‹_›)) fun g_3 hg_3=>Yz (Zg 6 [6] (Kz _ _ _ ‹_›)) fun _ _=>go 7 ?_
 exact Mi hsc () results180 J trivial Za
theorem Zy7(x y:Int)(hx:bl x.natAbs≤65536)(hy:bl y.natAbs≤65536):Om prog 239 #[wv x,wv y] [] (Zah (x-y)):=by
 refine Zd func239 ntmps239 fun w0 sc hw hsc=>?_
 have hb:=Cv x y
 have hny:=Zjm y
 refine go 2 ?_
 refine Yk (Yj 1) fun b _=>Yk (Yj 2) fun b_2 _=>Yk (Zz 3) fun b_3 _=>go 8 ?_
 refine cl 3 [] (Kd _ _ ‹_› ‹_›) fun _ _=>go 7 ?_
 refine Qe (fun _=>False) [(0,0),(2,0),(1,1),(3,1),(4,1),(5,1),(6,1),(7,0),(8,0),(9,3),(10,3)]<|go 2 ?_
 refine Yz (Zg 4 [] (Xt _ _ (Xc _))) fun g hg=>Yz (Zg 5 [] (Xt _ _ (Xc _))) fun g_2 hg_2=>Yz (Zg 6 [5] (Zmj _ _ _ ‹_›)) fun g_3 hg_3=>Yz (Zg 7 [4,6] (Zd8 _ _ _ _ _ _ ‹_› ‹_›)) fun g_4 hg_4=>Yz (Zg 7 [7] (Kz _ _ _ ‹_› (by rw [←Int.sub_eq_add_neg];omega))) fun _ _=>go 7 ?_
 exact Mi hsc () results239 (by rw [Int.sub_eq_add_neg]<;>rfl) trivial Za
theorem Zoa(x y:Int)(hx:bl x.natAbs≤65536)(hy:bl y.natAbs≤65536):Om prog 234 #[wv x,wv y] [] (Zah (x*y)):=by
 refine Zd func234 ntmps234 fun w0 sc hw hsc=>?_
 have hb:=Xa x y
 refine go 2 ?_
 refine Yk (Yj 1) fun b _=>Yk (Yj 2) fun b_2 _=>Yk (Zz 3) fun b_3 _=>go 8 ?_
 refine cl 3 [] (Kd _ _ ‹_› ‹_›) fun _ _=>go 7 ?_
 refine Qe (fun _=>False) [(0,0),(2,0),(1,1),(3,1),(4,1),(5,1),(6,0),(7,0),(8,3),(9,3)]<|go 2 ?_
 refine Yz (Zg 4 [] (Xt _ _ (Xc _))) fun g hg=>Yz (Zg 5 [] (Xt _ _ (Xc _))) fun g_2 hg_2=>Yz (Zg 6 [4,5] (Zbs _ _ _ _ _ _ ‹_› ‹_›)) fun g_3 hg_3=>Yz (Zg 6 [6] (Kz _ _ _ ‹_›)) fun _ _=>go 7 ?_
 exact Mi hsc () results234 J trivial Za
theorem Zoc(x y:Int)(hx:bl x.natAbs≤65536)(hy:bl y.natAbs≤65536):Om prog 188 #[wv x,wv y] [] (Zah (Int.gcd x y:Int)):=by
 refine Zd func188 ntmps188 fun w0 sc hw hsc=>?_
 have hb:=Znz x.natAbs y.natAbs
 refine go 2 ?_
 refine Yk (Yj 1) fun b _=>Yk (Yj 2) fun b_2 _=>Yk (Zz 3) fun b_3 _=>go 8 ?_
 refine cl 3 [] (Kd _ _ ‹_› ‹_›) fun _ _=>go 7 ?_
 refine Qe (fun _=>False) [(0,0),(1,0),(3,0),(4,0),(2,1),(5,1),(6,1),(7,0),(8,1),(9,0),(10,0),(11,3),(12,3)]<|go 4 ?_
 refine Yz (Zg 4 [] (Zbj _)) fun v _=>Yz (Zg 5 [] (Zbj _)) fun v_2 _=>Yz (Zg 6 [4,5] (Zmo _ _ _ _)) fun v_3 _=>?_
 refine Qc J J (Qy (Qi (ivs:=[(0,_),(1,_)]) J K4 (fun a w hs=>Lp ((Yo J) a w hs) ((Pl (i:=6) J Zk) a w hs))))<|Yz (Zg 6 [6] (Kz false _ (Int.gcd x y:Int) (by simp [sg]) (by show bl (Nat.gcd x.natAbs y.natAbs)≤_;omega))) fun _ _=>go 7 ?_
 exact Mi hsc () results188 J trivial Za
theorem Dl(x y:Int)(hx:bl x.natAbs≤65536)(hy:bl y.natAbs≤65536)(hy0:y≠0):Om prog 179 #[wv x,wv y] [] (.tuple #[wv (Bw (x/y)),wv (Bw (x%y)),.int .i64 0]):=by
 refine Zd func179 ntmps179 fun w0 sc hw hsc=>?_
 have hb:=Zha x y
 have hb2:=Zwr x y hy0
 refine go 2 ?_
 refine Yk (Yj 1) fun b _=>Yk (Yj 2) fun b_2 _=>Yk (Zz 3) fun b_3 _=>Yk (Zz 4) fun b_4 _=>go 8 ?_
 refine cl 4 [] (Kd _ _ ‹_› ‹_›) fun _ _=>go 11 ?_
 refine dt (Zs7 J J J J)<|go 2 ?_
 refine Zc J (fun h337=>?_) (fun h337=>?_)
 ·rw [Fp]at h337
  exfalso;exact hy0 (by have:=(Pe (by omega:2≤256) y.natAbs).1 h337;omega)
 ·refine go 2 ?_
  refine jn (G:=Bool×Value×Value×Nat×Nat) [4,5] [0,1,2,3,4] (fun q=>[(7,.pointer (some ⟨q.2.2.2.1,0,none⟩)),(8,.pointer (some ⟨q.2.2.2.2,0,none⟩))]) (fun q=>[(84,Fa q.2.1 (x/y).natAbs),(85,Fa q.2.2.1 (x%y).natAbs),(86,box q.2.2.2.1 219 #[.bool q.1,q.2.1]),(87,box q.2.2.2.2 219 #[.bool false,q.2.2.1])]) (fun q=>sg q.1 (x/y)) ?_ ?_
  ·refine Ln [1,2] [11]<|Zh (n:=10) [(0,0),(2,0)]<|go 3 ?_
   refine Zey (n:=9) 1 8 9 ?_ ?_ ?_
   ·refine Ol (Zg 81 [] (Xt _ _ (Xc _))) fun g hg=>?_
    refine Zey (n:=8) 3 8 9 ?_ ?_ ?_
    ·refine Ol (Zg 82 [] (Xt _ _ (Xc _))) fun g_2 hg_2=>?_
     refine Zey (n:=7) 4 8 9 ?_ ?_ ?_
     ·refine Ol (Zg 84 [81,82] (Of _ _ _ _ _ _ ‹_› ‹_› hy0)) fun g_3 hg_3=>?_
      refine Zh (n:=4) [(5,0),(6,0),(7,0)]<|go 4 ?_
      refine Qp (n:=3) 8 9 ?_ ?_
      ·refine Ol (Qr 86) fun b_5 ho=>?_
       refine Zh (n:=0) [(9,1),(10,1),(11,3)]<|Yz (Qr 87) fun b_6 ho2=>go 3 ?_
       exact Zs<|Pr (_,_,_,_,_) ‹_› K2 K4
      ·refine Ol (Qr 87) fun b_7 ho3=>?_
       refine Zh (n:=0) [(8,1),(10,1),(11,3)]<|Yz (Qr 86) fun b_8 ho4=>go 3 ?_
       exact Zs<|Pr (_,_,_,_,_) ‹_› K2 K4
     ·refine Ol (Qr 86) fun b_9 ho5=>?_
      refine Qp (n:=6) 4 9 ?_ ?_
      ·refine Ol (Zg 84 [81,82] (Of _ _ _ _ _ _ ‹_› ‹_› hy0)) fun g_4 hg_4=>?_
       refine Zh (n:=0) [(5,0),(6,0),(7,0),(9,1),(10,1),(11,3)]<|go 3 ?_
       refine Yz (Qr 87) fun b_10 ho6=>go 3 ?_
       exact Zs<|Pr (_,_,_,_,_) ‹_› K2 K4
      ·refine Ol (Qr 87) fun b_11 ho7=>?_
       refine Zh (n:=0) [(4,1),(5,0),(6,0),(7,0),(10,1),(11,3)]<|Yz (Zg 84 [81,82] (Of _ _ _ _ _ _ ‹_› ‹_› hy0)) fun g_5 hg_5=>go 6 ?_
       exact Zs<|Pr (_,_,_,_,_) ‹_› K2 K4
     ·refine Ol (Qr 87) fun b_12 ho8=>?_
      refine Qp (n:=6) 4 8 ?_ ?_
      ·refine Ol (Zg 84 [81,82] (Of _ _ _ _ _ _ ‹_› ‹_› hy0)) fun g_6 hg_6=>?_
       refine Zh (n:=0) [(5,0),(6,0),(7,0),(8,1),(10,1),(11,3)]<|go 3 ?_
       refine Yz (Qr 86) fun b_13 ho9=>go 3 ?_
       exact Zs<|Pr (_,_,_,_,_) ‹_› K2 K4
      ·refine Ol (Qr 86) fun b_14 ho10=>?_
       refine Zh (n:=0) [(4,1),(5,0),(6,0),(7,0),(10,1),(11,3)]<|Yz (Zg 84 [81,82] (Of _ _ _ _ _ _ ‹_› ‹_› hy0)) fun g_7 hg_7=>go 6 ?_
       exact Zs<|Pr (_,_,_,_,_) ‹_› K2 K4
    ·refine Ol (Qr 86) fun b_15 ho11=>?_
     refine Qp (n:=7) 3 9 ?_ ?_
     ·refine Ol (Zg 82 [] (Xt _ _ (Xc _))) fun g_8 hg_8=>?_
      refine Qp (n:=6) 4 9 ?_ ?_
      ·refine Ol (Zg 84 [81,82] (Of _ _ _ _ _ _ ‹_› ‹_› hy0)) fun g_9 hg_9=>?_
       refine Zh (n:=0) [(5,0),(6,0),(7,0),(9,1),(10,1),(11,3)]<|go 3 ?_
       refine Yz (Qr 87) fun b_16 ho12=>go 3 ?_
       exact Zs<|Pr (_,_,_,_,_) ‹_› K2 K4
      ·refine Ol (Qr 87) fun b_17 ho13=>?_
       refine Zh (n:=0) [(4,1),(5,0),(6,0),(7,0),(10,1),(11,3)]<|Yz (Zg 84 [81,82] (Of _ _ _ _ _ _ ‹_› ‹_› hy0)) fun g_10 hg_10=>go 6 ?_
       exact Zs<|Pr (_,_,_,_,_) ‹_› K2 K4
     ·refine Ol (Qr 87) fun b_18 ho14=>?_
      refine Zh (n:=0) [(3,1),(4,1),(5,0),(6,0),(7,0),(10,1),(11,3)]<|Yz (Zg 82 [] (Xt _ _ (Xc _))) fun g_11 hg_11=>Yz (Zg 84 [81,82] (Of _ _ _ _ _ _ ‹_› ‹_› hy0)) fun g_12 hg_12=>go 6 ?_
      exact Zs<|Pr (_,_,_,_,_) ‹_› K2 K4
    ·refine Ol (Qr 87) fun b_19 ho15=>?_
     refine Qp (n:=7) 3 8 ?_ ?_
     ·refine Ol (Zg 82 [] (Xt _ _ (Xc _))) fun g_13 hg_13=>?_
      refine Qp (n:=6) 4 8 ?_ ?_
      ·refine Ol (Zg 84 [81,82] (Of _ _ _ _ _ _ ‹_› ‹_› hy0)) fun g_14 hg_14=>?_
       refine Zh (n:=0) [(5,0),(6,0),(7,0),(8,1),(10,1),(11,3)]<|go 3 ?_
       refine Yz (Qr 86) fun b_20 ho16=>go 3 ?_
       exact Zs<|Pr (_,_,_,_,_) ‹_› K2 K4
      ·refine Ol (Qr 86) fun b_21 ho17=>?_
       refine Zh (n:=0) [(4,1),(5,0),(6,0),(7,0),(10,1),(11,3)]<|Yz (Zg 84 [81,82] (Of _ _ _ _ _ _ ‹_› ‹_› hy0)) fun g_15 hg_15=>go 6 ?_
       exact Zs<|Pr (_,_,_,_,_) ‹_› K2 K4
     ·refine Ol (Qr 86) fun b_22 ho18=>?_
      refine Zh (n:=0) [(3,1),(4,1),(5,0),(6,0),(7,0),(10,1),(11,3)]<|Yz (Zg 82 [] (Xt _ _ (Xc _))) fun g_16 hg_16=>Yz (Zg 84 [81,82] (Of _ _ _ _ _ _ ‹_› ‹_› hy0)) fun g_17 hg_17=>go 6 ?_
      exact Zs<|Pr (_,_,_,_,_) ‹_› K2 K4
   ·refine Ol (Qr 86) fun b_23 ho19=>?_
    refine Qp (n:=8) 1 9 ?_ ?_
    ·refine Ol (Zg 81 [] (Xt _ _ (Xc _))) fun g_18 hg_18=>?_
     refine Qp (n:=7) 3 9 ?_ ?_
     ·refine Ol (Zg 82 [] (Xt _ _ (Xc _))) fun g_19 hg_19=>?_
      refine Qp (n:=6) 4 9 ?_ ?_
      ·refine Ol (Zg 84 [81,82] (Of _ _ _ _ _ _ ‹_› ‹_› hy0)) fun g_20 hg_20=>?_
       refine Zh (n:=0) [(5,0),(6,0),(7,0),(9,1),(10,1),(11,3)]<|go 3 ?_
       refine Yz (Qr 87) fun b_24 ho20=>go 3 ?_
       exact Zs<|Pr (_,_,_,_,_) ‹_› K2 K4
      ·refine Ol (Qr 87) fun b_25 ho21=>?_
       refine Zh (n:=0) [(4,1),(5,0),(6,0),(7,0),(10,1),(11,3)]<|Yz (Zg 84 [81,82] (Of _ _ _ _ _ _ ‹_› ‹_› hy0)) fun g_21 hg_21=>go 6 ?_
       exact Zs<|Pr (_,_,_,_,_) ‹_› K2 K4
     ·refine Ol (Qr 87) fun b_26 ho22=>?_
      refine Zh (n:=0) [(3,1),(4,1),(5,0),(6,0),(7,0),(10,1),(11,3)]<|Yz (Zg 82 [] (Xt _ _ (Xc _))) fun g_22 hg_22=>Yz (Zg 84 [81,82] (Of _ _ _ _ _ _ ‹_› ‹_› hy0)) fun g_23 hg_23=>go 6 ?_
      exact Zs<|Pr (_,_,_,_,_) ‹_› K2 K4
    ·refine Ol (Qr 87) fun b_27 ho23=>?_
     refine Zh (n:=0) [(1,1),(3,1),(4,1),(5,0),(6,0),(7,0),(10,1),(11,3)]<|Yz (Zg 81 [] (Xt _ _ (Xc _))) fun g_24 hg_24=>Yz (Zg 82 [] (Xt _ _ (Xc _))) fun g_25 hg_25=>Yz (Zg 84 [81,82] (Of _ _ _ _ _ _ ‹_› ‹_› hy0)) fun g_26 hg_26=>go 6 ?_
     exact Zs<|Pr (_,_,_,_,_) ‹_› K2 K4
   ·refine Ol (Qr 87) fun b_28 ho24=>?_
    refine Qp (n:=8) 1 8 ?_ ?_
    ·refine Ol (Zg 81 [] (Xt _ _ (Xc _))) fun g_27 hg_27=>?_
     refine Qp (n:=7) 3 8 ?_ ?_
     ·refine Ol (Zg 82 [] (Xt _ _ (Xc _))) fun g_28 hg_28=>?_
      refine Qp (n:=6) 4 8 ?_ ?_
      ·refine Ol (Zg 84 [81,82] (Of _ _ _ _ _ _ ‹_› ‹_› hy0)) fun g_29 hg_29=>?_
       refine Zh (n:=0) [(5,0),(6,0),(7,0),(8,1),(10,1),(11,3)]<|go 3 ?_
       refine Yz (Qr 86) fun b_29 ho25=>go 3 ?_
       exact Zs<|Pr (_,_,_,_,_) ‹_› K2 K4
      ·refine Ol (Qr 86) fun b_30 ho26=>?_
       refine Zh (n:=0) [(4,1),(5,0),(6,0),(7,0),(10,1),(11,3)]<|Yz (Zg 84 [81,82] (Of _ _ _ _ _ _ ‹_› ‹_› hy0)) fun g_30 hg_30=>go 6 ?_
       exact Zs<|Pr (_,_,_,_,_) ‹_› K2 K4
     ·refine Ol (Qr 86) fun b_31 ho27=>?_
      refine Zh (n:=0) [(3,1),(4,1),(5,0),(6,0),(7,0),(10,1),(11,3)]<|Yz (Zg 82 [] (Xt _ _ (Xc _))) fun g_31 hg_31=>Yz (Zg 84 [81,82] (Of _ _ _ _ _ _ ‹_› ‹_› hy0)) fun g_32 hg_32=>go 6 ?_
      exact Zs<|Pr (_,_,_,_,_) ‹_› K2 K4
    ·refine Ol (Qr 86) fun b_32 ho28=>?_
     refine Zh (n:=0) [(1,1),(3,1),(4,1),(5,0),(6,0),(7,0),(10,1),(11,3)]<|Yz (Zg 81 [] (Xt _ _ (Xc _))) fun g_33 hg_33=>Yz (Zg 82 [] (Xt _ _ (Xc _))) fun g_34 hg_34=>Yz (Zg 84 [81,82] (Of _ _ _ _ _ _ ‹_› ‹_› hy0)) fun g_35 hg_35=>go 6 ?_
     exact Zs<|Pr (_,_,_,_,_) ‹_› K2 K4
  ·rintro⟨qb,qv,rv,b7,b8⟩ hq
   dsimp only at hq
   dsimp only
   refine go 3 ?_
   refine cl 4 [84] (Kz _ _ _ ‹_›) fun _ _=>go 9 ?_
   refine cl 4 [85] (Kz _ _ _ (Yf8 x hy0)) fun _ _=>go 7 ?_
   refine Ln [4] [3,4]<|Zh (n:=0) [(1,0),(0,1),(2,1),(3,3),(4,3)]<|go 6 ?_
   refine Zs<|go 2 ?_
   exact xe3 hsc () results179 J trivial Za
theorem Zag(s t:Bool)(v w:Value)(x y:Int)(hs:sg s x)(ht:sg t y)(hy0:y≠0)(hx:bl x.natAbs≤1000000000:=by omega)(hy:bl y.natAbs≤1000000000:=by omega):Om prog 165 #[.agg #[.bool s,v],.agg #[.bool t,w]] [Fa v x.natAbs,Fa w y.natAbs] (An x y):=by
 refine Zd func165 ntmps165 fun w0 sc hw hsc=>?_
 have hb:=Znz x.natAbs y.natAbs
 have hg0:Mn x y≠0:=Yg7 hy0
 have hgs:sg t (Mn x y):=Yf6 ht hy0
 have hga:=Zaw x y
 have hq1:=Zha x (Mn x y)
 have hq2:=Zha y (Mn x y)
 refine go 2 ?_
 refine Yk (Yj 3) fun b _=>Yk (Yj 4) fun b_2 _=>Yk (Zz 5) fun b_3 _=>go 4 ?_
 refine Kg (fun _=>False) [9]<|Zh (n:=4) [(0,0),(1,0),(2,0),(3,0),(4,0),(5,0)]<|go 7 ?_
 refine Qp (n:=3) 6 8 ?_ ?_
 ·refine Ol (Zg 81 [1,2] (Zmo _ _ _ _)) fun v _=>?_
  refine Zh (n:=0) [(7,0),(8,1),(9,3)]<|Qc J J (Qy (Qi (ivs:=[(0,_),(1,_)]) J K4 (fun a w hs=>Lp ((Yo J) a w hs) ((Pl (i:=81) J Zk) a w hs))))<|Yz (Zz 82) fun b_4 _=>go 2 ?_
  refine Zs<|go 2 ?_
  refine Zf (Me 81 (Zvb _ x y) J J)<|go 3 ?_
  refine cl 6 [1,81] (Of _ _ _ _ x (Mn x y) hs hgs hg0 O (by rw [hga];omega)) fun g hg=>go 10 ?_
  refine cl 8 [2,81] (Of _ _ _ _ y (Mn x y) ht hgs hg0 O (by rw [hga];omega)) fun g_2 hg_2=>go 9 ?_
  refine cl 9 [6] (Kz _ _ _ ‹_›) fun _ _=>go 3 ?_
  refine Yk (Zz 10) fun b_5 _=>go 7 ?_
  refine cl 10 [8] (Kz _ _ _ ‹_›) fun _ _=>go 3 ?_
  refine Yk (Zz 11) fun b_6 _=>go 10 ?_
  refine Yt (d:=43) J (fun s460=>?_) (fun s460=>?_)
  ·refine go 8 ?_
   refine dt (Qi (ivs:=[]) J trivial (fun a w hs=>Yet))<|go 6 ?_
   exact Mi hsc () results165 (Am (by unfold Lq;first | exact .inl (Cq ‹_›) | exact .inr (Cq ‹_›))) trivial Za
  ·refine go 5 ?_
   refine Zc J (fun h460=>?_) (fun h460=>?_)
   ·refine go 2 ?_
    refine dt (Qi (ivs:=[]) J trivial (fun a w hs=>Yet))<|go 6 ?_
    exact Mi hsc () results165 (Am (by unfold Lq;first | exact .inl (Cq ‹_›) | exact .inr (Cq ‹_›))) trivial Za
   ·refine go 6 ?_
    refine dt (Qi (ivs:=[(0,_),(1,_)]) J K4 (fun a w hs=>Zjq))<|go 5 ?_
    exact Mi hsc () results165 (Zo9 (Decidable.byContradiction ‹_›) (Decidable.byContradiction ‹_›)) trivial Za
 ·refine Ol (Zz 82) fun b_7 _=>?_
  refine Zh (n:=0) [(6,1),(7,0),(9,3)]<|Yz (Zg 81 [1,2] (Zmo _ _ _ _)) fun v_2 _=>?_
  refine Qc J J (Qy (Qi (ivs:=[(0,_),(1,_)]) J K4 (fun a w hs=>Lp ((Yo J) a w hs) ((Pl (i:=81) J Zk) a w hs))))<|go 2 ?_
  refine Zs<|go 2 ?_
  refine Zf (Me 81 (Zvb _ x y) J J)<|go 3 ?_
  refine cl 12 [1,81] (Of _ _ _ _ x (Mn x y) hs hgs hg0 O (by rw [hga];omega)) fun g_3 hg_3=>go 10 ?_
  refine cl 14 [2,81] (Of _ _ _ _ y (Mn x y) ht hgs hg0 O (by rw [hga];omega)) fun g_4 hg_4=>go 9 ?_
  refine cl 15 [12] (Kz _ _ _ ‹_›) fun _ _=>go 3 ?_
  refine Yk (Zz 16) fun b_8 _=>go 7 ?_
  refine cl 16 [14] (Kz _ _ _ ‹_›) fun _ _=>go 3 ?_
  refine Yk (Zz 17) fun b_9 _=>go 10 ?_
  refine Yt (d:=43) J (fun s460_2=>?_) (fun s460_2=>?_)
  ·refine go 8 ?_
   refine dt (Qi (ivs:=[]) J trivial (fun a w hs=>Yet))<|go 6 ?_
   exact Mi hsc () results165 (Am (by unfold Lq;first | exact .inl (Cq ‹_›) | exact .inr (Cq ‹_›))) trivial Za
  ·refine go 5 ?_
   refine Zc J (fun h460_2=>?_) (fun h460_2=>?_)
   ·refine go 2 ?_
    refine dt (Qi (ivs:=[]) J trivial (fun a w hs=>Yet))<|go 6 ?_
    exact Mi hsc () results165 (Am (by unfold Lq;first | exact .inl (Cq ‹_›) | exact .inr (Cq ‹_›))) trivial Za
   ·refine go 6 ?_
    refine dt (Qi (ivs:=[(0,_),(1,_)]) J K4 (fun a w hs=>Zjq))<|go 5 ?_
    exact Mi hsc () results165 (Zo9 (Decidable.byContradiction ‹_›) (Decidable.byContradiction ‹_›)) trivial Za
theorem Zcm(x y:Int)(hx:bl x.natAbs≤65536)(hy:bl y.natAbs≤65536)(hy0:y≠0:=by omega):Om prog 221 #[wv x,wv y] [] (An x y):=by
 refine Zd func221 ntmps221 fun w0 sc hw hsc=>go 2 ?_
 refine Yk (Yj 1) fun b _=>Yk (Yj 2) fun b_2 _=>Yk (Zz 3) fun b_3 _=>go 8 ?_
 refine cl 3 [] (Kd _ _ ‹_› ‹_›) fun _ _=>go 11 ?_
 refine dt (Zs7 J J J J)<|go 2 ?_
 refine Zc J (fun h471=>?_) (fun h471=>?_)
 ·rw [Fp]at h471
  exfalso;exact hy0 (by have:=(Pe (by omega:2≤256) y.natAbs).1 h471;omega)
 ·refine go 3 ?_
  refine Qe (fun _=>False) [(0,0),(2,0),(1,1),(3,1),(4,1),(5,0),(6,0),(7,3),(8,3)]<|go 2 ?_
  refine Yz (Zg 4 [] (Xt _ _ (Xc _))) fun g hg=>Yz (Zg 5 [] (Xt _ _ (Xc _))) fun g_2 hg_2=>Yz (Zg 5 [4,5] (Zag _ _ _ _ _ _ ‹_› ‹_› hy0)) fun _ _=>go 7 ?_
  exact Mi hsc () results221 J trivial Za
theorem Zgb(b:Bool)(s:ByteArray)(c:Bool)(t:ByteArray):Om prog 216 #[.agg #[.bool b,.string s,.bool c,.string t]] [] (.bool (okR b s c t)):=by
 refine Zd func216 ntmps216 fun w0 sc hw hsc=>go 2 ?_
 refine Yk (Yj 1) fun b _=>go 9 ?_
 refine cl 1 [] (Zj9 _ _ _ _) fun _ _=>go 1 ?_
 refine Bo (d:=8) J (fun s451=>?_) (fun s451=>?_)
 ·have hcc:okW c t=true:=by simp_all
  have hok:=Zmh hcc
  obtain⟨hk1,hk2,hk3⟩:=Classical.choose_spec hok
  generalize Classical.choose hok=z at hk1 hk2 hk3 ⊢
  subst hk2;subst hk3
  try clear hok
  refine go 2 ?_
  refine Gy 1 [] (Km z hk1) fun _ _=>go 6 ?_
  exact Xn hsc () results216 (by first | rw [Zpr (by simp_all) hk1] | (unfold okR;simp_all)) trivial Za
 ·refine go 9 ?_
  exact Xn hsc () results216 (by first | rw [Zpr (by simp_all) hk1] | (unfold okR;simp_all)) trivial Za
theorem Ml(x y:Int)(hx:bl x.natAbs≤65536)(hy:bl y.natAbs≤65536)(hy0:0<y):Cal prog 216 #[rX x y] [] false (G:=Unit) (fun _=>True) (fun _=> .bool true) (fun _=>[]):=okR_wv hx hy hy0▸Zgb _ _ _ _
theorem Zo(x:Int)(hx:Xx x:=by exact⟨O,O⟩):Om prog 131 #[.int .i64 x] [] (wv x):=by
 refine Zd func131 ntmps131 fun w0 sc hw hsc=>?_
 have hxa:=hx.1
 have hxb:=hx.2
 have hxU:x.natAbs<U:=by simp only [U];omega
 have hxl:bl x.natAbs≤64:=(Xw 64 _).2 (by rw [←Ye6];exact hxU)
 refine go 2 ?_
 refine Yk (Zz 1) fun b _=>go 5 ?_
 refine dt (Yh2 (r:=x%18446744073709551616) J J uT3 Zaj J)<|go 3 ?_
 refine jn (G:=Unit) [0,2] [0,1] (fun _=>[(3,.int .u64 ((x.natAbs:Nat):Int))]) (fun _=>[]) (fun _=>True) ?_ ?_
 ·refine go 6 ?_
  refine Zc J (fun h276=>?_) (fun h276=>?_)
  ·refine go 2 ?_
   refine dt (Zzd (r:=x.natAbs) J J O)<|go 2 ?_
   exact Pr () trivial ⟨by first | rfl | (rw [show x%18446744073709551616=((x.natAbs:Nat):Int) by omega];rfl),trivial⟩ trivial
  ·refine go 1 ?_
   exact Pr () trivial ⟨by first | rfl | (rw [show x%18446744073709551616=((x.natAbs:Nat):Int) by omega];rfl),trivial⟩ trivial
 ·rintro _ -
  refine go 5 ?_
  refine tt (Qh (i:=2) (ivs:=[(0,_)]) (enc:=Nl) [x.natAbs] J J K2 Pb ti232 J J J J J pU.cells J J hw.h) fun v _=>cl 2 [2] (Ph _ _) fun _ _=>?_
  refine Yp (Zaf 2 J J pU)<|Yp (Zf0 2 (Ze3 hxU) J J)<|dt (Qi (ivs:=[(0,_),(1,_)]) J K4 (fun a w hs=>Lp ((Yo J) a w hs) ((Pl (i:=2) J (Ys pU)) a w hs)))<|cl 2 [2] (Kz _ _ x (Xc _)) fun _ _=>go 3 ?_
  refine Yk (Zz 3) fun b_2 _=>go 11 ?_
  exact Xn hsc () results131 (by rw [Kh O]<;>rfl) trivial Za
theorem Zbp(v:Value)(xs:List Int)(hs:Sz 65536 xs):Cal prog 189 #[v] [Yh 2 wv v xs] true (G:=Unit) (fun _=>True) (fun _=>Le v (tzl xs).length) (fun _=>[Yh 2 wv (Le v (tzl xs).length) (tzl xs)]):=by
 refine Zd func189 ntmps189 fun w0 sc hw hsc=>?_
 refine Nw (Zsx (i:=1) J Zk) (fun hself=>?_)
 refine Nw (Gp (i:=1) J Zk) fun hlen=>go 7 ?_
 refine lp (G:=Nat) [] [0] (fun k=>[(0,Le v k)]) (fun k=>[(1,Yh 2 wv (Le v k) (xs.take k))]) (fun k=>(k≤xs.length)∧(tzl (xs.take k)=tzl xs)) (fun k=>k) xs.length ⟨Nat.le_refl _,by rw [List.take_length]⟩ ⟨by rw [hself];rfl,trivial⟩ ⟨by rw [hself,List.take_length];rfl,trivial⟩ ?_
 rintro k ⟨hk,ht⟩
 have hl:(xs.take k).length=k:=by rw [List.length_take];omega
 refine go 7 ?_
 refine Yt (d:=6) J (fun s35=>?_) (fun s35=>?_)
 ·refine go 4 ⟨O,?_⟩
  refine Ej (Yn (ii:=1) (i:=k-1) J J J J Zk Nf Ki) J J<|go 1 ⟨O,?_⟩
  refine Gy 1 [] (Km _ ((hs.take _).getD _)) fun _ _=>go 4 ?_
  refine Zc J (fun h35=>?_) (fun h35=>?_)
  ·have hstep:=Zoh hk O (Zhk (k:=k) O (Int.sign_eq_zero_iff_zero.1 ‹_›):cf xs (k-1)=0)
   refine go 8 ⟨O,?_⟩
   refine dt (Zv2 (ii:=1) (i:=k-1) J J J J Zk Nf Ki)<|go 3 ?_
   exact Yg (Yal 1 1 (k-1) J J)<|Xf (k-1) ⟨O1,by rw [←ht,←hstep]⟩ O1 ⟨by rw [←Hr v k (k-1)];rfl,trivial⟩ ⟨by rw [Hr,List.take_take,Nat.min_eq_left O];rfl,trivial⟩
  ·refine go 12 ?_
   have hx:tzl xs=xs.take k:=by rw [←ht];exact Zdh hk (by first | (left;omega) | (right;exact Zdm (k:=k) O ‹_›))
   exact Xn hsc () results189 (by rw [hx,hl]) trivial (Ot 1 Za (by rw [hx,hl]))
 ·refine go 24 ?_
  have hx:tzl xs=xs.take k:=by rw [←ht];exact Zdh hk (by first | (left;omega) | (right;exact Zdm (k:=k) O ‹_›))
  exact Xn hsc () results189 (by rw [hx,hl]) trivial (Ot 1 Za (by rw [hx,hl]))
theorem Zr9(v:Value)(r:List (Bool×ByteArray)):Om prog 190 #[v] [Yh 2 Zs1 v r] (.bool (okP r)):=by
 refine Zd func190 ntmps190 fun w0 sc hw hsc=>?_
 refine Nw (Gp (i:=1) J Zk) fun hlen=>go 14 ?_
 refine lp (G:=Nat) [0,5,6] [0,1] (fun k=>[(7,.int .i64 (k:Int))]) (fun k=>[]) (fun k=>(k≤r.length)∧((r.take k).all (fun w=>okW w.1 w.2)=true)) (fun k=>r.length-k) 0 ⟨O1,O7⟩ K1 trivial ?_
 rintro k ⟨hk,ha⟩
 refine go 6 ?_
 refine Zc J (fun h51=>?_) (fun h51=>?_)
 ·refine go 7 ⟨O2,?_⟩
  refine dt (Oi (ii:=1) (false,⟨#[]⟩) J J J Zk pW O2)<|Yk (Zz 2) fun b _=>go 6 ?_
  refine cl 2 [] (Ag _ _) fun _ _=>go 3 ?_
  refine Lb J (fun h52=>?_) (fun h52=>?_)
  ·refine go 11 ?_
   exact Xn hsc () results190 (by rw [Ygx (Zj (i:=k) (d:=(false,⟨#[]⟩))) (by simp_all)]) trivial Za
  ·refine go 7 ⟨O,?_⟩
   exact Xf (k+1) ⟨O1,by rw [Po (false,⟨#[]⟩) _ _ O,List.all_append,ha];simpa using h52⟩ O1 K1 trivial
 ·refine go 6 ?_
  obtain rfl:k=r.length:=O
  rw [List.take_length]at ha
  obtain⟨xs,hxs,rfl⟩:=Zpq (List.all_eq_true.1 ha)
  have hsz:=Sz.of_mem hxs
  rw [List.length_map]at hlen
  refine Zf (Zlr 1 (q:=Yh 2 wv v xs) J J (Yf2 v xs) (fun _ h=>fpn h) J)<|go 5 ?_
  refine Yt (d:=18) J (fun s56=>?_) (fun s56=>?_)
  ·refine go 4 ?_
   refine Yt (d:=22) J (fun s56_2=>?_) (fun s56_2=>?_)
   ·refine go 14 ?_
    exact Xn hsc () results190 (by rw [Zmi hxs];first | (simp_all;done) | (simp_all;omega)) trivial Za
   ·refine go 4 ⟨O,?_⟩
    refine Ej (Yn (ii:=1) (i:=xs.length-1) J J J J Zk Nf Ki) J J<|go 1 ⟨O,?_⟩
    refine Gy 2 [] (Km _ (hsz.getD _)) fun _ _=>go 7 ?_
    exact Xn hsc () results190 (by rw [Zmi hxs];first | (simp_all;done) | (simp_all;omega)) trivial Za
  ·refine go 18 ?_
   exact Xn hsc () results190 (by rw [Zmi hxs];first | (simp_all;done) | (simp_all;omega)) trivial Za
theorem Xg(v:Value)(xs:List Int)(h:Vp xs):Cal prog 190 #[v] [Yh 2 wv v xs] false (G:=Unit) (fun _=>True) (fun _=> .bool true) (fun _=>[]):=okP_wr h▸(Zr9 v (xs.map wr)).imp (Zru v xs) (fun _ h=>fpm h)
theorem Ox(v:Value)(xs:List Int)(hs:Sz 65536 xs):Om prog 195 #[v] [Yh 2 wv v xs] (.int .i64 (Qk xs:Int)):=by
 refine Zd func195 ntmps195 fun w0 sc hw hsc=>?_
 refine Nw (Gp (i:=1) J Zk) fun hlen=>go 19 ?_
 refine lp (G:=Nat) [6,7] [0,1] (fun k=>[(8,.int .i64 (k:Int)),(3,.int .i64 (Qk (xs.take k):Int))]) (fun k=>[]) (fun k=>k≤xs.length) (fun k=>xs.length-k) 0 O1 K2 trivial ?_
 rintro k hk
 refine go 6 ?_
 refine Zc J (fun h83=>?_) (fun h83=>?_)
 ·refine go 8 ⟨O2,O2,?_⟩
  refine Yk (Zz 2) fun b _=>go 6 ?_
  refine cl 2 [] (Zhb _ (hs.getD _)) fun _ _=>?_
  refine dt (Zf8 J J J)<|go 8 ⟨O,?_⟩
  exact Xf (k+1) O1 O1 ⟨J,by rw [Po 0 _ _ O,Yb0];exact congrArg some (Za0 O),trivial⟩ trivial
 ·refine go 12 ?_
  exact Xn hsc () results195 (by rw [List.take_of_length_le O]) trivial Za
theorem Zna(bd:Nat)(t:TypeId)(e e2:Int)(n:Bool)(s:ByteArray):Zbh prog 238 #[.pointer (some ⟨bd,0,none⟩),.agg #[.bool n,.string s],.int .i64 e2] [] false bd t #[.int .i64 e] (G:=Unit) (fun _=>True) (fun _=> .agg #[.bool n,.string s]) (fun _=>#[.int .i64 (if e=0 then e2 else e)]) (fun _=>[]):=by
 refine Gu func238 J ntmps238 J trivial ?_
 intro w0 sc hw hsc;have hw:=Hw.mk hw
 simp only [Pa,Xu]
 refine go 2 ?_
 refine Yk (Yj 2) fun b _=>Yk (Zz 3) fun b_2 _=>go 12 ?_
 refine Zc J (fun h19=>?_) (fun h19=>?_)
 ·refine go 15 ?_
  exact Fc (.inl J) hsc () _ (fun a w hs=>Zb6 hs results238 (Gf (i:=3) J J isAgg80 Ki J)) J trivial 1 J (by simp_all [Hu]) J J Za
 ·refine go 9 ?_
  exact Fc (.inl J) hsc () _ (fun a w hs=>Zb6 hs results238 (Gf (i:=3) J J isAgg80 Ki J)) J trivial 1 J (by simp_all [Hu]) J J Za
theorem d_mul_(bd:Nat)(e x y:Int)(hx:bl x.natAbs≤65536)(hy:bl y.natAbs≤65536):Zbh prog 191 #[.pointer (some ⟨bd,0,none⟩),wv x,wv y] [] false bd 250 #[.int .i64 e] (G:=Unit) (fun _=>True) (fun _=>wv (Bw (x*y))) (fun _=>#[.int .i64 (err e (x*y))]) (fun _=>[]):=by
 refine Gu func191 J ntmps191 J trivial ?_
 intro w0 sc hw hsc;have hw:=Hw.mk hw
 simp only [Pa,Xu]
 refine go 2 ?_
 refine Yk (Yj 2) fun b _=>Yk (Yj 3) fun b_2 _=>Yk (Zz 4) fun b_3 _=>go 3 ?_
 refine Qe (fun x=>x=bd) [(0,0),(1,0),(2,0),(3,0),(4,0),(5,1),(6,0),(7,0),(8,1),(9,3)]<|go 5 ?_
 refine Yz (Zg 4 [] (Zoa _ _ ‹_› ‹_›)) fun _ _=>go 2 ?_
 refine Ev J (Qa (n:=4) (i:=1) (Zna _ _ _ _ _ _) J J J K3 call238 J O3 Ya J hw.h J) fun _ _=>go 4 ?_
 exact Fc (.inl J) hsc () _ (fun a w hs=>Zb6 hs results191 (Gf (i:=4) J J isAgg80 Ki J)) J trivial 1 J J J J Za
theorem Fm(bd:Nat)(x y:Int)(hx:bl x.natAbs≤65536)(hy:bl y.natAbs≤65536)(hz:bl (x*y).natAbs≤65536):Zbh prog 191 #[.pointer (some ⟨bd,0,none⟩),wv x,wv y] [] false bd 250 #[.int .i64 0] (G:=Unit) (fun _=>True) (fun _=>wv (x*y)) (fun _=>#[.int .i64 0]) (fun _=>[]):=by
 have h:=d_mul_ bd 0 x y hx hy
 rw [Kh hz,Zsz hz]at h;exact h
theorem d_add_(bd:Nat)(e x y:Int)(hx:bl x.natAbs≤65536)(hy:bl y.natAbs≤65536):Zbh prog 196 #[.pointer (some ⟨bd,0,none⟩),wv x,wv y] [] false bd 250 #[.int .i64 e] (G:=Unit) (fun _=>True) (fun _=>wv (Bw (x+y))) (fun _=>#[.int .i64 (err e (x+y))]) (fun _=>[]):=by
 refine Gu func196 J ntmps196 J trivial ?_
 intro w0 sc hw hsc;have hw:=Hw.mk hw
 simp only [Pa,Xu]
 refine go 2 ?_
 refine Yk (Yj 2) fun b _=>Yk (Yj 3) fun b_2 _=>Yk (Zz 4) fun b_3 _=>go 3 ?_
 refine Qe (fun x=>x=bd) [(0,0),(1,0),(2,0),(3,0),(4,0),(5,1),(6,0),(7,0),(8,1),(9,3)]<|go 5 ?_
 refine Yz (Zg 4 [] (Zod _ _ ‹_› ‹_›)) fun _ _=>go 2 ?_
 refine Ev J (Qa (n:=4) (i:=1) (Zna _ _ _ _ _ _) J J J K3 call238 J O3 Ya J hw.h J) fun _ _=>go 4 ?_
 exact Fc (.inl J) hsc () _ (fun a w hs=>Zb6 hs results196 (Gf (i:=4) J J isAgg80 Ki J)) J trivial 1 J J J J Za
theorem Zi7(bd:Nat)(x y:Int)(hx:bl x.natAbs≤65536)(hy:bl y.natAbs≤65536)(hz:bl (x+y).natAbs≤65536):Zbh prog 196 #[.pointer (some ⟨bd,0,none⟩),wv x,wv y] [] false bd 250 #[.int .i64 0] (G:=Unit) (fun _=>True) (fun _=>wv (x+y)) (fun _=>#[.int .i64 0]) (fun _=>[]):=by
 have h:=d_add_ bd 0 x y hx hy
 rw [Kh hz,Zsz hz]at h;exact h
theorem d_sub_(bd:Nat)(e x y:Int)(hx:bl x.natAbs≤65536)(hy:bl y.natAbs≤65536):Zbh prog 194 #[.pointer (some ⟨bd,0,none⟩),wv x,wv y] [] false bd 250 #[.int .i64 e] (G:=Unit) (fun _=>True) (fun _=>wv (Bw (x-y))) (fun _=>#[.int .i64 (err e (x-y))]) (fun _=>[]):=by
 refine Gu func194 J ntmps194 J trivial ?_
 intro w0 sc hw hsc;have hw:=Hw.mk hw
 simp only [Pa,Xu]
 refine go 2 ?_
 refine Yk (Yj 2) fun b _=>Yk (Yj 3) fun b_2 _=>Yk (Zz 4) fun b_3 _=>go 3 ?_
 refine Qe (fun x=>x=bd) [(0,0),(1,0),(2,0),(3,0),(4,0),(5,1),(6,0),(7,0),(8,1),(9,3)]<|go 5 ?_
 refine Yz (Zg 4 [] (Zy7 _ _ ‹_› ‹_›)) fun _ _=>go 2 ?_
 refine Ev J (Qa (n:=4) (i:=1) (Zna _ _ _ _ _ _) J J J K3 call238 J O3 Ya J hw.h J) fun _ _=>go 4 ?_
 exact Fc (.inl J) hsc () _ (fun a w hs=>Zb6 hs results194 (Gf (i:=4) J J isAgg80 Ki J)) J trivial 1 J J J J Za
theorem Zs4(bd:Nat)(x y:Int)(hx:bl x.natAbs≤65536)(hy:bl y.natAbs≤65536)(hz:bl (x-y).natAbs≤65536):Zbh prog 194 #[.pointer (some ⟨bd,0,none⟩),wv x,wv y] [] false bd 250 #[.int .i64 0] (G:=Unit) (fun _=>True) (fun _=>wv (x-y)) (fun _=>#[.int .i64 0]) (fun _=>[]):=by
 have h:=d_sub_ bd 0 x y hx hy
 rw [Kh hz,Zsz hz]at h;exact h
theorem Ydw(bd:Nat)(v:Value)(xs:List Int)(hs:Sz 65536 xs):Cal prog 192 #[.pointer (some ⟨bd,0,none⟩),v] [Hg bd 250 #[.int .i64 0],Yh 2 wv v xs] true (G:=Unit) (fun _=>True) (fun _=> .tuple #[Le v (tzl xs).length,.int .i64 0]) (fun _=>[Yh 2 wv (Le v (tzl xs).length) (tzl xs)]):=by
 refine Zd func192 ntmps192 fun w0 sc hw hsc=>go 17 ?_
 refine Zc J (fun h43=>?_) (fun h43=>?_)
 ·exfalso;simp_all
 ·refine go 5 ?_
  refine cl 3 [2] (Zbp _ _ ‹_›) fun _ _=>go 5 ?_
  exact Mi hsc () results192 J trivial (Ot 3 Za)
theorem Mm(v:Value)(xs:List Int)(c:Int)(hv:Vp xs)(hc:bl c.natAbs≤65536)(hz:∀i,bl (cf xs i*c).natAbs≤65536):Cal prog 136 #[v,wv c] [Yh 2 wv v xs] true (G:=Value) (fun r=>True) (fun r=> .tuple #[r,.int .i64 0]) (fun r=>[Yh 2 wv r (Zm xs c)]):=by
 refine Zd func136 ntmps136 fun w0 sc hw hsc=>?_
 have hlen:=hv.len
 refine go 2 ?_
 refine Yk (Yj 2) fun b _=>go 8 ?_
 refine cl 2 [1] (Xg _ _ ‹_›) fun _ _=>go 3 ?_
 refine Gy 2 [] (Ld _ ‹_›) fun _ _=>go 9 ?_
 refine Yk (Zz 3) fun b_2 _=>go 6 ?_
 refine tt (Hm (i:=4) (n:=_) (by_:=24) (enc:=wv) 0 J J J J Nf ti80 J pV.cells pV.pos J J J hw.h J J) fun v _=>go 12 ?_
 refine lp (G:=Nat) [3,6,7,21,22] [0,1,2,3] (fun k=>[(23,.int .i64 (k:Int))]) (fun k=>[(4,Oa 2 80 wv v (fill xs.length k (fun i=>cf xs i*c)))]) (fun k=>k≤xs.length) (fun k=>xs.length-k) 0 O1 K1 ⟨by rw [Dk xs.length (fun i=>cf xs i*c)];rfl,trivial⟩ ?_
 rintro k hk
 refine go 6 ?_
 refine Zc J (fun h159=>?_) (fun h159=>?_)
 ·refine go 9 ⟨O2,O2,?_⟩
  refine Yk (Zz 5) fun b_3 _=>go 9 ?_
  refine tt (Qa (n:=5) (i:=3) (Fm _ _ _ (hv.sz.getD _) hc (hz _)) J J J K3 call191 J O3 Ya J hw.h trivial) (fun _ _=>?_)
  refine dt (Yn (ii:=4) (i:=k) J J J J (Ys pV) Nf Ki J (by rw [Ql];omega))<|tt (Mw (i:=4) (enc:=wv) _ J J J J J J pV J hw.h O3 (by rw [Ql];omega)) fun _ _=>go 7 ⟨O,?_⟩
  exact Xf (k+1) O1 O1 K1 ⟨by rw [←Za2 O];rfl,trivial⟩
 ·refine go 6 ?_
  obtain rfl:k=xs.length:=O
  refine Zf (Qd 4 J J pV)<|Zf (Zhw 3 J J)<|go 2 ?_
  refine cl 6 [3,4] (Ydw _ _ _ (by rw [Gn];exact Cl fun i _=>hz i)) fun _ _=>go 7 ?_
  exact Mi hsc _ results136 J trivial (Ot 6 Za (by rw [Zxr]<;>rfl))
theorem Cj(v:Value)(xs:List Int)(hv:Vp xs)(hz:∀i,bl (cf xs (i+1)*((i:Int)+1)).natAbs≤65536):Cal prog 260 #[v] [Yh 2 wv v xs] true (G:=Value) (fun r=>True) (fun r=> .tuple #[r,.int .i64 0]) (fun r=>[Yh 2 wv r (Yx xs)]):=by
 refine Zd func260 ntmps260 fun w0 sc hw hsc=>?_
 have hlen:=hv.len
 refine go 10 ?_
 refine cl 1 [1] (Xg _ _ ‹_›) fun _ _=>go 14 ?_
 refine Zc J (fun h170=>?_) (fun h170=>?_)
 ·refine go 8 ?_
  exact Mi hsc _ results260 J trivial (Ns (Ybk O) Za)
 ·refine go 4 ?_
  refine Yk (Zz 2) fun b _=>go 7 ⟨O,?_⟩
  refine tt (Hm (i:=3) (n:=(xs.length-1)) (by_:=24) (enc:=wv) 0 J J J J Nf ti80 J pV.cells pV.pos J J J hw.h) fun v _=>go 12 ?_
  refine lp (G:=Nat) [0,4,5,18] [0,1,2] (fun k=>[(19,.int .i64 (k:Int))]) (fun k=>[(3,Oa 2 80 wv v (fill (xs.length-1) k (fun i=>cf xs (i+1)*((i:Int)+1))))]) (fun k=>k≤xs.length-1) (fun k=>xs.length-1-k) 0 O1 K1 ⟨by rw [Dk (xs.length-1) (fun i=>cf xs (i+1)*((i:Int)+1))];rfl,trivial⟩ ?_
  rintro k hk
  have hlf:(fill (xs.length-1) k (fun i=>cf xs (i+1)*((i:Int)+1))).length=xs.length-1:=Ql _ _ _
  refine go 6 ?_
  refine Zc J (fun h175=>?_) (fun h175=>?_)
  ·try rw [List.length_replicate]at *
   refine go 10 ?_
   refine Qe (fun x=>x=b) [(0,0),(1,0),(2,0),(3,0),(4,0),(5,0),(6,0),(7,0),(8,0),(9,1),(10,1),(11,0),(12,3)]<|go 5 ⟨O,?_⟩
   refine Qc J J (st1 2 J (Yn (ii:=1) (i:=k+1) J J J J Zk Nf Ki))<|go 3 ⟨O,O,?_⟩
   refine Yz (Zg 3 [] (Zo _ (by first | assumption | exact⟨O,O⟩))) fun _ _=>?_
   refine Ev J (Qa (n:=3) (i:=2) (Fm _ (cf xs (k+1)) ((k:Int)+1) (hv.sz _) (Nat.le_trans (Pn (n:=32) O) O3) (hz k)) J J J K3 call191 J O3 Ya J hw.h J) (fun _ _=>?_)
   refine Qc J J (st1 2 J (Yn (ii:=3) (i:=k) J J J J (Ys pV) Nf Ki J (by rw [Ql];omega)))<|r3' J (Mw (i:=3) (enc:=wv) _ J J J J J J pV J hw.h O3 (by rw [Ql];omega)) fun _ _=>go 7 ⟨O,?_⟩
   exact Xf (k+1) O1 O1 K1 ⟨by rw [←Za2 O];rfl,trivial⟩
  ·try rw [List.length_replicate]at *
   refine go 6 ?_
   obtain rfl:k=xs.length-1:=O
   refine Zf (Qd 3 J J pV)<|Zf (Zhw 2 J J)<|go 2 ?_
   refine cl 4 [2,3] (Ydw _ _ _ (by rw [Gn];exact Cl fun i _=>hz i)) fun _ _=>go 7 ?_
   exact Mi hsc _ results260 J trivial (Ot 4 Za (by rw [Ygr hv.tr]<;>rfl))
theorem Zma(v:Value)(xs:List Int)(hv:Vp xs):Om prog 197 #[v] [Yh 2 wv v xs] (.tuple #[wv (Ym xs),.int .i64 0]):=by
 refine Zd func197 ntmps197 fun w0 sc hw hsc=>?_
 have hlen:=hv.len
 have hcb:∀k,bl (Ym (xs.take k)).natAbs≤65536:=fun k=>Zd4 _ (hv.sz.take k)
 refine go 2 ?_
 refine Yk (Zz 2) fun b _=>go 7 ?_
 refine cl 2 [1] (Xg _ _ ‹_›) fun _ _=>go 8 ?_
 refine Yk (Zz 3) fun b_2 _=>go 4 ?_
 refine Yk (Zz 4) fun b_3 _=>go 11 ?_
 refine lp (G:=Nat) [2,4,5,12,13] [0,1,2] (fun k=>[(14,.int .i64 (k:Int))]) (fun k=>[(4,box b_3 80 #[.bool (decide (Ym (xs.take k)<0)),.string (Xz (Ym (xs.take k)).natAbs)]),(3,box b_2 250 #[.int .i64 0])]) (fun k=>k≤xs.length) (fun k=>xs.length-k) 0 O1 K1 K2 ?_
 rintro k hk
 have hgc:=fun h=>Mt (p:=xs) (k:=k) h
 refine go 6 ?_
 refine Zc J (fun h264=>?_) (fun h264=>?_)
 ·refine go 8 ⟨O2,O2,?_⟩
  refine Yk (Zz 5) fun b_4 _=>go 7 ?_
  refine cl 5 [] (Zoc (Ym (xs.take k)) (xs.getD k 0) (hcb _) (hv.sz.getD _)) fun _ _=>go 2 ?_
  refine tt (Qa (n:=5) (i:=3) (Zna _ _ _ _ _ _) J J J K3 call238 J O3 Ya J hw.h trivial) fun _ _=>go 8 ⟨O,?_⟩
  have hc1:=hcb (k+1)
  rw [hgc O]at hc1
  exact Xf (k+1) O1 O1 K1 ⟨by rw [hgc O];simp only [Kh hc1];rfl,by simp only [Zm2 hc1];rfl,trivial⟩
 ·refine go 6 ?_
  refine Ln [3,4] [5]<|Zh (n:=0) [(0,0),(1,0),(2,0),(3,0),(4,1),(5,3)]<|go 7 ?_
  refine Zs<|go 2 ?_
  exact Mi hsc () results197 (by rw [show k=xs.length by omega,List.take_length]<;>rfl) trivial Za
theorem Zj4(v:Value)(xs:List Int)(c:Int)(hv:Sz 65536 xs)(hlen:xs.length≤1000)(hc:bl c.natAbs≤65536)(hd:∀i,c∣cf xs i)(hc0:xs≠[]→c≠0):Cal prog 198 #[v,wv c] [Yh 2 wv v xs] true (G:=Value) (fun r=>True) (fun r=> .tuple #[r,.int .i64 0]) (fun r=>[Yh 2 wv r (xs.map (· / c))]):=by
 refine Zd func198 ntmps198 fun w0 sc hw hsc=>go 2 ?_
 refine Yk (Yj 2) fun b _=>go 8 ?_
 refine tt (Hm (i:=3) (n:=_) (by_:=24) (enc:=wv) 0 J J J J Nf ti80 J pV.cells pV.pos J J J hw.h J J) fun v _=>go 12 ?_
 refine lp (G:=Nat) [3,6,15,16] [0,1,2] (fun k=>[(17,.int .i64 (k:Int))]) (fun k=>[(3,Oa 2 80 wv v (fill xs.length k (fun i=>cf xs i/c)))]) (fun k=>k≤xs.length) (fun k=>xs.length-k) 0 O1 K1 ⟨by rw [Dk xs.length (fun i=>cf xs i/c)];rfl,trivial⟩ ?_
 rintro k hk
 have hcl:Bw (xs.getD k 0/c)=cf xs k/c:=Kh (Ax (hd k) (hv k))
 refine go 6 ?_
 refine Zc J (fun h273=>?_) (fun h273=>?_)
 ·refine go 9 ⟨O2,O2,?_⟩
  refine Yk (Zz 4) fun b_2 _=>go 8 ?_
  refine cl 4 [] (Dl _ _ (hv.getD _) hc (hc0 (by intro e;rw [e]at h273;simp at h273;omega))) fun _ _=>go 4 ?_
  refine Yk (Zz 5) fun b_3 _=>Yk (Zz 6) fun b_4 _=>go 12 ?_
  refine Zc J (fun h275=>?_) (fun h275=>?_)
  ·exfalso;simp_all
  ·refine go 6 ?_
   refine dt (Yn (ii:=3) (i:=k) J J J J (Ys pV) Nf Ki J (by rw [Ql];omega))<|tt (Mw (i:=3) (enc:=wv) _ J J J J J J pV J hw.h O3 (by rw [Ql];omega)) fun _ _=>go 7 ⟨O,?_⟩
   exact Xf (k+1) O1 O1 K1 ⟨by rw [←Za2 O];simp only [hcl];rfl,trivial⟩
 ·refine go 13 ?_
  obtain rfl:k=xs.length:=O
  exact Mi hsc _ results198 J trivial (gow 3 Za (by rw [Gn,Zmp xs (· / c)]<;>rfl))
theorem Nh(v:Value)(xs:List Int)(hv:Vp xs):Cal prog 140 #[v] [Yh 2 wv v xs] true (G:=Value) (fun r=>True) (fun r=> .tuple #[r,.int .i64 0]) (fun r=>[Yh 2 wv r (Zt xs)]):=by
 refine Zd func140 ntmps140 fun w0 sc hw hsc=>?_
 have hlen:=hv.len
 refine go 9 ?_
 refine cl 1 [1] (Zma _ _ ‹_›) fun _ _=>go 3 ?_
 refine Yk (Zz 2) fun b _=>go 11 ?_
 refine Zc J (fun h286=>?_) (fun h286=>?_)
 ·exfalso;simp_all
 ·refine go 6 ?_
  refine cl 3 [1] (Zj4 _ _ _ hv.sz O (Zd4 _ hv.sz) (Mj _) hv.ne) fun _ _=>go 7 ?_
  exact Mi hsc _ results140 J trivial (Ot 3 Za J)
theorem Zxu(v:Value)(xs:List Int)(x y:Int)(hv:Vp xs)(hx:bl x.natAbs≤65536)(hy:bl y.natAbs≤65536)(hy0:0<y):Om prog 308 #[v,rX x y] [Yh 2 wv v xs] (.tuple #[wv (evv xs x y),.int .i64 (eve xs x y)]):=by
 refine Zd func308 ntmps308 fun w0 sc hw hsc=>?_
 have hlen:=hv.len
 refine go 2 ?_
 refine Yk (Yj 2) fun b _=>Yk (Zz 3) fun b_2 _=>go 7 ?_
 refine cl 3 [1] (Xg _ _ ‹_›) fun _ _=>go 3 ?_
 refine Gy 3 [] (Ml _ _ ‹_› ‹_› ‹_›) fun _ _=>go 15 ?_
 refine Zc J (fun h186=>?_) (fun h186=>?_)
 ·refine go 2 ?_
  refine dt (Qi (ivs:=[]) J trivial (fun a w hs=>b80_))<|go 6 ?_
  exact Mi hsc () results308 (by rw [List.eq_nil_of_length_eq_zero (l:=xs) O];rfl) trivial Za
 ·have hne:xs≠[]:=fun e=>by rw [e]at h186;simp at h186
  have hm1:=Pd hv.sz
  have hsxy:Sz 65536 [x,y]:=Sz.of_mem (by intro z hz;simp at hz;rcases hz with rfl | rfl<;>assumption)
  have hm2:=Pd hsxy
  have hm3:(xs.length-1)*Qk [x,y]≤24*65536:=Nat.mul_le_mul O hm2
  have hm4:((xs.length:Int)-1)*(Qk [x,y]:Int)=(((xs.length-1)*Qk [x,y]:Nat):Int):=by rw [Int.natCast_mul];congr 1;omega
  refine go 3 ?_
  refine jn (G:=Unit) [0,3,4] [0,1,2,3] (fun _=>[(37,.bool (decide ((65536:Int)<(Qk xs:Int)+((xs.length:Int)-1)*(Qk [x,y]:Int)+8)))]) (fun _=>[]) (fun _=>True) ?_ ?_
  ·refine Kg (fun _=>False) []<|Zh (n:=7) [(0,0),(2,0),(3,0),(4,0),(5,0),(6,0),(7,0),(8,0)]<|go 9 ⟨O,?_⟩
   refine Qp (n:=6) 1 9 ?_ ?_
   ·refine Ol (Zg 3 [1] (Ox _ _ (by first | exact hv.sz | exact hsxy))) fun _ _=>?_
    refine Zh (n:=0) [(9,1),(10,1),(11,0),(12,0),(13,0),(14,0)]<|Ev J (Qh (i:=90) (ivs:=[(0,_),(1,_)]) (enc:=wv) [x,y] J J K4 Yfm ti80 J J J J J pV.cells J J hw.h) fun v _=>Yz (Zg 3 [90] (Ox _ _ (by first | exact hv.sz | exact hsxy))) fun _ _=>go 5 ⟨by rw [hm4];exact⟨O,O⟩,by rw [hm4];exact⟨O,O⟩,by rw [hm4];exact⟨O,O⟩,?_⟩
    exact Zs<|Pr () trivial K1 trivial
   ·refine Cw J (Qh (i:=90) (ivs:=[(0,_),(1,_)]) (enc:=wv) [x,y] J J K4 Yfm ti80 J J J J J pV.cells J J hw.h) (fun v_2 _=>?_)
    refine Zh (n:=0) [(1,1),(10,1),(11,0),(12,0),(13,0),(14,0)]<|Yz (Zg 3 [1] (Ox _ _ (by first | exact hv.sz | exact hsxy))) fun _ _=>Yz (Zg 3 [90] (Ox _ _ (by first | exact hv.sz | exact hsxy))) fun _ _=>go 5 ⟨by rw [hm4];exact⟨O,O⟩,by rw [hm4];exact⟨O,O⟩,by rw [hm4];exact⟨O,O⟩,?_⟩
    exact Zs<|Pr () trivial K1 trivial
  ·rintro _ -
   refine Zc J (fun h189=>?_) (fun h189=>?_)
   ·have hE:Lh xs x y:=⟨hne,by rw [hm4]at h189;omega⟩
    refine go 2 ?_
    refine dt (Qi (ivs:=[]) J trivial (fun a w hs=>b80_))<|go 6 ?_
    exact Mi hsc () results308 (by unfold evv eve;rw [if_pos hE,if_pos hE]<;>rfl) trivial Za
   ·have hF:Qk xs+(xs.length-1)*Qk [x,y]+8≤65536:=by rw [hm4]at h189;omega
    refine go 4 ?_
    refine Yk (Zz 4) fun b_3 _=>go 2 ?_
    refine jn (G:=Nat×Nat) [0,3,4,6] [0,1,2,3,4] (fun q=>[(7,.pointer (some ⟨q.1,0,none⟩)),(8,.pointer (some ⟨q.2,0,none⟩))]) (fun q=>[(97,box q.1 80 (wc (xs.getD (xs.length-1) 0))),(98,box q.2 80 (wc 1))]) (fun q=>True) ?_ ?_
    ·refine Kg (fun _=>False) [9,10]<|Zh (n:=5) [(0,0),(1,0),(2,0),(3,0),(4,0),(5,0)]<|go 4 ⟨O,?_⟩
     refine Qc J J (Qy (Yn (ii:=1) (i:=(xs.length-1)) J J J J Zk Nf Ki))<|go 2 ⟨O,?_⟩
     refine Zey (n:=4) 6 7 8 ?_ ?_ ?_
     ·refine Ol (Zg 4 [] (Zo _ (by first | assumption | exact⟨O,O⟩))) fun _ _=>?_
      refine Qp (n:=3) 7 8 ?_ ?_
      ·refine Ol (Zz 97) fun b_4 _=>?_
       refine Zh (n:=0) [(8,1),(9,3),(10,3)]<|Yz (Zz 98) fun b_5 _=>go 3 ?_
       exact Zs<|Pr (_,_) trivial K2 K2
      ·refine Ol (Zz 98) fun b_6 _=>?_
       refine Zh (n:=0) [(7,1),(9,3),(10,3)]<|Yz (Zz 97) fun b_7 _=>go 3 ?_
       exact Zs<|Pr (_,_) trivial K2 K2
     ·refine Ol (Zz 97) fun b_8 _=>?_
      refine Qp (n:=3) 6 8 ?_ ?_
      ·refine Ol (Zg 4 [] (Zo _ (by first | assumption | exact⟨O,O⟩))) fun _ _=>?_
       refine Zh (n:=0) [(8,1),(9,3),(10,3)]<|Yz (Zz 98) fun b_9 _=>go 3 ?_
       exact Zs<|Pr (_,_) trivial K2 K2
      ·refine Ol (Zz 98) fun b_10 _=>?_
       refine Zh (n:=0) [(6,1),(9,3),(10,3)]<|Yz (Zg 4 [] (Zo _ (by first | assumption | exact⟨O,O⟩))) fun _ _=>go 3 ?_
       exact Zs<|Pr (_,_) trivial K2 K2
     ·refine Ol (Zz 98) fun b_11 _=>?_
      refine Qp (n:=3) 6 7 ?_ ?_
      ·refine Ol (Zg 4 [] (Zo _ (by first | assumption | exact⟨O,O⟩))) fun _ _=>?_
       refine Zh (n:=0) [(7,1),(9,3),(10,3)]<|Yz (Zz 97) fun b_12 _=>go 3 ?_
       exact Zs<|Pr (_,_) trivial K2 K2
      ·refine Ol (Zz 97) fun b_13 _=>?_
       refine Zh (n:=0) [(6,1),(9,3),(10,3)]<|Yz (Zg 4 [] (Zo _ (by first | assumption | exact⟨O,O⟩))) fun _ _=>go 3 ?_
       exact Zs<|Pr (_,_) trivial K2 K2
    ·rintro⟨b7,b8⟩ -
     dsimp only
     refine go 10 ⟨O,?_⟩
     refine lp (G:=Nat) [0,3,4,6,7,8] [0,1,2,3,4] (fun k=>[(9,.int .i64 ((k:Int)-1))]) (fun k=>[(97,box b7 80 (wc (Ka xs x y k))),(98,box b8 80 (wc (y^(xs.length-1-k))))]) (fun k=>k≤xs.length-1) (fun k=>k) (xs.length-1) O1 ⟨by rw [show((xs.length-1:Nat):Int)-1=(xs.length:Int)-2 by omega];rfl,trivial⟩ ⟨by rw [Yhg x y O];rfl,by rw [Nat.sub_self,Int.pow_zero];rfl,trivial⟩ ?_
     rintro k hk
     refine go 7 ?_
     refine Zc J (fun h194=>?_) (fun h194=>?_)
     ·have hpw:y^(xs.length-1-k)*y=y^(xs.length-1-(k-1)):=Yba y O hk
      have hst:Ka xs x y k*x+xs.getD (k-1) 0*y^(xs.length-1-(k-1))=Ka xs x y (k-1):=Zyf x y O hk
      refine go 9 ?_
      refine tt (Qa (n:=4) (i:=4) (Fm _ _ _ (Znc hF) hy (by rw [hpw];exact Znc hF)) J J J K3 call191 J O3 Ya J hw.h trivial) fun _ _=>go 3 ?_
      refine Qe (fun x=>x=b_3) [(0,0),(1,0),(2,0),(4,0),(5,0),(6,0),(7,0),(8,0),(3,1),(9,1),(10,1),(11,3)]<|go 5 ?_
      refine Qc J J (st1 4 J (Yn (ii:=1) (i:=(k-1)) J J J J Zk Nf Ki))<|go 2 ⟨O,?_⟩
      refine Ev J (Qa (n:=4) (i:=4) (Fm _ _ _ (by first | exact Znd hF hlen _ | exact hv.sz.getD _) (by first | exact hx | (rw [hpw];exact Znc hF)) (by first | exact Zsy hF hlen O hk | (rw [hpw];exact Znb hF))) J J J K3 call191 J O3 Ya J hw.h J) (fun _ _=>?_)
      refine Ev J (Qa (n:=4) (i:=4) (Fm _ _ _ (by first | exact Znd hF hlen _ | exact hv.sz.getD _) (by first | exact hx | (rw [hpw];exact Znc hF)) (by first | exact Zsy hF hlen O hk | (rw [hpw];exact Znb hF))) J J J K3 call191 J O3 Ya J hw.h J) (fun _ _=>?_)
      refine Ev J (Qa (n:=4) (i:=4) (Zi7 _ _ _ (Zsy hF hlen O hk) (by rw [hpw];exact Znb hF) (by rw [hpw,hst];exact Znd hF hlen _)) J J J K3 call196 J O3 Ya J hw.h J) fun _ _=>go 9 ⟨O,?_⟩
      exact Xf (k-1) O1 O1 ⟨by rw [show((k-1:Nat):Int)-1=(k:Int)-1-1 by omega];rfl,trivial⟩ ⟨by rw [hpw,hst];rfl,by rw [hpw];rfl,trivial⟩
     ·refine go 14 ?_
      refine Zc J (fun h198=>?_) (fun h198=>?_)
      ·exfalso;simp_all
      ·refine go 10 ?_
       obtain rfl:k=0:=O
       have hE:¬Lh xs x y:=fun h=>by have:=h.2;omega
       exact Mi hsc () results308 (by unfold evv eve;rw [if_neg hE,if_neg hE,←Zqc]<;>rfl) trivial Za
theorem Zpi(v:Value)(xs:List Int)(x y:Int)(hv:Vp xs)(hx:bl x.natAbs≤65536)(hy:bl y.natAbs≤65536)(hy0:0<y):Om prog 291 #[v,rX x y] [Yh 2 wv v xs] (.tuple #[.int .i64 (evv xs x y).sign,.int .i64 (eve xs x y)]):=by
 refine Zd func291 ntmps291 fun w0 sc hw hsc=>?_
 have hlen:=hv.len
 refine go 2 ?_
 refine Yk (Yj 2) fun b _=>go 8 ?_
 refine cl 2 [1] (Zxu _ _ _ _ hv hx hy hy0) fun _ _=>go 3 ?_
 refine Yk (Zz 3) fun b_2 _=>go 7 ?_
 refine cl 3 [] (Km _ (evv_bl hlen)) fun _ _=>go 6 ?_
 exact Mi hsc () results291 J trivial Za
theorem Bu(bd:Nat)(v:Value)(xs:List Int)(hs:Sz 65536 xs):Zbh prog 192 #[.pointer (some ⟨bd,0,none⟩),v] [Yh 2 wv v xs] true bd 250 #[.int .i64 0] (G:=Unit) (fun _=>True) (fun _=> .tuple #[Le v (tzl xs).length,.int .i64 0]) (fun _=>#[.int .i64 0]) (fun _=>[Yh 2 wv (Le v (tzl xs).length) (tzl xs)]):=by
 refine Gu func192 J ntmps192 J K1 ?_
 intro w0 sc hw hsc;have hw:=Hw.mk hw
 simp only [Pa,Xu]
 refine go 17 ?_
 refine Zc J (fun h43=>?_) (fun h43=>?_)
 ·exfalso;simp_all
 ·refine go 5 ?_
  refine cl 3 [2] (Zbp _ _ ‹_›) fun _ _=>go 5 ?_
  exact Fc (.inl J) hsc () _ (fun a w hs=>Zxp hs results192 J J) J trivial 1 J J J J (Ip 3 J J J Za)
theorem Zwf(v:Value)(xs:List Int)(hx:xs.length*24≤140737488355328:=by omega):Yi9 prog 305 #[v] [Yh 2 wv v xs] (G:=Value) (fun r=>True) (fun r=>r) (fun r=>Oa 2 80 wv r xs):=by
 refine Zwm func305 J ntmps305 J K1 ?_
 intro w0 sc hw hsc;have hw:=Hw.mk hw
 simp only [Pa,Xu]
 refine Nw (f_nil (i:=1) J Zk) fun hnil=>go 9 ?_
 refine dt (Zv4 J J J (i:=1) J Zk Nf)<|go 2 ?_
 refine Lb J (fun h357=>?_) (fun h357=>?_)
 ·refine go 7 ?_
  obtain rfl:xs=[]:=hnil (by simpa using h357)
  exact Yg (Pm 9 2 80 wv)<|Zlf (.inl J) (.slice none 0 0) _ (fun a w hs=>Zb6 hs results305 J) J trivial J 9 J J J
 ·refine go 4 ?_
  refine tt (t_bs0 (i:=2) (enc:=wv) J J J Nf pV J hw.h) fun v _=>go 1 ?_
  refine tt (Nz (i:=2) (j:=1) (by_:=24) J J J J J J O3 J Zk Nf ti80 J pV J J J O8 O3 J hw.h) fun v_2 _=>go 4 ?_
  exact Zlf (.inl J) _ _ (fun a w hs=>Zb6 hs results305 J) J trivial J 2 J (by rfl) J
theorem Zf4(v:Value)(xs:List Int)(hv:Vp xs):Om prog 301 #[v] [Yh 2 wv v xs] (.tuple #[.int .i64 ((xs.length:Int)-1),.int .i64 0]):=by
 refine Zd func301 ntmps301 fun w0 sc hw hsc=>?_
 have hlen:=hv.len
 refine go 10 ?_
 refine cl 1 [1] (Xg _ _ ‹_›) fun _ _=>go 16 ⟨O,?_⟩
 exact Mi hsc () results301 J trivial Za
theorem Zkz(v:Value)(xs:List Int)(hv:Vp xs):Om prog 302 #[v] [Yh 2 wv v xs] (.tuple #[.int .i64 (Qk xs:Int),.int .i64 0]):=by
 refine Zd func302 ntmps302 fun w0 sc hw hsc=>go 10 ?_
 refine cl 1 [1] (Xg _ _ ‹_›) fun _ _=>go 9 ?_
 refine cl 1 [1] (Ox _ _ hv.sz) fun _ _=>go 5 ?_
 exact Mi hsc () results302 J trivial Za
theorem Zq0(bd:Nat)(v u:Value)(xs ys:List Int)(hv:Vp xs)(hu:Vp ys)(hz:∀i,bl (cf xs i+cf ys i).natAbs≤65536):Zbh prog 193 #[v,u,.pointer (some ⟨bd,0,none⟩),.func (.func 196) #[.pointer (some ⟨bd,0,none⟩)] #[]] [Yh 2 wv v xs,Yh 2 wv u ys] true bd 250 #[.int .i64 0] (G:=Value) (fun r=>True) (fun r=> .tuple #[r,.int .i64 0]) (fun r=>#[.int .i64 0]) (fun r=>[Yh 2 wv r (Ei xs ys)]):=by
 refine Gu func193 J ntmps193 J K2 ?_
 intro w0 sc hw hsc;have hw:=Hw.mk hw
 simp only [Pa,Xu]
 have hlen:=hv.len
 have hlen2:=hu.len
 refine go 10 ?_
 refine cl 3 [2] (Xg _ _ ‹_›) fun _ _=>go 3 ?_
 refine Gy 3 [3] (Xg _ _ ‹_›) fun _ _=>go 13 ?_
 refine dt (Zf8 J J J)<|tt (Hm (i:=4) (n:=(max xs.length ys.length)) (by_:=24) (enc:=wv) 0 J J J J Nf ti80 J pV.cells pV.pos J J J hw.h) fun v _=>go 12 ?_
 refine lp (G:=Nat) [0,1,2,3,10,29] [0,1,2,3] (fun k=>[(30,.int .i64 (k:Int))]) (fun k=>[(4,Oa 2 80 wv v (fill (max xs.length ys.length) k (fun i=>cf xs i+cf ys i)))]) (fun k=>k≤max xs.length ys.length) (fun k=>max xs.length ys.length-k) 0 O1 K1 ⟨by rw [Dk (max xs.length ys.length) (fun i=>cf xs i+cf ys i)];rfl,trivial⟩ ?_
 rintro k hk
 have hlf:(fill (max xs.length ys.length) k (fun i=>cf xs i+cf ys i)).length=max xs.length ys.length:=Ql _ _ _
 refine go 6 ?_
 refine Zc J (fun h106=>?_) (fun h106=>?_)
 ·try rw [List.length_replicate]at *
  refine go 12 ?_
  refine Yk (Zz 5) fun b _=>Yk (Zz 6) fun b_2 _=>go 2 ?_
  refine jn (G:=Unit) [0,1,2,3,10,11,12,13,29,30] [0,4,1,2,3,6] (fun _=>[]) (fun _=>[(5,box b 80 (wc (cf xs k)))]) (fun _=>True) ?_ ?_
  ·refine go 8 ?_
   refine Zc J (fun h108=>?_) (fun h108=>?_)
   ·refine go 7 ⟨O2,O2,?_⟩
    exact Pr () trivial trivial ⟨by first | rfl | (rw [Yl (p:=xs) O];rfl),trivial⟩
   ·refine go 1 ?_
    exact Pr () trivial trivial ⟨by first | rfl | (rw [Yl (p:=xs) O];rfl),trivial⟩
  ·rintro _ -
   refine jn (G:=Unit) [0,1,2,3,10,11,12,13,29,30] [0,5,4,1,2,3] (fun _=>[]) (fun _=>[(6,box b_2 80 (wc (cf ys k)))]) (fun _=>True) ?_ ?_
   ·refine go 8 ?_
    refine Zc J (fun h111=>?_) (fun h111=>?_)
    ·refine go 7 ⟨O2,O2,?_⟩
     exact Pr () trivial trivial ⟨by first | rfl | (rw [Yl (p:=ys) O];rfl),trivial⟩
    ·refine go 1 ?_
     exact Pr () trivial trivial ⟨by first | rfl | (rw [Yl (p:=ys) O];rfl),trivial⟩
   ·rintro _ -
    refine go 6 ?_
    refine tt (Zol (n:=6) (i:=1) (fs:=[_]) (vs:=[_,_]) (Zi7 _ _ _ (hv.sz _) (hu.sz _) (hz _)) J J J J K2 call196 J O3 Ya J hw.h trivial) (fun _ _=>?_)
    refine dt (Yn (ii:=4) (i:=k) J J J J (Ys pV) Nf Ki J (by rw [Ql];omega))<|tt (Mw (i:=4) (enc:=wv) _ J J J J J J pV J hw.h O3 (by rw [Ql];omega)) fun _ _=>go 7 ⟨O,?_⟩
    exact Xf (k+1) O1 O1 K1 ⟨by rw [←Za2 O];rfl,trivial⟩
 ·try rw [List.length_replicate]at *
  refine go 6 ?_
  obtain rfl:k=max xs.length ys.length:=O
  refine Zf (Qd 4 J J pV)<|go 3 ?_
  refine tt (Qa (n:=7) (i:=1) (Bu _ _ _ (by rw [Gn];exact Cl fun i _=>hz i)) J J J K2 call192 J O3 (Yd 4 J J J Ya) J hw.h trivial) fun _ _=>go 7 ?_
  exact Fc (.inl J) hsc _ _ (fun a w hs=>Zxp hs results193 J J) J trivial 1 J J J J (Ziw 7 J J J (by rw [Gn]<;>rfl) Za)
theorem Zqz(bd:Nat)(v u:Value)(xs ys:List Int)(hv:Vp xs)(hu:Vp ys)(hz:∀i,bl (cf xs i-cf ys i).natAbs≤65536):Zbh prog 193 #[v,u,.pointer (some ⟨bd,0,none⟩),.func (.func 194) #[.pointer (some ⟨bd,0,none⟩)] #[]] [Yh 2 wv v xs,Yh 2 wv u ys] true bd 250 #[.int .i64 0] (G:=Value) (fun r=>True) (fun r=> .tuple #[r,.int .i64 0]) (fun r=>#[.int .i64 0]) (fun r=>[Yh 2 wv r (Bb xs ys)]):=by
 refine Gu func193 J ntmps193 J K2 ?_
 intro w0 sc hw hsc;have hw:=Hw.mk hw
 simp only [Pa,Xu]
 have hlen:=hv.len
 have hlen2:=hu.len
 refine go 10 ?_
 refine cl 3 [2] (Xg _ _ ‹_›) fun _ _=>go 3 ?_
 refine Gy 3 [3] (Xg _ _ ‹_›) fun _ _=>go 13 ?_
 refine dt (Zf8 J J J)<|tt (Hm (i:=4) (n:=(max xs.length ys.length)) (by_:=24) (enc:=wv) 0 J J J J Nf ti80 J pV.cells pV.pos J J J hw.h) fun v _=>go 12 ?_
 refine lp (G:=Nat) [0,1,2,3,10,29] [0,1,2,3] (fun k=>[(30,.int .i64 (k:Int))]) (fun k=>[(4,Oa 2 80 wv v (fill (max xs.length ys.length) k (fun i=>cf xs i-cf ys i)))]) (fun k=>k≤max xs.length ys.length) (fun k=>max xs.length ys.length-k) 0 O1 K1 ⟨by rw [Dk (max xs.length ys.length) (fun i=>cf xs i-cf ys i)];rfl,trivial⟩ ?_
 rintro k hk
 have hlf:(fill (max xs.length ys.length) k (fun i=>cf xs i-cf ys i)).length=max xs.length ys.length:=Ql _ _ _
 refine go 6 ?_
 refine Zc J (fun h106=>?_) (fun h106=>?_)
 ·try rw [List.length_replicate]at *
  refine go 12 ?_
  refine Yk (Zz 5) fun b _=>Yk (Zz 6) fun b_2 _=>go 2 ?_
  refine jn (G:=Unit) [0,1,2,3,10,11,12,13,29,30] [0,4,1,2,3,6] (fun _=>[]) (fun _=>[(5,box b 80 (wc (cf xs k)))]) (fun _=>True) ?_ ?_
  ·refine go 8 ?_
   refine Zc J (fun h108=>?_) (fun h108=>?_)
   ·refine go 7 ⟨O2,O2,?_⟩
    exact Pr () trivial trivial ⟨by first | rfl | (rw [Yl (p:=xs) O];rfl),trivial⟩
   ·refine go 1 ?_
    exact Pr () trivial trivial ⟨by first | rfl | (rw [Yl (p:=xs) O];rfl),trivial⟩
  ·rintro _ -
   refine jn (G:=Unit) [0,1,2,3,10,11,12,13,29,30] [0,5,4,1,2,3] (fun _=>[]) (fun _=>[(6,box b_2 80 (wc (cf ys k)))]) (fun _=>True) ?_ ?_
   ·refine go 8 ?_
    refine Zc J (fun h111=>?_) (fun h111=>?_)
    ·refine go 7 ⟨O2,O2,?_⟩
     exact Pr () trivial trivial ⟨by first | rfl | (rw [Yl (p:=ys) O];rfl),trivial⟩
    ·refine go 1 ?_
     exact Pr () trivial trivial ⟨by first | rfl | (rw [Yl (p:=ys) O];rfl),trivial⟩
   ·rintro _ -
    refine go 6 ?_
    refine tt (Zol (n:=6) (i:=1) (fs:=[_]) (vs:=[_,_]) (Zs4 _ _ _ (hv.sz _) (hu.sz _) (hz _)) J J J J K2 call194 J O3 Ya J hw.h trivial) (fun _ _=>?_)
    refine dt (Yn (ii:=4) (i:=k) J J J J (Ys pV) Nf Ki J (by rw [Ql];omega))<|tt (Mw (i:=4) (enc:=wv) _ J J J J J J pV J hw.h O3 (by rw [Ql];omega)) fun _ _=>go 7 ⟨O,?_⟩
    exact Xf (k+1) O1 O1 K1 ⟨by rw [←Za2 O];rfl,trivial⟩
 ·try rw [List.length_replicate]at *
  refine go 6 ?_
  obtain rfl:k=max xs.length ys.length:=O
  refine Zf (Qd 4 J J pV)<|go 3 ?_
  refine tt (Qa (n:=7) (i:=1) (Bu _ _ _ (by rw [Gn];exact Cl fun i _=>hz i)) J J J K2 call192 J O3 (Yd 4 J J J Ya) J hw.h trivial) fun _ _=>go 7 ?_
  exact Fc (.inl J) hsc _ _ (fun a w hs=>Zxp hs results193 J J) J trivial 1 J J J J (Ziw 7 J J J (by rw [Gn]<;>rfl) Za)
theorem Ybc(v u:Value)(xs ys:List Int)(hv:Vp xs)(hu:Vp ys)(hz:∀i,bl (cf xs i+cf ys i).natAbs≤65536):Cal prog 139 #[v,u] [Yh 2 wv v xs,Yh 2 wv u ys] true (G:=Value) (fun r=>True) (fun r=> .tuple #[r,.int .i64 0]) (fun r=>[Yh 2 wv r (Ei xs ys)]):=by
 refine Zd func139 ntmps139 fun w0 sc hw hsc=>go 8 ?_
 refine Yk (Zz 3) fun b _=>go 6 ?_
 refine dt (d_mkf (vs:=[_]) J K1)<|tt (Qa (n:=4) (i:=3) (Zq0 _ _ _ _ _ ‹_› ‹_› ‹_›) J J J K4 call193 J O3 (Yd 1 J J J (Yd 2 J J J Ya)) J hw.h trivial) fun _ _=>go 7 ?_
 exact Mi hsc _ results139 J trivial (Ot 4 Za)
theorem Ybb(v u:Value)(xs ys:List Int)(hv:Vp xs)(hu:Vp ys)(hz:∀i,bl (cf xs i-cf ys i).natAbs≤65536):Cal prog 137 #[v,u] [Yh 2 wv v xs,Yh 2 wv u ys] true (G:=Value) (fun r=>True) (fun r=> .tuple #[r,.int .i64 0]) (fun r=>[Yh 2 wv r (Bb xs ys)]):=by
 refine Zd func137 ntmps137 fun w0 sc hw hsc=>go 8 ?_
 refine Yk (Zz 3) fun b _=>go 6 ?_
 refine dt (d_mkf (vs:=[_]) J K1)<|tt (Qa (n:=4) (i:=3) (Zqz _ _ _ _ _ ‹_› ‹_› ‹_›) J J J K4 call193 J O3 (Yd 1 J J J (Yd 2 J J J Ya)) J hw.h trivial) fun _ _=>go 7 ?_
 exact Mi hsc _ results137 J trivial (Ot 4 Za)
theorem Zpj(v u:Value)(xs ys:List Int)(hv:Vp xs)(hu:Vp ys)(hF:¬Ck xs ys):Cal prog 138 #[v,u] [Yh 2 wv v xs,Yh 2 wv u ys] true (G:=Value) (fun r=>True) (fun r=> .tuple #[r,.int .i64 0]) (fun r=>[Yh 2 wv r (Xs xs ys)]):=by
 refine Zd func138 ntmps138 fun w0 sc hw hsc=>?_
 have hlen:=hv.len
 have hlen2:=hu.len
 have hm1:=Pd hv.sz
 have hm2:=Pd hu.sz
 refine go 10 ?_
 refine cl 2 [1] (Xg _ _ ‹_›) fun _ _=>go 3 ?_
 refine Gy 2 [2] (Xg _ _ ‹_›) fun _ _=>go 14 ?_
 refine Yt (d:=23) J (fun s136=>?_) (fun s136=>?_)
 ·refine go 15 ?_
  exact Mi hsc _ results138 J trivial (Ns (Bm (p:=xs) (q:=ys) (by first | (left;omega) | (right;omega))) Za)
 ·refine go 6 ?_
  refine Zc J (fun h136=>?_) (fun h136=>?_)
  ·refine go 8 ?_
   exact Mi hsc _ results138 J trivial (Ns (Bm (p:=xs) (q:=ys) (by first | (left;omega) | (right;omega))) Za)
  ·have hnx:xs≠[]:=by intro e;subst e;simp_all
   have hny:ys≠[]:=by intro e;subst e;simp_all
   have hlx:0<xs.length:=List.length_pos_iff.2 hnx
   have hly:0<ys.length:=List.length_pos_iff.2 hny
   refine go 13 ⟨O,O,?_⟩
   refine Yt (d:=35) J (fun s139=>?_) (fun s139=>?_)
   ·exfalso;exact hF ⟨hnx,hny,.inl O⟩
   ·refine go 1 ?_
    refine Gy 2 [1] (Ox _ _ (by first | exact hv.sz | exact hu.sz)) fun _ _=>go 1 ?_
    refine Gy 2 [2] (Ox _ _ (by first | exact hv.sz | exact hu.sz)) fun _ _=>go 6 ⟨O,O,?_⟩
    refine Zc J (fun h139=>?_) (fun h139=>?_)
    ·exfalso;exact hF ⟨hnx,hny,by first | (left;omega) | (right;omega)⟩
    ·have hsz:Qk xs+Qk ys+5≤65536:=O
     have hpq:∀i j,bl (cf xs i*cf ys j).natAbs≤65536:=fun i j=>by have:=Xa (cf xs i) (cf ys j);have:=Lu xs i;have:=Lu ys j;omega
     have hac:∀i j t,i<25→bl (Aa xs ys i j t).natAbs≤65536:=fun i j t hi=>by have:=Yi3 (i:=i) (j:=j) (t:=t) (Lu xs) (Lu ys) O;omega
     have hacc:∀t,bl (acc xs ys xs.length t).natAbs≤65536:=fun t=>by have:=bl_acc (i:=xs.length) (t:=t) (Lu xs) (Lu ys) O;omega
     have hsum:∀i j,i<25→bl (Aa xs ys i j (i+j)+cf xs i*cf ys j).natAbs≤65536:=fun i j hi=>by rw [←Zy0];exact hac i (j+1) _ hi
     refine go 4 ?_
     refine Yk (Zz 3) fun b _=>go 10 ⟨O,O,?_⟩
     refine tt (Hm (i:=4) (n:=(xs.length+ys.length-1)) (by_:=24) (enc:=wv) 0 J J J J Nf ti80 J pV.cells pV.pos J J J hw.h) fun v _=>go 12 ?_
     refine lp (G:=Nat) [1,6,7,51,52] [0,1,2,3] (fun i=>[(53,.int .i64 (i:Int))]) (fun i=>[(4,Oa 2 80 wv v (mk (xs.length+ys.length-1) (acc xs ys i)))]) (fun i=>i≤xs.length) (fun i=>xs.length-i) 0 O1 K1 ⟨by rw [Zr6];rfl,trivial⟩ ?_
     rintro i hi
     refine go 6 ?_
     refine Zc J (fun h144=>?_) (fun h144=>?_)
     ·refine go 9 ⟨O2,O2,?_⟩
      refine Yk (Zz 5) fun b_2 _=>go 12 ?_
      refine lp (G:=Nat) [1,6,7,8,9,51,52,53,58,59] [0,1,2,3,5] (fun j=>[(60,.int .i64 (j:Int))]) (fun j=>[(4,Oa 2 80 wv v (mk (xs.length+ys.length-1) (Aa xs ys i j)))]) (fun j=>j≤ys.length) (fun j=>ys.length-j) 0 O1 K1 ⟨by rw [Zyz];rfl,trivial⟩ ?_
      rintro j hj
      have hgd:i+j<xs.length+ys.length-1→(mk (xs.length+ys.length-1) (Aa xs ys i j)).getD (i+j) 0=Aa xs ys i j (i+j):=fun h=>Zb0 h
      refine go 6 ?_
      refine Zc J (fun h145=>?_) (fun h145=>?_)
      ·refine go 9 ⟨O2,O2,?_⟩
       refine Yk (Zz 6) fun b_3 _=>go 4 ?_
       refine Qe (fun x=>x=b) [(0,0),(1,0),(2,0),(3,0),(4,0),(5,0),(6,0),(7,0),(8,0),(9,0),(10,0),(11,0),(12,1),(13,1),(14,0),(15,3)]<|go 8 ⟨O,O,?_⟩
       refine Qc J J (st1 3 J (Yn (ii:=4) (i:=(i+j)) J J J J (Ys pV) Nf Ki O (by rw [Yq];omega)))<|go 3 ⟨by rw [Yq];omega,?_⟩
       refine Ev J (Qa (n:=6) (i:=3) (Fm _ _ _ (hv.sz _) (hu.sz _) (hpq i j)) J J J K3 call191 J O3 Ya J hw.h J) (fun _ _=>?_)
       refine Ev J (Qa (n:=6) (i:=3) (Zi7 _ _ _ (by rw [hgd O];exact hac i j _ O) (hpq i j) (by rw [hgd O];exact hsum i j O)) J J J K3 call196 J O3 Ya J hw.h J) (fun _ _=>?_)
       refine Qc J J (st1 3 J (Yn (ii:=4) (i:=(i+j)) J J J J (Ys pV) Nf Ki O (by rw [Yq];omega)))<|r3' J (Mw (i:=4) (enc:=wv) _ J J J J J J pV J hw.h O3 (by rw [Yq];omega)) fun _ _=>go 7 ⟨O,?_⟩
       exact Xf (j+1) O1 O1 K1 ⟨by rw [←Ye2 O,←hgd O];rfl,trivial⟩
      ·refine go 10 ⟨O,?_⟩
       obtain rfl:j=ys.length:=O
       exact Xf (i+1) O1 O1 K1 ⟨by rw [←Ye3];rfl,trivial⟩
     ·refine go 6 ?_
      obtain rfl:i=xs.length:=O
      refine Zf (Qd 4 J J pV)<|go 2 ?_
      refine tt (Qa (n:=7) (i:=3) (Bu _ _ _ (Cl fun t _=>hacc t)) J J J K2 call192 J O3 (Yd 4 J J J Ya) J hw.h trivial) fun _ _=>go 7 ?_
      exact Mi hsc _ results138 J trivial (Ot 7 Za (by rw [Ybf]<;>rfl))
end Go.Sky

