/- rules, arithmetic and contracts: part 6
   Proved without conditions of its own: each theorem bears its own. -/
import Derived.Test.YtcmiiammekgooaaGreatSn03
import Derived.Test.YtcmiiammekgooaaGreatSn02
import Derived.Test.YtcmiiammekgooaaGreatSn01
import Derived.Test.YtcmiiammekgooaaGreatSn04
set_option linter.all false
namespace Go.Sky
open Go.Proofs.Tryz
open Go.Proofs
set_option maxRecDepth 20000
set_option maxHeartbeats 4000000
set_option linter.unusedSimpArgs false
theorem Ec(b:Bool)(s:ByteArray):Mb prog 103 #[.agg #[.bool b,.string s]] [] (.bool (okW b s)):=by
 refine Yd func103 J ntmps103 J trivial ?_
 intro w0 sc hw hsc
 simp only [Zq,Zp]
 refine Ze<|Zg<|tt (Yz (i:=1) J J J J J hw) fun b _=>as_ J<|Zf<|Za<|Ze<|Ze<|Zg<|dt (Xu J J Zak J zT9 J J)<|dt (Ok (i:=1) J J J iA9 J)<|dt (Zkz J J J J)<|Zf<|Za<|Zs J (fun h264=>?_) (fun h264=>?_)
 ·exact Ze<|Zg<|dt (Xu J J Zak J zT4 J J)<|dt (Ok (i:=1) J J J iA4 J)<|dt (Xh J J)<|as_ J<|Zf<|Za<|Zw<|Xa<|Zy (.inl J) hsc () _ (fun a w hs=>Xy hs results103 J) (by unfold okW;rw [if_pos h264]) trivial J Zj
 ·refine Zl<|Za<|Ze<|Zg<|dt (Xu J J Zak J zT9 J J)<|dt (Ok (i:=1) J J J iA9 J)<|dt (Zqh (i:=0) J J J uT9 J)<|dt (Qc J J J)<|mv J<|Pa (d:=13) J (fun s267=>?_) (fun s267=>?_)
  ·exact gdt (Xu J J Zak J zT9 J J) J J<|gdt (Ok (i:=1) J J J iA9 J) J J<|gdt (Fl J J uT9) J J<|gdt (Ab J J J) J J<|dt (Yu J J J)<|as_ J<|Zf<|Za<|Zw<|Zy (.inl J) hsc () _ (fun a w hs=>Xy hs results103 J) (by unfold okW;rw [if_neg h264];simp_all<;>omega) trivial J Zj
  ·exact gsk J J J<|gsk J J J<|gsk J J J<|gsk J J J<|dt (Yg J J J)<|as_ J<|Zf<|Za<|Zw<|Zy (.inl J) hsc () _ (fun a w hs=>Xy hs results103 J) (by unfold okW;rw [if_neg h264];simp_all<;>omega) trivial J Zj
theorem Kf(x:Int)(hx:bl x.natAbs≤65536):Cal prog 103 #[wv x] [] false (G:=Unit) (fun _=>True) (fun _=> .bool true) (fun _=>[]):=Za3 hx▸Ec _ _
theorem Zjb(b:Bool)(s:ByteArray)(c:Bool)(t:ByteArray):Mb prog 129 #[.agg #[.bool b,.string s],.agg #[.bool c,.string t]] [] (.bool (okW b s && okW c t)):=by
 refine Yd func129 J ntmps129 J trivial ?_
 intro w0 sc hw hsc
 simp only [Zq,Zp]
 refine Ze<|Zg<|tt (Yz (i:=1) J J J J J hw) fun b _=>tt (Yz (i:=2) J J J J J hw) fun b_2 _=>as_ J<|Zf<|Za<|Ze<|Zg<|dt (Ya (i:=1) J J J Qr Yo J J)<|tt (Zh (n:=2) (Ec _ _) J J J K1 Zf7 Zd J hw) fun _ _=>mv J<|Ly (d:=7) J (fun s271=>?_) (fun s271=>?_)
 ·exact gdt (Ya (i:=2) J J J Qr Yo J J) J J<|gtt (Zh (n:=2) (Ec _ _) J J J K1 Zf7 Zd J hw) J J J fun _ _=>dt (Yu J J J)<|as_ J<|Zf<|Za<|Zw<|Zy (.inl J) hsc () _ (fun a w hs=>Xy hs results129 J) (by simp_all) trivial J Zj
 ·exact gsk J J J<|gsk J J J<|dt (Yg J J J)<|as_ J<|Zf<|Za<|Zw<|Zy (.inl J) hsc () _ (fun a w hs=>Xy hs results129 J) (by simp_all) trivial J Zj
theorem Kc(x y:Int)(hx:bl x.natAbs≤65536)(hy:bl y.natAbs≤65536):Mb prog 129 #[wv x,wv y] [] (.bool true):=by
 have h:=Zjb (decide (x<0)) (Xd x.natAbs) (decide (y<0)) (Xd y.natAbs)
 rw [Za3 hx,Za3 hy]at h;exact h
theorem Ms(x:Int)(hx:bl x.natAbs≤65536):Mb prog 104 #[wv x] [] (.int .i64 x.sign):=by
 refine Yd func104 J ntmps104 J trivial ?_
 intro w0 sc hw hsc
 simp only [Zq,Zp]
 exact Ze<|Zg<|tt (Yz (i:=1) J J J J J hw) fun b _=>as_ J<|Zf<|Za<|Ze<|Ze<|Zg<|dt (Ya (i:=1) J J J Qr Yo J J)<|tt (Zh (n:=1) (Kf _ ‹_›) J J J K1 Zf7 Zd J hw) fun _ _=>dt (Xh J J)<|Zf<|Za<|Yi J<|Zl<|Za<|Ze<|Zg<|dt (Ya (i:=1) J J J Qr Yo J J)<|tt (Zh (n:=2) (Pg _ _ (Xo _)) J J J K1 Lp Zd J hw) fun g hg=>tt (Zh (n:=2) (Zih _ _ _ ‹_›) J J J K1 call135 (Zc 2 J J J Zd) J hw) fun _ _=>as_ J<|Zf<|Za<|Zw<|Zy (.inl J) hsc () _ (fun a w hs=>Xy hs results104 J) J trivial J Zj
theorem Zg9(x:Int)(hx:bl x.natAbs≤65536):Mb prog 145 #[wv x] [] (.int .i64 (bl x.natAbs:Int)):=by
 refine Yd func145 J ntmps145 J trivial ?_
 intro w0 sc hw hsc
 simp only [Zq,Zp]
 exact Ze<|Zg<|tt (Yz (i:=1) J J J J J hw) fun b _=>as_ J<|Zf<|Za<|Ze<|Ze<|Zg<|dt (Ya (i:=1) J J J Qr Yo J J)<|tt (Zh (n:=1) (Kf _ ‹_›) J J J K1 Zf7 Zd J hw) fun _ _=>dt (Xh J J)<|Zf<|Za<|Yi J<|Zl<|Za<|Ze<|Zg<|dt (Xu J J Zak J zT9 J J)<|dt (Ok (i:=1) J J J iA9 J)<|tt (Zh (n:=2) (Zai _) J J J K1 call170 Zd J hw) fun v _=>tt (Zh (n:=2) (Zik _ _) J J J K1 call168 (Zc 2 J J J Zd) J hw) fun _ _=>as_ J<|Zf<|Za<|Zw<|Zy (.inl J) hsc () _ (fun a w hs=>Xy hs results145 J) J trivial J Zj
theorem Gz(x y:Int)(hx:bl x.natAbs≤65536:=by omega)(hy:bl y.natAbs≤65536:=by omega):Mb prog 82 #[wv x,wv y] [] (Zc9 (x+y)):=by
 refine Yd func82 J ntmps82 J trivial ?_
 intro w0 sc hw hsc
 simp only [Zq,Zp]
 have hb:=Km x y
 refine Ze<|Zg<|tt (Yz (i:=1) J J J J J hw) fun b _=>tt (Yz (i:=2) J J J J J hw) fun b_2 _=>tt (Zr (i:=3) J J zeroValue31 J J hw) fun b_3 _=>as_ J<|Zf<|Za<|Ze<|Ze<|Zg<|dt (Ya (i:=1) J J J Qr Yo J J)<|dt (Ya (i:=2) J J J Qr Yo J J)<|tt (Zh (n:=3) (Kc _ _ ‹_› ‹_›) J J J K2 call129 Zd J hw) fun _ _=>dt (Xh J J)<|Zf<|Za<|Yi J<|Zl<|Za<|Ze<|Qo (fun _=>False) [(0,0),(2,0),(1,1),(3,1),(4,1),(5,1),(6,0),(7,0),(8,3),(9,3)] ?_ ?_
 ·kernel_rfl
 exact r0' J J (st0 (Ya (i:=1) J J J Qr Yo J J))<|r0' J J (st0 (Ya (i:=2) J J J Qr Yo J J))<|r1' J (Zh (n:=4) (Pg _ _ (Xo _)) J J J K1 Lp Zd J hw) fun g hg=>r1' J (Zh (n:=5) (Pg _ _ (Xo _)) J J J K1 Lp Zd J hw) fun g_2 hg_2=>r1' J (Zh (n:=6) (Ze5 _ _ _ _ _ _ ‹_› ‹_›) J J J K2 call131 (Zc 4 J J J (Zc 5 J J J Zd)) J hw) fun g_3 hg_3=>r1' J (Zh (n:=6) (Kt _ _ _ ‹_›) J J J K1 call128 (Zc 6 J J J Zd) J hw) fun _ _=>r0' J J (st0 (Yl J J J))<|r0' J J (st0 (Yl J J J))<|r3' J (Zm (i:=3) J J J J J (by decide) J Yo J J ⟨Zb J,Zb J,trivial⟩ J hw trivial) fun _ _=>r3' J (Pt (Oy J J) J) fun _ _=>Oh<|Za<|Zw<|Zy (.inl J) hsc () _ (fun a w hs=>Nr hs results82 (Ys (i:=3) J J Qr Yo J) J) J trivial J Zj
theorem Znc(x y:Int)(hx:bl x.natAbs≤65536)(hy:bl y.natAbs≤65536):Mb prog 140 #[wv x,wv y] [] (Zc9 (x-y)):=by
 refine Yd func140 J ntmps140 J trivial ?_
 intro w0 sc hw hsc
 simp only [Zq,Zp]
 have hb:=Fy x y
 have hny:=Zk6 y
 refine Ze<|Zg<|tt (Yz (i:=1) J J J J J hw) fun b _=>tt (Yz (i:=2) J J J J J hw) fun b_2 _=>tt (Zr (i:=3) J J zeroValue31 J J hw) fun b_3 _=>as_ J<|Zf<|Za<|Ze<|Ze<|Zg<|dt (Ya (i:=1) J J J Qr Yo J J)<|dt (Ya (i:=2) J J J Qr Yo J J)<|tt (Zh (n:=3) (Kc _ _ ‹_› ‹_›) J J J K2 call129 Zd J hw) fun _ _=>dt (Xh J J)<|Zf<|Za<|Yi J<|Zl<|Za<|Ze<|Qo (fun _=>False) [(0,0),(2,0),(1,1),(3,1),(4,1),(5,1),(6,1),(7,0),(8,0),(9,3),(10,3)] ?_ ?_
 ·kernel_rfl
 exact r0' J J (st0 (Ya (i:=1) J J J Qr Yo J J))<|r0' J J (st0 (Ya (i:=2) J J J Qr Yo J J))<|r1' J (Zh (n:=4) (Pg _ _ (Xo _)) J J J K1 Lp Zd J hw) fun g hg=>r1' J (Zh (n:=5) (Pg _ _ (Xo _)) J J J K1 Lp Zd J hw) fun g_2 hg_2=>r1' J (Zh (n:=6) (Zl9 _ _ _ ‹_›) J J J K1 call134 (Zc 5 J J J Zd) J hw) fun g_3 hg_3=>r1' J (Zh (n:=7) (Ze5 _ _ _ _ _ _ ‹_› ‹_›) J J J K2 call131 (Zc 4 J J J (Zc 6 J J J Zd)) J hw) fun g_4 hg_4=>r1' J (Zh (n:=7) (Kt _ _ _ ‹_› (by rw [←Int.sub_eq_add_neg];omega)) J J J K1 call128 (Zc 7 J J J Zd) J hw) fun _ _=>r0' J J (st0 (Yl J J J))<|r0' J J (st0 (Yl J J J))<|r3' J (Zm (i:=3) J J J J J (by decide) J Yo J J ⟨Zb J,Zb J,trivial⟩ J hw trivial) fun _ _=>r3' J (Pt (Oy J J) J) fun _ _=>Oh<|Za<|Zw<|Zy (.inl J) hsc () _ (fun a w hs=>Nr hs results140 (Ys (i:=3) J J Qr Yo J) J) (by rw [Int.sub_eq_add_neg]<;>rfl) trivial J Zj
theorem Dh(x y:Int)(hx:bl x.natAbs≤65536:=by omega)(hy:bl y.natAbs≤65536:=by omega):Mb prog 139 #[wv x,wv y] [] (Zc9 (x*y)):=by
 refine Yd func139 J ntmps139 J trivial ?_
 intro w0 sc hw hsc
 simp only [Zq,Zp]
 have hb:=Xw x y
 refine Ze<|Zg<|tt (Yz (i:=1) J J J J J hw) fun b _=>tt (Yz (i:=2) J J J J J hw) fun b_2 _=>tt (Zr (i:=3) J J zeroValue31 J J hw) fun b_3 _=>as_ J<|Zf<|Za<|Ze<|Ze<|Zg<|dt (Ya (i:=1) J J J Qr Yo J J)<|dt (Ya (i:=2) J J J Qr Yo J J)<|tt (Zh (n:=3) (Kc _ _ ‹_› ‹_›) J J J K2 call129 Zd J hw) fun _ _=>dt (Xh J J)<|Zf<|Za<|Yi J<|Zl<|Za<|Ze<|Qo (fun _=>False) [(0,0),(2,0),(1,1),(3,1),(4,1),(5,1),(6,0),(7,0),(8,3),(9,3)] ?_ ?_
 ·kernel_rfl
 exact r0' J J (st0 (Ya (i:=1) J J J Qr Yo J J))<|r0' J J (st0 (Ya (i:=2) J J J Qr Yo J J))<|r1' J (Zh (n:=4) (Pg _ _ (Xo _)) J J J K1 Lp Zd J hw) fun g hg=>r1' J (Zh (n:=5) (Pg _ _ (Xo _)) J J J K1 Lp Zd J hw) fun g_2 hg_2=>r1' J (Zh (n:=6) (Zcg _ _ _ _ _ _ ‹_› ‹_›) J J J K2 call176 (Zc 4 J J J (Zc 5 J J J Zd)) J hw) fun g_3 hg_3=>r1' J (Zh (n:=6) (Kt _ _ _ ‹_›) J J J K1 call128 (Zc 6 J J J Zd) J hw) fun _ _=>r0' J J (st0 (Yl J J J))<|r0' J J (st0 (Yl J J J))<|r3' J (Zm (i:=3) J J J J J (by decide) J Yo J J ⟨Zb J,Zb J,trivial⟩ J hw trivial) fun _ _=>r3' J (Pt (Oy J J) J) fun _ _=>Oh<|Za<|Zw<|Zy (.inl J) hsc () _ (fun a w hs=>Nr hs results139 (Ys (i:=3) J J Qr Yo J) J) J trivial J Zj
theorem Zvs(x y:Int)(hx:bl x.natAbs≤65536)(hy:bl y.natAbs≤65536):Mb prog 196 #[wv x,wv y] [] (Zc9 (Int.gcd x y:Int)):=by
 refine Yd func196 J ntmps196 J trivial ?_
 intro w0 sc hw hsc
 simp only [Zq,Zp]
 have hb:=Zk8 x.natAbs y.natAbs
 refine Ze<|Zg<|tt (Yz (i:=1) J J J J J hw) fun b _=>tt (Yz (i:=2) J J J J J hw) fun b_2 _=>tt (Zr (i:=3) J J zeroValue31 J J hw) fun b_3 _=>as_ J<|Zf<|Za<|Ze<|Ze<|Zg<|dt (Ya (i:=1) J J J Qr Yo J J)<|dt (Ya (i:=2) J J J Qr Yo J J)<|tt (Zh (n:=3) (Kc _ _ ‹_› ‹_›) J J J K2 call129 Zd J hw) fun _ _=>dt (Xh J J)<|Zf<|Za<|Yi J<|Zl<|Za<|Ze<|Qo (fun _=>False) [(0,0),(1,0),(3,0),(4,0),(2,1),(5,1),(6,1),(7,0),(8,1),(9,0),(10,0),(11,3),(12,3)] ?_ ?_
 ·kernel_rfl
 exact r0' J J (st0 (Xu J J Zak J zT9 J J))<|r0' J J (st0 (Ok (i:=1) J J J iA9 J))<|r0' J J (st0 (Xu J J Zak J zT9 J J))<|r0' J J (st0 (Ok (i:=2) J J J iA9 J))<|r1' J (Zh (n:=4) (Zai _) J J J K1 call170 Zd J hw) fun v _=>r1' J (Zh (n:=5) (Zai _) J J J K1 call170 Zd J hw) fun v_2 _=>r1' J (Zh (n:=6) (Zmb _ _ _ _) J J J K2 call185 (Zc 4 J J J (Zc 5 J J J Zd)) J hw) fun v_3 _=>r0' J J (st0 (Oc (ivs:=[(0,_),(1,_)]) J K4 (fun a w hs=>Nd ((Zb J) a w hs) ((Zk (i:=6) J Zi) a w hs))))<|r1' J (Zh (n:=6) (Kt false _ (Int.gcd x y:Int) (by simp [sg]) (by show bl (Nat.gcd x.natAbs y.natAbs)≤_;omega)) J J J K1 call128 (Zc 6 J J J Zd) J hw) fun _ _=>r0' J J (st0 (Yl J J J))<|r0' J J (st0 (Yl J J J))<|r3' J (Zm (i:=3) J J J J J (by decide) J Yo J J ⟨Zb J,Zb J,trivial⟩ J hw trivial) fun _ _=>r3' J (Pt (Oy J J) J) fun _ _=>Oh<|Za<|Zw<|Zy (.inl J) hsc () _ (fun a w hs=>Nr hs results196 (Ys (i:=3) J J Qr Yo J) J) J trivial J Zj
theorem Bb(x y:Int)(hx:bl x.natAbs≤65536)(hy:bl y.natAbs≤65536)(hy0:y≠0):Mb prog 158 #[wv x,wv y] [] (.tuple #[wv (Zg2 (x/y)),wv (Zg2 (x%y)),.int .i64 0]):=by
 refine Yd func158 J ntmps158 J trivial ?_
 intro w0 sc hw hsc
 simp only [Zq,Zp]
 have hb:=Zi6 x y
 have hb2:=Zm6 x y hy0
 refine Ze<|Zg<|tt (Yz (i:=1) J J J J J hw) fun b _=>tt (Yz (i:=2) J J J J J hw) fun b_2 _=>tt (Zr (i:=3) J J zeroValue31 J J hw) fun b_3 _=>tt (Zr (i:=4) J J zeroValue31 J J hw) fun b_4 _=>as_ J<|Zf<|Za<|Ze<|Ze<|Zg<|dt (Ya (i:=1) J J J Qr Yo J J)<|dt (Ya (i:=2) J J J Qr Yo J J)<|tt (Zh (n:=4) (Kc _ _ ‹_› ‹_›) J J J K2 call129 Zd J hw) fun _ _=>dt (Xh J J)<|Zf<|Za<|Yi J<|Zl<|Za<|Ze<|Ze<|Zg<|dt (Xu J J Zak J zT9 J J)<|dt (Ok (i:=2) J J J iA9 J)<|dt (Zkz J J J J)<|Zf<|Za<|Zs J (fun h337=>?_) (fun h337=>?_)
 ·rw [Lc]at h337
  exfalso;exact hy0 (by have:=(Pn (by omega:2≤256) y.natAbs).1 h337;omega)
 ·refine Zl<|Za<|Da [(4,_),(5,_)] [(0,_),(1,_),(2,_),(3,_),(4,_)] (fun(q:Bool×Value×Value×Nat×Nat)=>[(7,.pointer (some ⟨q.2.2.2.1,0,none⟩)),(8,.pointer (some ⟨q.2.2.2.2,0,none⟩))]) (fun(q:Bool×Value×Value×Nat×Nat)=>[(84,dgp q.2.1 (x/y).natAbs),(85,dgp q.2.2.1 (x%y).natAbs),(86,box q.2.2.2.1 154 #[.bool q.1,q.2.1]),(87,box q.2.2.2.2 154 #[.bool false,q.2.2.1])]) (fun(q:Bool×Value×Value×Nat×Nat)=>sg q.1 (x/y)) K2 K5 ?_ ?_
  ·refine Oj [1,2] [11]<|Zu (n:=10) [(0,0),(2,0)]<|r0' J J (stf (Ya (i:=1) J J J Qr Yo J J) K2)<|r0' J J (stf (Ya (i:=2) J J J Qr Yo J J) K2)<|Yk<|Dg (n:=9) 1 8 9 ?_ ?_ ?_
   ·refine Yf J (Zh (n:=81) (Pg _ _ (Xo _)) J J J K1 Lp Zd J hw) fun g hg=>Dg (n:=8) 3 8 9 ?_ ?_ ?_
    ·refine Yf J (Zh (n:=82) (Pg _ _ (Xo _)) J J J K1 Lp Zd J hw) fun g_2 hg_2=>Dg (n:=7) 4 8 9 ?_ ?_ ?_
     ·refine Yf J (Zh (n:=84) (Qz _ _ _ _ _ _ ‹_› ‹_› (by omega) (by omega) hy0) J J J K2 Mo (Zc 81 J J J (Zc 82 J J J Zd)) J hw) fun g_3 hg_3=>Zu (n:=4) [(5,0),(6,0),(7,0)]<|r0' J J (stf (Yr J J) K2)<|r0' J J (stf (Yl J J J) K2)<|r0' J J (stf (Yl J J J) K2)<|Yk<|Qp (n:=3) 8 9 ?_ ?_
      ·exact Yf J (Zn (i:=86) J J zeroValue154 J J hw K2) fun b_5 ho=>Zu (n:=0) [(9,1),(10,1),(11,3)]<|r1' J (Zn (i:=87) J J zeroValue154 J J hw K2) fun b_6 ho2=>r1' J (Zm (i:=86) J J J J J (by decide) J Xi J J ⟨Zb J,Zk (i:=84) J Zi,trivial⟩ J hw ho) fun _ _=>r3' J (Zm (i:=87) J J J J J (by decide) J Xi J J ⟨Zb J,Zk (i:=85) J Zi,trivial⟩ J hw trivial) fun _ _=>Yk<|Yb<|Ql (_,_,_,_,_) ‹_› K4 K9
      ·exact Yf J (Zn (i:=87) J J zeroValue154 J J hw K2) fun b_7 ho3=>Zu (n:=0) [(8,1),(10,1),(11,3)]<|r1' J (Zn (i:=86) J J zeroValue154 J J hw K2) fun b_8 ho4=>r1' J (Zm (i:=86) J J J J J (by decide) J Xi J J ⟨Zb J,Zk (i:=84) J Zi,trivial⟩ J hw ho4) fun _ _=>r3' J (Zm (i:=87) J J J J J (by decide) J Xi J J ⟨Zb J,Zk (i:=85) J Zi,trivial⟩ J hw trivial) fun _ _=>Yk<|Yb<|Ql (_,_,_,_,_) ‹_› K4 K9
     ·refine Yf J (Zn (i:=86) J J zeroValue154 J J hw K2) fun b_9 ho5=>Qp (n:=6) 4 9 ?_ ?_
      ·exact Yf J (Zh (n:=84) (Qz _ _ _ _ _ _ ‹_› ‹_› (by omega) (by omega) hy0) J J J K2 Mo (Zc 81 J J J (Zc 82 J J J Zd)) J hw) fun g_4 hg_4=>Zu (n:=0) [(5,0),(6,0),(7,0),(9,1),(10,1),(11,3)]<|r0' J J (stf (Yr J J) K2)<|r0' J J (stf (Yl J J J) K2)<|r0' J J (stf (Yl J J J) K2)<|r1' J (Zn (i:=87) J J zeroValue154 J J hw K2) fun b_10 ho6=>r1' J (Zm (i:=86) J J J J J (by decide) J Xi J J ⟨Zb J,Zk (i:=84) J Zi,trivial⟩ J hw ho5) fun _ _=>r3' J (Zm (i:=87) J J J J J (by decide) J Xi J J ⟨Zb J,Zk (i:=85) J Zi,trivial⟩ J hw trivial) fun _ _=>Yk<|Yb<|Ql (_,_,_,_,_) ‹_› K4 K9
      ·exact Yf J (Zn (i:=87) J J zeroValue154 J J hw K2) fun b_11 ho7=>Zu (n:=0) [(4,1),(5,0),(6,0),(7,0),(10,1),(11,3)]<|r1' J (Zh (n:=84) (Qz _ _ _ _ _ _ ‹_› ‹_› (by omega) (by omega) hy0) J J J K2 Mo (Zc 81 J J J (Zc 82 J J J Zd)) J hw) fun g_5 hg_5=>r0' J J (stf (Yr J J) K2)<|r0' J J (stf (Yl J J J) K2)<|r0' J J (stf (Yl J J J) K2)<|r1' J (Zm (i:=86) J J J J J (by decide) J Xi J J ⟨Zb J,Zk (i:=84) J Zi,trivial⟩ J hw ho5) fun _ _=>r3' J (Zm (i:=87) J J J J J (by decide) J Xi J J ⟨Zb J,Zk (i:=85) J Zi,trivial⟩ J hw trivial) fun _ _=>Yk<|Yb<|Ql (_,_,_,_,_) ‹_› K4 K9
     ·refine Yf J (Zn (i:=87) J J zeroValue154 J J hw K2) fun b_12 ho8=>Qp (n:=6) 4 8 ?_ ?_
      ·exact Yf J (Zh (n:=84) (Qz _ _ _ _ _ _ ‹_› ‹_› (by omega) (by omega) hy0) J J J K2 Mo (Zc 81 J J J (Zc 82 J J J Zd)) J hw) fun g_6 hg_6=>Zu (n:=0) [(5,0),(6,0),(7,0),(8,1),(10,1),(11,3)]<|r0' J J (stf (Yr J J) K2)<|r0' J J (stf (Yl J J J) K2)<|r0' J J (stf (Yl J J J) K2)<|r1' J (Zn (i:=86) J J zeroValue154 J J hw K2) fun b_13 ho9=>r1' J (Zm (i:=86) J J J J J (by decide) J Xi J J ⟨Zb J,Zk (i:=84) J Zi,trivial⟩ J hw ho9) fun _ _=>r3' J (Zm (i:=87) J J J J J (by decide) J Xi J J ⟨Zb J,Zk (i:=85) J Zi,trivial⟩ J hw trivial) fun _ _=>Yk<|Yb<|Ql (_,_,_,_,_) ‹_› K4 K9
      ·exact Yf J (Zn (i:=86) J J zeroValue154 J J hw K2) fun b_14 ho10=>Zu (n:=0) [(4,1),(5,0),(6,0),(7,0),(10,1),(11,3)]<|r1' J (Zh (n:=84) (Qz _ _ _ _ _ _ ‹_› ‹_› (by omega) (by omega) hy0) J J J K2 Mo (Zc 81 J J J (Zc 82 J J J Zd)) J hw) fun g_7 hg_7=>r0' J J (stf (Yr J J) K2)<|r0' J J (stf (Yl J J J) K2)<|r0' J J (stf (Yl J J J) K2)<|r1' J (Zm (i:=86) J J J J J (by decide) J Xi J J ⟨Zb J,Zk (i:=84) J Zi,trivial⟩ J hw ho10) fun _ _=>r3' J (Zm (i:=87) J J J J J (by decide) J Xi J J ⟨Zb J,Zk (i:=85) J Zi,trivial⟩ J hw trivial) fun _ _=>Yk<|Yb<|Ql (_,_,_,_,_) ‹_› K4 K9
    ·refine Yf J (Zn (i:=86) J J zeroValue154 J J hw K2) fun b_15 ho11=>Qp (n:=7) 3 9 ?_ ?_
     ·refine Yf J (Zh (n:=82) (Pg _ _ (Xo _)) J J J K1 Lp Zd J hw) fun g_8 hg_8=>Qp (n:=6) 4 9 ?_ ?_
      ·exact Yf J (Zh (n:=84) (Qz _ _ _ _ _ _ ‹_› ‹_› (by omega) (by omega) hy0) J J J K2 Mo (Zc 81 J J J (Zc 82 J J J Zd)) J hw) fun g_9 hg_9=>Zu (n:=0) [(5,0),(6,0),(7,0),(9,1),(10,1),(11,3)]<|r0' J J (stf (Yr J J) K2)<|r0' J J (stf (Yl J J J) K2)<|r0' J J (stf (Yl J J J) K2)<|r1' J (Zn (i:=87) J J zeroValue154 J J hw K2) fun b_16 ho12=>r1' J (Zm (i:=86) J J J J J (by decide) J Xi J J ⟨Zb J,Zk (i:=84) J Zi,trivial⟩ J hw ho11) fun _ _=>r3' J (Zm (i:=87) J J J J J (by decide) J Xi J J ⟨Zb J,Zk (i:=85) J Zi,trivial⟩ J hw trivial) fun _ _=>Yk<|Yb<|Ql (_,_,_,_,_) ‹_› K4 K9
      ·exact Yf J (Zn (i:=87) J J zeroValue154 J J hw K2) fun b_17 ho13=>Zu (n:=0) [(4,1),(5,0),(6,0),(7,0),(10,1),(11,3)]<|r1' J (Zh (n:=84) (Qz _ _ _ _ _ _ ‹_› ‹_› (by omega) (by omega) hy0) J J J K2 Mo (Zc 81 J J J (Zc 82 J J J Zd)) J hw) fun g_10 hg_10=>r0' J J (stf (Yr J J) K2)<|r0' J J (stf (Yl J J J) K2)<|r0' J J (stf (Yl J J J) K2)<|r1' J (Zm (i:=86) J J J J J (by decide) J Xi J J ⟨Zb J,Zk (i:=84) J Zi,trivial⟩ J hw ho11) fun _ _=>r3' J (Zm (i:=87) J J J J J (by decide) J Xi J J ⟨Zb J,Zk (i:=85) J Zi,trivial⟩ J hw trivial) fun _ _=>Yk<|Yb<|Ql (_,_,_,_,_) ‹_› K4 K9
     ·exact Yf J (Zn (i:=87) J J zeroValue154 J J hw K2) fun b_18 ho14=>Zu (n:=0) [(3,1),(4,1),(5,0),(6,0),(7,0),(10,1),(11,3)]<|r1' J (Zh (n:=82) (Pg _ _ (Xo _)) J J J K1 Lp Zd J hw) fun g_11 hg_11=>r1' J (Zh (n:=84) (Qz _ _ _ _ _ _ ‹_› ‹_› (by omega) (by omega) hy0) J J J K2 Mo (Zc 81 J J J (Zc 82 J J J Zd)) J hw) fun g_12 hg_12=>r0' J J (stf (Yr J J) K2)<|r0' J J (stf (Yl J J J) K2)<|r0' J J (stf (Yl J J J) K2)<|r1' J (Zm (i:=86) J J J J J (by decide) J Xi J J ⟨Zb J,Zk (i:=84) J Zi,trivial⟩ J hw ho11) fun _ _=>r3' J (Zm (i:=87) J J J J J (by decide) J Xi J J ⟨Zb J,Zk (i:=85) J Zi,trivial⟩ J hw trivial) fun _ _=>Yk<|Yb<|Ql (_,_,_,_,_) ‹_› K4 K9
    ·refine Yf J (Zn (i:=87) J J zeroValue154 J J hw K2) fun b_19 ho15=>Qp (n:=7) 3 8 ?_ ?_
     ·refine Yf J (Zh (n:=82) (Pg _ _ (Xo _)) J J J K1 Lp Zd J hw) fun g_13 hg_13=>Qp (n:=6) 4 8 ?_ ?_
      ·exact Yf J (Zh (n:=84) (Qz _ _ _ _ _ _ ‹_› ‹_› (by omega) (by omega) hy0) J J J K2 Mo (Zc 81 J J J (Zc 82 J J J Zd)) J hw) fun g_14 hg_14=>Zu (n:=0) [(5,0),(6,0),(7,0),(8,1),(10,1),(11,3)]<|r0' J J (stf (Yr J J) K2)<|r0' J J (stf (Yl J J J) K2)<|r0' J J (stf (Yl J J J) K2)<|r1' J (Zn (i:=86) J J zeroValue154 J J hw K2) fun b_20 ho16=>r1' J (Zm (i:=86) J J J J J (by decide) J Xi J J ⟨Zb J,Zk (i:=84) J Zi,trivial⟩ J hw ho16) fun _ _=>r3' J (Zm (i:=87) J J J J J (by decide) J Xi J J ⟨Zb J,Zk (i:=85) J Zi,trivial⟩ J hw trivial) fun _ _=>Yk<|Yb<|Ql (_,_,_,_,_) ‹_› K4 K9
      ·exact Yf J (Zn (i:=86) J J zeroValue154 J J hw K2) fun b_21 ho17=>Zu (n:=0) [(4,1),(5,0),(6,0),(7,0),(10,1),(11,3)]<|r1' J (Zh (n:=84) (Qz _ _ _ _ _ _ ‹_› ‹_› (by omega) (by omega) hy0) J J J K2 Mo (Zc 81 J J J (Zc 82 J J J Zd)) J hw) fun g_15 hg_15=>r0' J J (stf (Yr J J) K2)<|r0' J J (stf (Yl J J J) K2)<|r0' J J (stf (Yl J J J) K2)<|r1' J (Zm (i:=86) J J J J J (by decide) J Xi J J ⟨Zb J,Zk (i:=84) J Zi,trivial⟩ J hw ho17) fun _ _=>r3' J (Zm (i:=87) J J J J J (by decide) J Xi J J ⟨Zb J,Zk (i:=85) J Zi,trivial⟩ J hw trivial) fun _ _=>Yk<|Yb<|Ql (_,_,_,_,_) ‹_› K4 K9
     ·exact Yf J (Zn (i:=86) J J zeroValue154 J J hw K2) fun b_22 ho18=>Zu (n:=0) [(3,1),(4,1),(5,0),(6,0),(7,0),(10,1),(11,3)]<|r1' J (Zh (n:=82) (Pg _ _ (Xo _)) J J J K1 Lp Zd J hw) fun g_16 hg_16=>r1' J (Zh (n:=84) (Qz _ _ _ _ _ _ ‹_› ‹_› (by omega) (by omega) hy0) J J J K2 Mo (Zc 81 J J J (Zc 82 J J J Zd)) J hw) fun g_17 hg_17=>r0' J J (stf (Yr J J) K2)<|r0' J J (stf (Yl J J J) K2)<|r0' J J (stf (Yl J J J) K2)<|r1' J (Zm (i:=86) J J J J J (by decide) J Xi J J ⟨Zb J,Zk (i:=84) J Zi,trivial⟩ J hw ho18) fun _ _=>r3' J (Zm (i:=87) J J J J J (by decide) J Xi J J ⟨Zb J,Zk (i:=85) J Zi,trivial⟩ J hw trivial) fun _ _=>Yk<|Yb<|Ql (_,_,_,_,_) ‹_› K4 K9
   ·refine Yf J (Zn (i:=86) J J zeroValue154 J J hw K2) fun b_23 ho19=>Qp (n:=8) 1 9 ?_ ?_
    ·refine Yf J (Zh (n:=81) (Pg _ _ (Xo _)) J J J K1 Lp Zd J hw) fun g_18 hg_18=>Qp (n:=7) 3 9 ?_ ?_
     ·refine Yf J (Zh (n:=82) (Pg _ _ (Xo _)) J J J K1 Lp Zd J hw) fun g_19 hg_19=>Qp (n:=6) 4 9 ?_ ?_
      ·exact Yf J (Zh (n:=84) (Qz _ _ _ _ _ _ ‹_› ‹_› (by omega) (by omega) hy0) J J J K2 Mo (Zc 81 J J J (Zc 82 J J J Zd)) J hw) fun g_20 hg_20=>Zu (n:=0) [(5,0),(6,0),(7,0),(9,1),(10,1),(11,3)]<|r0' J J (stf (Yr J J) K2)<|r0' J J (stf (Yl J J J) K2)<|r0' J J (stf (Yl J J J) K2)<|r1' J (Zn (i:=87) J J zeroValue154 J J hw K2) fun b_24 ho20=>r1' J (Zm (i:=86) J J J J J (by decide) J Xi J J ⟨Zb J,Zk (i:=84) J Zi,trivial⟩ J hw ho19) fun _ _=>r3' J (Zm (i:=87) J J J J J (by decide) J Xi J J ⟨Zb J,Zk (i:=85) J Zi,trivial⟩ J hw trivial) fun _ _=>Yk<|Yb<|Ql (_,_,_,_,_) ‹_› K4 K9
      ·exact Yf J (Zn (i:=87) J J zeroValue154 J J hw K2) fun b_25 ho21=>Zu (n:=0) [(4,1),(5,0),(6,0),(7,0),(10,1),(11,3)]<|r1' J (Zh (n:=84) (Qz _ _ _ _ _ _ ‹_› ‹_› (by omega) (by omega) hy0) J J J K2 Mo (Zc 81 J J J (Zc 82 J J J Zd)) J hw) fun g_21 hg_21=>r0' J J (stf (Yr J J) K2)<|r0' J J (stf (Yl J J J) K2)<|r0' J J (stf (Yl J J J) K2)<|r1' J (Zm (i:=86) J J J J J (by decide) J Xi J J ⟨Zb J,Zk (i:=84) J Zi,trivial⟩ J hw ho19) fun _ _=>r3' J (Zm (i:=87) J J J J J (by decide) J Xi J J ⟨Zb J,Zk (i:=85) J Zi,trivial⟩ J hw trivial) fun _ _=>Yk<|Yb<|Ql (_,_,_,_,_) ‹_› K4 K9
     ·exact Yf J (Zn (i:=87) J J zeroValue154 J J hw K2) fun b_26 ho22=>Zu (n:=0) [(3,1),(4,1),(5,0),(6,0),(7,0),(10,1),(11,3)]<|r1' J (Zh (n:=82) (Pg _ _ (Xo _)) J J J K1 Lp Zd J hw) fun g_22 hg_22=>r1' J (Zh (n:=84) (Qz _ _ _ _ _ _ ‹_› ‹_› (by omega) (by omega) hy0) J J J K2 Mo (Zc 81 J J J (Zc 82 J J J Zd)) J hw) fun g_23 hg_23=>r0' J J (stf (Yr J J) K2)<|r0' J J (stf (Yl J J J) K2)<|r0' J J (stf (Yl J J J) K2)<|r1' J (Zm (i:=86) J J J J J (by decide) J Xi J J ⟨Zb J,Zk (i:=84) J Zi,trivial⟩ J hw ho19) fun _ _=>r3' J (Zm (i:=87) J J J J J (by decide) J Xi J J ⟨Zb J,Zk (i:=85) J Zi,trivial⟩ J hw trivial) fun _ _=>Yk<|Yb<|Ql (_,_,_,_,_) ‹_› K4 K9
    ·exact Yf J (Zn (i:=87) J J zeroValue154 J J hw K2) fun b_27 ho23=>Zu (n:=0) [(1,1),(3,1),(4,1),(5,0),(6,0),(7,0),(10,1),(11,3)]<|r1' J (Zh (n:=81) (Pg _ _ (Xo _)) J J J K1 Lp Zd J hw) fun g_24 hg_24=>r1' J (Zh (n:=82) (Pg _ _ (Xo _)) J J J K1 Lp Zd J hw) fun g_25 hg_25=>r1' J (Zh (n:=84) (Qz _ _ _ _ _ _ ‹_› ‹_› (by omega) (by omega) hy0) J J J K2 Mo (Zc 81 J J J (Zc 82 J J J Zd)) J hw) fun g_26 hg_26=>r0' J J (stf (Yr J J) K2)<|r0' J J (stf (Yl J J J) K2)<|r0' J J (stf (Yl J J J) K2)<|r1' J (Zm (i:=86) J J J J J (by decide) J Xi J J ⟨Zb J,Zk (i:=84) J Zi,trivial⟩ J hw ho19) fun _ _=>r3' J (Zm (i:=87) J J J J J (by decide) J Xi J J ⟨Zb J,Zk (i:=85) J Zi,trivial⟩ J hw trivial) fun _ _=>Yk<|Yb<|Ql (_,_,_,_,_) ‹_› K4 K9
   ·refine Yf J (Zn (i:=87) J J zeroValue154 J J hw K2) fun b_28 ho24=>Qp (n:=8) 1 8 ?_ ?_
    ·refine Yf J (Zh (n:=81) (Pg _ _ (Xo _)) J J J K1 Lp Zd J hw) fun g_27 hg_27=>Qp (n:=7) 3 8 ?_ ?_
     ·refine Yf J (Zh (n:=82) (Pg _ _ (Xo _)) J J J K1 Lp Zd J hw) fun g_28 hg_28=>Qp (n:=6) 4 8 ?_ ?_
      ·exact Yf J (Zh (n:=84) (Qz _ _ _ _ _ _ ‹_› ‹_› (by omega) (by omega) hy0) J J J K2 Mo (Zc 81 J J J (Zc 82 J J J Zd)) J hw) fun g_29 hg_29=>Zu (n:=0) [(5,0),(6,0),(7,0),(8,1),(10,1),(11,3)]<|r0' J J (stf (Yr J J) K2)<|r0' J J (stf (Yl J J J) K2)<|r0' J J (stf (Yl J J J) K2)<|r1' J (Zn (i:=86) J J zeroValue154 J J hw K2) fun b_29 ho25=>r1' J (Zm (i:=86) J J J J J (by decide) J Xi J J ⟨Zb J,Zk (i:=84) J Zi,trivial⟩ J hw ho25) fun _ _=>r3' J (Zm (i:=87) J J J J J (by decide) J Xi J J ⟨Zb J,Zk (i:=85) J Zi,trivial⟩ J hw trivial) fun _ _=>Yk<|Yb<|Ql (_,_,_,_,_) ‹_› K4 K9
      ·exact Yf J (Zn (i:=86) J J zeroValue154 J J hw K2) fun b_30 ho26=>Zu (n:=0) [(4,1),(5,0),(6,0),(7,0),(10,1),(11,3)]<|r1' J (Zh (n:=84) (Qz _ _ _ _ _ _ ‹_› ‹_› (by omega) (by omega) hy0) J J J K2 Mo (Zc 81 J J J (Zc 82 J J J Zd)) J hw) fun g_30 hg_30=>r0' J J (stf (Yr J J) K2)<|r0' J J (stf (Yl J J J) K2)<|r0' J J (stf (Yl J J J) K2)<|r1' J (Zm (i:=86) J J J J J (by decide) J Xi J J ⟨Zb J,Zk (i:=84) J Zi,trivial⟩ J hw ho26) fun _ _=>r3' J (Zm (i:=87) J J J J J (by decide) J Xi J J ⟨Zb J,Zk (i:=85) J Zi,trivial⟩ J hw trivial) fun _ _=>Yk<|Yb<|Ql (_,_,_,_,_) ‹_› K4 K9
     ·exact Yf J (Zn (i:=86) J J zeroValue154 J J hw K2) fun b_31 ho27=>Zu (n:=0) [(3,1),(4,1),(5,0),(6,0),(7,0),(10,1),(11,3)]<|r1' J (Zh (n:=82) (Pg _ _ (Xo _)) J J J K1 Lp Zd J hw) fun g_31 hg_31=>r1' J (Zh (n:=84) (Qz _ _ _ _ _ _ ‹_› ‹_› (by omega) (by omega) hy0) J J J K2 Mo (Zc 81 J J J (Zc 82 J J J Zd)) J hw) fun g_32 hg_32=>r0' J J (stf (Yr J J) K2)<|r0' J J (stf (Yl J J J) K2)<|r0' J J (stf (Yl J J J) K2)<|r1' J (Zm (i:=86) J J J J J (by decide) J Xi J J ⟨Zb J,Zk (i:=84) J Zi,trivial⟩ J hw ho27) fun _ _=>r3' J (Zm (i:=87) J J J J J (by decide) J Xi J J ⟨Zb J,Zk (i:=85) J Zi,trivial⟩ J hw trivial) fun _ _=>Yk<|Yb<|Ql (_,_,_,_,_) ‹_› K4 K9
    ·exact Yf J (Zn (i:=86) J J zeroValue154 J J hw K2) fun b_32 ho28=>Zu (n:=0) [(1,1),(3,1),(4,1),(5,0),(6,0),(7,0),(10,1),(11,3)]<|r1' J (Zh (n:=81) (Pg _ _ (Xo _)) J J J K1 Lp Zd J hw) fun g_33 hg_33=>r1' J (Zh (n:=82) (Pg _ _ (Xo _)) J J J K1 Lp Zd J hw) fun g_34 hg_34=>r1' J (Zh (n:=84) (Qz _ _ _ _ _ _ ‹_› ‹_› (by omega) (by omega) hy0) J J J K2 Mo (Zc 81 J J J (Zc 82 J J J Zd)) J hw) fun g_35 hg_35=>r0' J J (stf (Yr J J) K2)<|r0' J J (stf (Yl J J J) K2)<|r0' J J (stf (Yl J J J) K2)<|r1' J (Zm (i:=86) J J J J J (by decide) J Xi J J ⟨Zb J,Zk (i:=84) J Zi,trivial⟩ J hw ho28) fun _ _=>r3' J (Zm (i:=87) J J J J J (by decide) J Xi J J ⟨Zb J,Zk (i:=85) J Zi,trivial⟩ J hw trivial) fun _ _=>Yk<|Yb<|Ql (_,_,_,_,_) ‹_› K4 K9
  ·rintro⟨qb,qv,rv,b7,b8⟩ hq
   dsimp only at hq
   simp only [CA,NA]
   refine Ze<|Zg<|dt (Ya (i:=86) J J J Kb Xi J J)<|tt (Zh (n:=4) (Kt _ _ _ ‹_›) J J J K1 call128 (Zc 84 J J J Zd) J hw) fun _ _=>mv J<|dt (Yl J J J)<|dt (Yl J J J)<|tt (Zm (i:=3) J J J J J (by decide) J Yo J J ⟨Zb J,Zb J,trivial⟩ J hw trivial) fun _ _=>Zf<|Za<|Ze<|Zg<|dt (Ya (i:=87) J J J Kb Xi J J)<|tt (Zh (n:=4) (Kt _ _ _ (sg_emod x hy0)) J J J K1 call128 (Zc 85 J J J Zd) J hw) fun _ _=>mv J<|dt (Yl J J J)<|dt (Yl J J J)<|tt (Zm (i:=4) J J J J J (by decide) J Yo J J ⟨Zb J,Zb J,trivial⟩ J hw trivial) fun _ _=>Zf<|Za<|Ze<|Oj [4] [3,4]<|Zu (n:=0) [(1,0),(0,1),(2,1),(3,3),(4,3)]<|r0' J J (stf (Ya (i:=4) J J J Qr Yo J J) K1)<|r1' J (Pt (Ya (i:=3) J J J Qr Yo J J) J) fun _ _=>r1' J (Zee 3 J J K1 (fun ob=>(Zm (i:=3) J J J J J (by decide) J Yo J J ⟨Zb J,Zb J,trivial⟩ J hw ob))) fun _ _=>r3' J (Zm (i:=4) J J J J J (by decide) J Yo J J ⟨Zb J,Zb J,trivial⟩ J hw trivial) fun _ _=>r3' J (Pt (Oy J J) J) fun _ _=>Yk<|Yb<|Za<|Zw ?_
   exact Zy (.inl J) hsc () _ (fun a w hs=>res3 hs results158 (Ys (i:=3) J J Qr Yo J) (Ys (i:=4) J J Qr Yo J) J) J trivial J Zj
theorem Ai(s t:Bool)(v w:Value)(x y:Int)(hs:sg s x)(ht:sg t y)(hy0:y≠0)(hx:bl x.natAbs≤1000000000:=by omega)(hy:bl y.natAbs≤1000000000:=by omega):Mb prog 163 #[.agg #[.bool s,v],.agg #[.bool t,w]] [dgp v x.natAbs,dgp w y.natAbs] (Zcz x y):=by
 refine Yd func163 J ntmps163 J K2 ?_
 intro w0 sc hw hsc
 simp only [Zq,Zp]
 have hb:=Zk8 x.natAbs y.natAbs
 have hg0:Mc x y≠0:=Ztf hy0
 have hgs:sg t (Mc x y):=sg_lgcd ht hy0
 have hga:=Bn x y
 have hq1:=Zi6 x (Mc x y)
 have hq2:=Zi6 y (Mc x y)
 refine Ze<|Zg<|tt (Yz (i:=3) J J J J J hw) fun b _=>tt (Yz (i:=4) J J J J J hw) fun b_2 _=>tt (Zr (i:=5) J J zeroValue41 J J hw) fun b_3 _=>as_ J<|Zf<|Za<|Ze<|Gb (fun _=>False) [9]<|Zu (n:=4) [(0,0),(1,0),(2,0),(3,0),(4,0),(5,0)]<|r0' J J (st0 (Xu J J Ld J zT4 J J))<|r0' J J (st0 (Ok (i:=4) J J J iA4 J))<|r0' J J (st0 (Xu J J Ld J Fo J J))<|r0' J J (st0 (Ok (i:=3) J J J Fu J))<|r0' J J (st0 (Xu J J Ld J Fo J J))<|r0' J J (st0 (Ok (i:=4) J J J Fu J))<|Yk<|Qp (n:=3) 6 8 ?_ ?_
 ·refine Yf J (Zh (n:=81) (Zmb _ _ _ _) J J J K2 call185 (Zc 1 J J J (Zc 2 J J J Zd)) J hw) fun v _=>Zu (n:=0) [(7,0),(8,1),(9,3)]<|r0' J J (st0 (Oc (ivs:=[(0,_),(1,_)]) J K4 (fun a w hs=>Nd ((Zb J) a w hs) ((Zk (i:=81) J Zi) a w hs))))<|r1' J (Zr (i:=82) J J zeroValue154 J J hw) fun b_4 _=>r3' J (Zm (i:=82) J J J J J (by decide) J Xi J J ⟨Zb J,Zk (i:=81) J Zi,trivial⟩ J hw trivial) fun _ _=>Yk<|Yb<|Za<|Ze<|Yq (Gx 81 (Zte _ x y) J J)<|Zg<|dt (Ya (i:=3) J J J Kb Xi J J)<|dt (Ya (i:=82) J J J Kb Xi J J)<|tt (Zh (n:=6) (Qz _ _ _ _ x (Mc x y) hs hgs (by omega) (by rw [hga];omega) hg0) J J J K2 Mo (Zc 1 J J J (Zc 81 J J J Zd)) J hw) fun g hg=>mv J<|dt (Yl J J J)<|dt (Yl J J J)<|tt (Zm (i:=3) J J J J J (by decide) J Xi J J ⟨Zb J,Zk (i:=6) J Zi,trivial⟩ J hw trivial) fun _ _=>Zf<|Za<|Ze<|Zg<|dt (Ya (i:=4) J J J Kb Xi J J)<|dt (Ya (i:=82) J J J Kb Xi J J)<|tt (Zh (n:=8) (Qz _ _ _ _ y (Mc x y) ht hgs (by omega) (by rw [hga];omega) hg0) J J J K2 Mo (Zc 2 J J J (Zc 81 J J J Zd)) J hw) fun g_2 hg_2=>mv J ?_
  refine dt (Yl J J J)<|dt (Yl J J J)<|tt (Zm (i:=4) J J J J J (by decide) J Xi J J ⟨Zb J,Zk (i:=8) J Zi,trivial⟩ J hw trivial) fun _ _=>Zf<|Za<|Ze<|Zg<|dt (Ya (i:=3) J J J Kb Xi J J)<|tt (Zh (n:=9) (Kt _ _ _ ‹_›) J J J K1 call128 (Zc 6 J J J Zd) J hw) fun _ _=>mv J<|dt (Yl J J J)<|dt (Yl J J J)<|tt (Zr (i:=10) J J zeroValue31 J J hw) fun b_5 _=>tt (Zm (i:=10) J J J J J (by decide) J Yo J J ⟨Zb J,Zb J,trivial⟩ J hw trivial) fun _ _=>as_ J<|Zf<|Za<|Ze<|Zg<|dt (Ya (i:=4) J J J Kb Xi J J)<|tt (Zh (n:=10) (Kt _ _ _ ‹_›) J J J K1 call128 (Zc 8 J J J Zd) J hw) fun _ _=>mv J<|dt (Yl J J J)<|dt (Yl J J J)<|tt (Zr (i:=11) J J zeroValue31 J J hw) fun b_6 _=>tt (Zm (i:=11) J J J J J (by decide) J Yo J J ⟨Zb J,Zb J,trivial⟩ J hw trivial) fun _ _=>as_ J<|Zf<|Za<|Ze<|Ze<|Zg<|mv J<|dt (Qc J J J)<|mv J<|Pa (d:=43) J (fun s460=>?_) (fun s460=>?_)
  ·exact gsk J J J<|gsk J J J<|dt (Yu J J J)<|Zf<|Za<|Pu J<|Ze<|Zg<|dt (Oc (ivs:=[]) J trivial (fun a w hs=>Zqs))<|tt (Zm (i:=5) J J J J J (by decide) J Xg J J ⟨Zb J,Zb J,Zb J,Zb J,trivial⟩ J hw trivial) fun _ _=>as_ J<|Zf<|Za<|Zw<|Xa<|Zy (.inl J) hsc () _ (fun a w hs=>Nr hs results163 (Ys (i:=5) J J Qi Xg J) J) (Bh (by unfold Iz;first | exact .inl (Ct ‹_›) | exact .inr (Ct ‹_›))) trivial J Zj
  ·refine gdt (Yr J J) J J<|gdt (Qc J J J) J J<|dt (Yg J J J)<|Zf<|Za<|Zs J (fun h460=>?_) (fun h460=>?_)
   ·exact Ze<|Zg<|dt (Oc (ivs:=[]) J trivial (fun a w hs=>Zqs))<|tt (Zm (i:=5) J J J J J (by decide) J Xg J J ⟨Zb J,Zb J,Zb J,Zb J,trivial⟩ J hw trivial) fun _ _=>as_ J<|Zf<|Za<|Zw<|Xa<|Zy (.inl J) hsc () _ (fun a w hs=>Nr hs results163 (Ys (i:=5) J J Qi Xg J) J) (Bh (by unfold Iz;first | exact .inl (Ct ‹_›) | exact .inr (Ct ‹_›))) trivial J Zj
   ·exact Zl<|Za<|Ze<|Zg<|dt (Ya (i:=10) J J J Qr Yo J J)<|dt (Ya (i:=11) J J J Qr Yo J J)<|dt (Oc (ivs:=[(0,_),(1,_)]) J K4 (fun a w hs=>Zc7))<|tt (Zm (i:=5) J J J J J (by decide) J Xg J J ⟨Zb J,Zb J,Zb J,Zb J,trivial⟩ J hw trivial) fun _ _=>as_ J<|Zf<|Za<|Zw<|Zy (.inl J) hsc () _ (fun a w hs=>Nr hs results163 (Ys (i:=5) J J Qi Xg J) J) (Zn3 (Decidable.byContradiction ‹_›) (Decidable.byContradiction ‹_›)) trivial J Zj
 ·refine Yf J (Zr (i:=82) J J zeroValue154 J J hw) fun b_7 _=>Zu (n:=0) [(6,1),(7,0),(9,3)]<|r1' J (Zh (n:=81) (Zmb _ _ _ _) J J J K2 call185 (Zc 1 J J J (Zc 2 J J J Zd)) J hw) fun v_2 _=>r0' J J (st0 (Oc (ivs:=[(0,_),(1,_)]) J K4 (fun a w hs=>Nd ((Zb J) a w hs) ((Zk (i:=81) J Zi) a w hs))))<|r3' J (Zm (i:=82) J J J J J (by decide) J Xi J J ⟨Zb J,Zk (i:=81) J Zi,trivial⟩ J hw trivial) fun _ _=>Yk<|Yb<|Za<|Ze<|Yq (Gx 81 (Zte _ x y) J J)<|Zg<|dt (Ya (i:=3) J J J Kb Xi J J)<|dt (Ya (i:=82) J J J Kb Xi J J)<|tt (Zh (n:=12) (Qz _ _ _ _ x (Mc x y) hs hgs (by omega) (by rw [hga];omega) hg0) J J J K2 Mo (Zc 1 J J J (Zc 81 J J J Zd)) J hw) fun g_3 hg_3=>mv J<|dt (Yl J J J)<|dt (Yl J J J)<|tt (Zm (i:=3) J J J J J (by decide) J Xi J J ⟨Zb J,Zk (i:=12) J Zi,trivial⟩ J hw trivial) fun _ _=>Zf<|Za<|Ze<|Zg<|dt (Ya (i:=4) J J J Kb Xi J J)<|dt (Ya (i:=82) J J J Kb Xi J J)<|tt (Zh (n:=14) (Qz _ _ _ _ y (Mc x y) ht hgs (by omega) (by rw [hga];omega) hg0) J J J K2 Mo (Zc 2 J J J (Zc 81 J J J Zd)) J hw) fun g_4 hg_4=>mv J ?_
  refine dt (Yl J J J)<|dt (Yl J J J)<|tt (Zm (i:=4) J J J J J (by decide) J Xi J J ⟨Zb J,Zk (i:=14) J Zi,trivial⟩ J hw trivial) fun _ _=>Zf<|Za<|Ze<|Zg<|dt (Ya (i:=3) J J J Kb Xi J J)<|tt (Zh (n:=15) (Kt _ _ _ ‹_›) J J J K1 call128 (Zc 12 J J J Zd) J hw) fun _ _=>mv J<|dt (Yl J J J)<|dt (Yl J J J)<|tt (Zr (i:=16) J J zeroValue31 J J hw) fun b_8 _=>tt (Zm (i:=16) J J J J J (by decide) J Yo J J ⟨Zb J,Zb J,trivial⟩ J hw trivial) fun _ _=>as_ J<|Zf<|Za<|Ze<|Zg<|dt (Ya (i:=4) J J J Kb Xi J J)<|tt (Zh (n:=16) (Kt _ _ _ ‹_›) J J J K1 call128 (Zc 14 J J J Zd) J hw) fun _ _=>mv J<|dt (Yl J J J)<|dt (Yl J J J)<|tt (Zr (i:=17) J J zeroValue31 J J hw) fun b_9 _=>tt (Zm (i:=17) J J J J J (by decide) J Yo J J ⟨Zb J,Zb J,trivial⟩ J hw trivial) fun _ _=>as_ J<|Zf<|Za<|Ze<|Ze<|Zg<|mv J<|dt (Qc J J J)<|mv J<|Pa (d:=43) J (fun s460_2=>?_) (fun s460_2=>?_)
  ·exact gsk J J J<|gsk J J J<|dt (Yu J J J)<|Zf<|Za<|Pu J<|Ze<|Zg<|dt (Oc (ivs:=[]) J trivial (fun a w hs=>Zqs))<|tt (Zm (i:=5) J J J J J (by decide) J Xg J J ⟨Zb J,Zb J,Zb J,Zb J,trivial⟩ J hw trivial) fun _ _=>as_ J<|Zf<|Za<|Zw<|Xa<|Zy (.inl J) hsc () _ (fun a w hs=>Nr hs results163 (Ys (i:=5) J J Qi Xg J) J) (Bh (by unfold Iz;first | exact .inl (Ct ‹_›) | exact .inr (Ct ‹_›))) trivial J Zj
  ·refine gdt (Yr J J) J J<|gdt (Qc J J J) J J<|dt (Yg J J J)<|Zf<|Za<|Zs J (fun h460_2=>?_) (fun h460_2=>?_)
   ·exact Ze<|Zg<|dt (Oc (ivs:=[]) J trivial (fun a w hs=>Zqs))<|tt (Zm (i:=5) J J J J J (by decide) J Xg J J ⟨Zb J,Zb J,Zb J,Zb J,trivial⟩ J hw trivial) fun _ _=>as_ J<|Zf<|Za<|Zw<|Xa<|Zy (.inl J) hsc () _ (fun a w hs=>Nr hs results163 (Ys (i:=5) J J Qi Xg J) J) (Bh (by unfold Iz;first | exact .inl (Ct ‹_›) | exact .inr (Ct ‹_›))) trivial J Zj
   ·exact Zl<|Za<|Ze<|Zg<|dt (Ya (i:=16) J J J Qr Yo J J)<|dt (Ya (i:=17) J J J Qr Yo J J)<|dt (Oc (ivs:=[(0,_),(1,_)]) J K4 (fun a w hs=>Zc7))<|tt (Zm (i:=5) J J J J J (by decide) J Xg J J ⟨Zb J,Zb J,Zb J,Zb J,trivial⟩ J hw trivial) fun _ _=>as_ J<|Zf<|Za<|Zw<|Zy (.inl J) hsc () _ (fun a w hs=>Nr hs results163 (Ys (i:=5) J J Qi Xg J) J) (Zn3 (Decidable.byContradiction ‹_›) (Decidable.byContradiction ‹_›)) trivial J Zj
theorem Zf8(x y:Int)(hx:bl x.natAbs≤65536)(hy:bl y.natAbs≤65536)(hy0:y≠0:=by omega):Mb prog 119 #[wv x,wv y] [] (Zcz x y):=by
 refine Yd func119 J ntmps119 J trivial ?_
 intro w0 sc hw hsc
 simp only [Zq,Zp]
 refine Ze<|Zg<|tt (Yz (i:=1) J J J J J hw) fun b _=>tt (Yz (i:=2) J J J J J hw) fun b_2 _=>tt (Zr (i:=3) J J zeroValue41 J J hw) fun b_3 _=>as_ J<|Zf<|Za<|Ze<|Ze<|Zg<|dt (Ya (i:=1) J J J Qr Yo J J)<|dt (Ya (i:=2) J J J Qr Yo J J)<|tt (Zh (n:=3) (Kc _ _ ‹_› ‹_›) J J J K2 call129 Zd J hw) fun _ _=>dt (Xh J J)<|Zf<|Za<|Yi J<|Zl<|Za<|Ze<|Ze<|Zg<|dt (Xu J J Zak J zT9 J J)<|dt (Ok (i:=2) J J J iA9 J)<|dt (Zkz J J J J)<|Zf<|Za<|Zs J (fun h471=>?_) (fun h471=>?_)
 ·rw [Lc]at h471
  exfalso;exact hy0 (by have:=(Pn (by omega:2≤256) y.natAbs).1 h471;omega)
 ·refine Zl<|Za<|Ze<|Qo (fun _=>False) [(0,0),(2,0),(1,1),(3,1),(4,1),(5,0),(6,0),(7,3),(8,3)] ?_ ?_
  ·kernel_rfl
  exact r0' J J (st0 (Ya (i:=1) J J J Qr Yo J J))<|r0' J J (st0 (Ya (i:=2) J J J Qr Yo J J))<|r1' J (Zh (n:=4) (Pg _ _ (Xo _)) J J J K1 Lp Zd J hw) fun g hg=>r1' J (Zh (n:=5) (Pg _ _ (Xo _)) J J J K1 Lp Zd J hw) fun g_2 hg_2=>r1' J (Zh (n:=5) (Ai _ _ _ _ _ _ ‹_› ‹_› hy0) J J J K2 call163 (Zc 4 J J J (Zc 5 J J J Zd)) J hw) fun _ _=>r0' J J (st0 (Yl J J J))<|r0' J J (st0 (Yl J J J))<|r3' J (Zm (i:=3) J J J J J (by decide) J Xg J J ⟨Zb J,Zb J,Zb J,Zb J,trivial⟩ J hw trivial) fun _ _=>r3' J (Pt (Oy J J) J) fun _ _=>Oh<|Za<|Zw<|Zy (.inl J) hsc () _ (fun a w hs=>Nr hs results119 (Ys (i:=3) J J Qi Xg J) J) J trivial J Zj
theorem Gn(b:Bool)(s:ByteArray)(c:Bool)(t:ByteArray):Mb prog 117 #[.agg #[.bool b,.string s,.bool c,.string t]] [] (.bool (okR b s c t)):=by
 refine Yd func117 J ntmps117 J trivial ?_
 intro w0 sc hw hsc
 simp only [Zq,Zp]
 refine Ze<|Zg<|tt (Yz (i:=1) J J J J J hw) fun b _=>as_ J<|Zf<|Za<|Ze<|Zg<|dt (Xu J J Di J Yo J J)<|dt (Ya (i:=1) J J J Qr Yo J J)<|dt (Xu J J Di J Yo J J)<|dt (Ya (i:=1) J J J Qr Yo J J)<|tt (Zh (n:=1) (Zjb _ _ _ _) J J J K2 call129 Zd J hw) fun _ _=>mv J<|Ly (d:=8) J (fun s451=>?_) (fun s451=>?_)
 ·have hcc:okW c t=true:=by simp_all
  have hok:=Zoe hcc
  obtain⟨hk1,hk2,hk3⟩:=Classical.choose_spec hok
  generalize Classical.choose hok=z at hk1 hk2 hk3 ⊢
  subst hk2;subst hk3
  try clear hok
  exact gdt (Xu J J Di J Yo J J) J J<|gdt (Ya (i:=1) J J J Qr Yo J J) J J<|gtt (Zh (n:=1) (Ms z hk1) J J J K1 call104 Zd J hw) J J J fun _ _=>gdt (Of J J J) J J<|dt (Yu J J J)<|as_ J<|Zf<|Za<|Zw<|Zy (.inl J) hsc () _ (fun a w hs=>Xy hs results117 J) (by first | rw [Zog (by simp_all) hk1] | (unfold okR;simp_all)) trivial J Zj
 ·exact gsk J J J<|gsk J J J<|gsk J J J<|gsk J J J<|dt (Yg J J J)<|as_ J<|Zf<|Za<|Zw<|Zy (.inl J) hsc () _ (fun a w hs=>Xy hs results117 J) (by first | rw [Zog (by simp_all) hk1] | (unfold okR;simp_all)) trivial J Zj
theorem Qv(x y:Int)(hy0:0<y)(hx:bl x.natAbs≤65536:=by omega)(hy:bl y.natAbs≤65536:=by omega):Cal prog 117 #[.agg #[.bool (decide (x<0)),.string (Xd x.natAbs),.bool (decide (y<0)),.string (Xd y.natAbs)]] [] false (G:=Unit) (fun _=>True) (fun _=> .bool true) (fun _=>[]):=Zof hx hy hy0▸Gn _ _ _ _
theorem Xj(x:Int)(hx:inI x):Mb prog 81 #[.int .i64 x] [] (wv x):=by
 refine Yd func81 J ntmps81 J trivial ?_
 intro w0 sc hw hsc
 simp only [Zq,Zp]
 have hxa:=hx.1
 have hxb:=hx.2
 have hxU:x.natAbs<U:=by simp only [U];omega
 have hxl:bl x.natAbs≤64:=(Mp 64 _).2 (by rw [←U_eq];exact hxU)
 refine Ze<|Zg<|tt (Zr (i:=1) J J zeroValue31 J J hw) fun b _=>Zf<|Za<|Ze<|Zg<|mv J<|dt (cv_u64i (r:=x%18446744073709551616) J J uT3 Zd9 J)<|as_ J<|Zf<|Za<|Da [(0,_),(2,_)] [(0,_),(1,_)] (fun(_:Unit)=>[(3,.int .u64 ((x.natAbs:Nat):Int))]) (fun(_:Unit)=>[]) (fun(_:Unit)=>True) K2 K2 ?_ ?_
 ·refine Ze<|Zg<|mv J<|dt (Xv J J J)<|Zf<|Za<|Zs J (fun h276=>?_) (fun h276=>?_)
  ·exact Zg<|mv J<|dt (u_negm (r:=x.natAbs) J J (by omega))<|as_ J<|Zf<|Ql () trivial ⟨by first | rfl | (rw [show x%18446744073709551616=((x.natAbs:Nat):Int) by omega];rfl),rfl,rfl,trivial⟩ K2
  ·exact Zl<|Ql () trivial ⟨by first | rfl | (rw [show x%18446744073709551616=((x.natAbs:Nat):Int) by omega];rfl),rfl,rfl,trivial⟩ K2
 ·rintro _ -
  simp only [CA,NA]
  exact Ze<|Zg<|mv J<|dt (Xv J J J)<|mv J<|tt (Pm (i:=2) (ivs:=[(0,_)]) (enc:=Hg) [x.natAbs] J J K2 Qb ti149 J J J J J pU.cells J J hw) fun v _=>tt (Zh (n:=2) (Om _ _) J J J K1 call127 (Xr 2 J J pU Zd) J hw) fun _ _=>Oa (Zgf 2 J J pU)<|Oa (Zfy 2 (Zeb hxU) J J)<|dt (Oc (ivs:=[(0,_),(1,_)]) J K4 (fun a w hs=>Nd ((Zb J) a w hs) ((Zk (i:=2) J (Yt pU)) a w hs)))<|tt (Zh (n:=2) (Kt _ _ x (Xo _)) J J J K1 call128 (Xr 2 J J pU Zd) J hw) fun _ _=>mv J<|dt (Yl J J J)<|dt (Yl J J J)<|tt (Zr (i:=3) J J zeroValue31 J J hw) fun b_2 _=>tt (Zm (i:=3) J J J J J (by decide) J Yo J J ⟨Zb J,Zb J,trivial⟩ J hw trivial) fun _ _=>as_ J<|Zf<|Za<|Ze<|Zg<|dt (Ya (i:=3) J J J Qr Yo J J)<|tt (Zm (i:=1) J J J J J (by decide) J Yo J J ⟨Zb J,Zb J,trivial⟩ J hw trivial) fun _ _=>Zf<|Za<|Zw<|Zy (.inl J) hsc () _ (fun a w hs=>Xy hs results81 (Ys (i:=1) J J Qr Yo J)) (by rw [Nc (by omega)]<;>rfl) trivial J Zj
theorem Za0(v:Value)(xs:List Int)(hs:Sz 65536 xs):Cal prog 152 #[v] [slp 2 wv v xs] true (G:=Unit) (fun _=>True) (fun _=>Eb v (tzl xs).length) (fun _=>[slp 2 wv (Eb v (tzl xs).length) (tzl xs)]):=by
 refine Yd func152 J ntmps152 J K1 ?_
 intro w0 sc hw hsc
 simp only [Zq,Zp]
 refine Md (Zty (i:=1) J Zi) fun hself=>Md (Gg (i:=1) J Zi) fun hlen=>Ze<|Zg<|as_ J<|Zf<|Za<|Ze<|Zo<|Nw [] [(0,_)] (fun(k:Nat)=>[(0,Eb v k)]) (fun(k:Nat)=>[(1,slp 2 wv (Eb v k) (xs.take k))]) (fun(k:Nat)=>(k≤xs.length)∧(tzl (xs.take k)=tzl xs)) (fun(k:Nat)=>k) xs.length ⟨Nat.le_refl _,by rw [List.take_length]⟩ ⟨by rw [hself];rfl,trivial⟩ ⟨by rw [hself,List.take_length];rfl,rfl,trivial⟩ ?_
 rintro k ⟨hk,ht⟩
 simp only [CA,NA]
 have hl:(xs.take k).length=k:=by rw [List.length_take];omega
 refine Ze<|Ze<|Zg<|mv J<|dt (Yh J J (i:=1) J Zi Qx)<|dt (Of J J J)<|mv J<|Pa (d:=6) J (fun s35=>?_) (fun s35=>?_)
 ·refine gdt (Yr J J) J J<|gdt (Yr J J) J J<|gdt (Yh J J (i:=1) J Zi Qx) J J<|gdt (Qf J J J ⟨by omega,by omega⟩) J J<|gdt (Xc (ii:=1) (i:=k-1) J J J J Zi Qx Yo) J J<|gdt (Xs (ii:=1) 0 J J J Zi pV) J J<|gtt (Zh (n:=1) (Ms _ ((hs.take _).getD _)) J J J K1 call104 Zd J hw) J J J fun _ _=>gdt (Pv J J J) J J<|dt (Yu J J J)<|Zf<|Za<|Zs J (fun h35=>?_) (fun h35=>?_)
  ·have hstep:=Znh hk (by omega) (Zga (k:=k) (by omega) (Int.sign_eq_zero_iff_zero.1 ‹_›):cf xs (k-1)=0)
   exact Zl<|Za<|Zo<|Zg<|mv J<|mv J<|dt (Yh J J (i:=1) J Zi Qx)<|dt (Qf J J J ⟨by omega,by omega⟩)<|dt (Zyg (ii:=1) (i:=k-1) J J J J Zi Qx Yo)<|as_ J<|Zf<|Oe<|Qy (s_pre 1 1 (k-1) J J)<|Xp (k-1) ⟨by first | omega | (dsimp only<;>omega),by rw [←ht,←hstep]⟩ (by first | omega | (dsimp only<;>omega)) ⟨by rw [←Hr v k (k-1)];rfl,trivial⟩ ⟨by rw [Hr,List.take_take,Nat.min_eq_left (by omega)];rfl,rfl,trivial⟩
  ·refine Yw<|Zx<|Zx<|Na<|Za<|Ze<|Zg<|mv J<|as_ J<|Zf<|Za<|Zw ?_
   have hx:tzl xs=xs.take k:=by rw [←ht];exact Zdf hk (by first | (left;omega) | (right;exact Zdg (k:=k) (by omega) ‹_›))
   exact Zy (.inl J) hsc () _ (fun a w hs=>Xy hs results152 J) (by rw [hx,hl]) trivial J (Yp 1 J J J (by rw [hx,hl]) Zj)
 ·refine gsk J J J<|gsk J J J<|gsk J J J<|gsk J J J<|gsk J J J<|gsk J J J<|gsk J J J<|gsk J J J<|dt (Yg J J J)<|Zf<|Za<|Yi J<|Yw<|Zx<|Zx<|Na<|Za<|Ze<|Zg<|mv J<|as_ J<|Zf<|Za<|Zw ?_
  have hx:tzl xs=xs.take k:=by rw [←ht];exact Zdf hk (by first | (left;omega) | (right;exact Zdg (k:=k) (by omega) ‹_›))
  exact Zy (.inl J) hsc () _ (fun a w hs=>Xy hs results152 J) (by rw [hx,hl]) trivial J (Yp 1 J J J (by rw [hx,hl]) Zj)
theorem Zgm(v:Value)(r:List (Bool×ByteArray)):Mb prog 49 #[v] [slp 2 Zft v r] (.bool (okP r)):=by
 refine Yd func49 J ntmps49 J K1 ?_
 intro w0 sc hw hsc
 simp only [Zq,Zp]
 refine Md (Gg (i:=1) J Zi) fun hlen=>Ze<|Zg<|as_ J<|Zf<|Za<|Ze<|Ze<|Zg<|mv J<|dt (Yh J J (i:=1) J Zi Qx)<|mv J<|Zf<|Za<|Zo<|Nw [(0,_),(5,_),(6,_)] [(0,_),(1,_)] (fun(k:Nat)=>[(7,.int .i64 (k:Int))]) (fun(k:Nat)=>[]) (fun(k:Nat)=>(k≤r.length)∧((r.take k).all (fun w=>okW w.1 w.2)=true)) (fun(k:Nat)=>r.length-k) 0 ⟨by first | omega | (dsimp only<;>omega),by simp⟩ K4 K2 ?_
 rintro k ⟨hk,ha⟩
 simp only [CA,NA]
 refine Ze<|Zg<|dt (Xv J J J)<|Zf<|Za<|Ze<|Zs J (fun h51=>?_) (fun h51=>?_)
 ·refine Zl<|Za<|Ze<|Zo<|Ze<|Zg<|dt (Xc (ii:=1) J J J J Zi Qx Yo J (by first | omega | (simp only [List.length_set];omega)))<|dt (Xs (ii:=1) (false,⟨#[]⟩) J J J Zi pW (by first | omega | (simp only [List.length_set];omega)))<|tt (Zr (i:=2) J J zeroValue31 J J hw) fun b _=>tt (Zm (i:=2) J J J J J (by decide) J Yo J J ⟨Zb J,Zb J,trivial⟩ J hw trivial) fun _ _=>Zf<|Za<|Ze<|Zg<|dt (Ya (i:=2) J J J Qr Yo J J)<|tt (Zh (n:=2) (Ec _ _) J J J K1 Zf7 Zd J hw) fun _ _=>dt (Xh J J)<|Zf<|Za<|La J (fun h52=>?_) (fun h52=>?_)
  ·exact Ze<|Zg<|as_ J<|Zf<|Za<|Zw<|Iw<|Xa<|Xa<|Iw<|Xa<|Zy (.inl J) hsc () _ (fun a w hs=>Xy hs results49 J) (by rw [Zsr (Yx (i:=k) (d:=(false,⟨#[]⟩))) (by simp_all)]) trivial J Zj
  ·exact Zl<|Oe<|Za<|Zg<|dt (Yy J J J ⟨by omega,by omega⟩)<|mv J<|Zf<|Xp (k+1) ⟨by first | omega | (dsimp only<;>omega),by rw [Oq (false,⟨#[]⟩) _ _ (by omega),List.all_append,ha];simpa using h52⟩ (by first | omega | (dsimp only<;>omega)) K4 K2
 ·refine Yw<|Zx<|Zx<|Na<|Za<|Ze ?_
  obtain rfl:k=r.length:=by omega
  rw [List.take_length]at ha
  obtain⟨xs,hxs,rfl⟩:=Zod (List.all_eq_true.1 ha)
  have hsz:=Sz.of_mem hxs
  rw [List.length_map]at hlen
  refine Yq (Znu 1 (q:=slp 2 wv v xs) J J (Zrj v xs) (fun _ h=>h) J)<|Zg<|mv J<|dt (Yh J J (i:=1) J Zi Qx)<|dt (Ab J J J)<|mv J<|Pa (d:=18) J (fun s56=>?_) (fun s56=>?_)
  ·refine gdt (Yr J J) J J<|gdt (Yh J J (i:=1) J Zi Qx) J J<|gdt (Pv J J J) J J<|gdt (Yr J J) J J<|Pa (d:=22) J (fun s56_2=>?_) (fun s56_2=>?_)
   ·exact gsk J J J<|gsk J J J<|gsk J J J<|gsk J J J<|gsk J J J<|gsk J J J<|gsk J J J<|gsk J J J<|gdt (Yu J J J) J J<|dt (Yu J J J)<|as_ J<|Zf<|Za<|Zw<|Zy (.inl J) hsc () _ (fun a w hs=>Xy hs results49 J) (by rw [Zl8 hxs];first | (simp_all;done) | (simp_all;omega)) trivial J Zj
   ·exact gdt (Yr J J) J J<|gdt (Yr J J) J J<|gdt (Yh J J (i:=1) J Zi Qx) J J<|gdt (Qf J J J ⟨by omega,by omega⟩) J J<|gdt (Xc (ii:=1) (i:=xs.length-1) J J J J Zi Qx Yo) J J<|gdt (Xs (ii:=1) 0 J J J Zi pV) J J<|gtt (Zh (n:=2) (Ms _ (hsz.getD _)) J J J K1 call104 Zd J hw) J J J fun _ _=>gdt (Qc J J J) J J<|gdt (Yg J J J) J J<|dt (Yu J J J)<|as_ J<|Zf<|Za<|Zw<|Zy (.inl J) hsc () _ (fun a w hs=>Xy hs results49 J) (by rw [Zl8 hxs];first | (simp_all;done) | (simp_all;omega)) trivial J Zj
  ·exact gsk J J J<|gsk J J J<|gsk J J J<|gsk J J J<|Zkj J J<|Zkj J J<|Zkj J J<|Zkj J J<|Zkj J J<|Zkj J J<|Zkj J J<|Zkj J J<|gsk J J J<|dt (Yg J J J)<|as_ J<|Zf<|Za<|Zw<|Zy (.inl J) hsc () _ (fun a w hs=>Xy hs results49 J) (by rw [Zl8 hxs];first | (simp_all;done) | (simp_all;omega)) trivial J Zj
theorem Xz(v:Value)(xs:List Int)(h:Vp xs):Cal prog 49 #[v] [slp 2 wv v xs] false (G:=Unit) (fun _=>True) (fun _=> .bool true) (fun _=>[]):=okP_wr h▸(Zgm v (xs.map wr)).imp (Zrk v xs) (fun _ h=>h)
theorem Nz(v:Value)(xs:List Int)(hs:Sz 65536 xs):Mb prog 149 #[v] [slp 2 wv v xs] (.int .i64 (msz xs:Int)):=by
 refine Yd func149 J ntmps149 J K1 ?_
 intro w0 sc hw hsc
 simp only [Zq,Zp]
 refine Md (Gg (i:=1) J Zi) fun hlen=>Ze<|Zg<|as_ J<|Zf<|Za<|Ze<|Zg<|as_ J<|Zf<|Za<|Ze<|Ze<|Zg<|mv J<|dt (Yh J J (i:=1) J Zi uT22)<|mv J<|Zf<|Za<|Zo<|Nw [(6,_),(7,_)] [(0,_),(1,_)] (fun(k:Nat)=>[(8,.int .i64 (k:Int)),(3,.int .i64 (msz (xs.take k):Int))]) (fun(k:Nat)=>[]) (fun(k:Nat)=>k≤xs.length) (fun(k:Nat)=>xs.length-k) 0 (by first | omega | (dsimp only<;>omega)) K4 K2 ?_
 rintro k hk
 simp only [CA,NA]
 refine Ze<|Zg<|dt (Xv J J J)<|Zf<|Za<|Ze<|Zs J (fun h83=>?_) (fun h83=>?_)
 ·exact Zl<|Za<|Ze<|Zo<|Ze<|Zg<|dt (Xc (ii:=1) J J J J Zi uT22 Yo J (by first | omega | (simp only [List.length_set];omega)))<|dt (Xs (ii:=1) 0 J J J Zi pV (by first | omega | (simp only [List.length_set];omega)))<|tt (Zr (i:=2) J J zeroValue31 J J hw) fun b _=>tt (Zm (i:=2) J J J J J (by decide) J Yo J J ⟨Zb J,Zb J,trivial⟩ J hw trivial) fun _ _=>Zf<|Za<|Zg<|mv J<|dt (Ya (i:=2) J J J Qr Yo J J)<|tt (Zh (n:=2) (Zg9 _ (hs.getD _)) J J J K1 call145 Zd J hw) fun _ _=>dt (Zum J J J)<|as_ J<|Zf<|Oe<|Za<|Zg<|dt (Yy J J J ⟨by omega,by omega⟩)<|mv J<|Zf<|Xp (k+1) (by first | omega | (dsimp only<;>omega)) (by first | omega | (dsimp only<;>omega)) ⟨J,by rw [Oq 0 _ _ (by omega),Zxu];exact congrArg some (Ag (by omega)),rfl,rfl,trivial⟩ K2
 ·exact Yw<|Zx<|Zx<|Na<|Za<|Ze<|Zg<|mv J<|as_ J<|Zf<|Za<|Zw<|Zy (.inl J) hsc () _ (fun a w hs=>Xy hs results149 J) (by rw [List.take_of_length_le (by omega)]) trivial J Zj
theorem Zov(bd:Nat)(t:TypeId)(e e2:Int)(n:Bool)(s:ByteArray):Zqt prog 175 #[.pointer (some ⟨bd,0,none⟩),.agg #[.bool n,.string s],.int .i64 e2] [] false bd t #[.int .i64 e] (G:=Unit) (fun _=>True) (fun _=> .agg #[.bool n,.string s]) (fun _=>#[.int .i64 (if e=0 then e2 else e)]) (fun _=>[]):=by
 refine Zcq func175 J ntmps175 J trivial ?_
 intro w0 sc hw hsc
 simp only [Zq,Zp]
 refine Ze<|Zg<|tt (Yz (i:=2) J J J J J hw) fun b _=>tt (Zr (i:=3) J J zeroValue31 J J hw) fun b_2 _=>Zf<|Za<|Ze<|Ze<|Zg<|mv J<|dt (Zf4 J J)<|dt (Xu J J Zlf J Gy J J)<|dt (Ok (i:=1) J J J Zae J)<|dt (Pv J J J)<|Zf<|Za<|Zs J (fun h19=>?_) (fun h19=>?_)
 ·exact Zg<|mv J<|mv J<|dt (Zf4 J J)<|dt (Xu J J Zlf J Gy J J)<|tt (Zm (i:=1) J J J J J (by decide) J Gy J J ⟨Zb J,trivial⟩ J hw trivial) fun _ _=>Zf<|Za<|Ze<|Zg<|dt (Ya (i:=2) J J J Qr Yo J J)<|tt (Zm (i:=3) J J J J J (by decide) J Yo J J ⟨Zb J,Zb J,trivial⟩ J hw trivial) fun _ _=>Zf<|Za<|Zw<|Zd5 (.inl J) hsc () _ (fun a w hs=>Xy hs results175 (Ys (i:=3) J J Qr Yo J)) J trivial 1 J (by simp_all [Ay]) J J Zj
 ·exact Zl<|Za<|Ze<|Zg<|dt (Ya (i:=2) J J J Qr Yo J J)<|tt (Zm (i:=3) J J J J J (by decide) J Yo J J ⟨Zb J,Zb J,trivial⟩ J hw trivial) fun _ _=>Zf<|Za<|Zw<|Zd5 (.inl J) hsc () _ (fun a w hs=>Xy hs results175 (Ys (i:=3) J J Qr Yo J)) J trivial 1 J (by simp_all [Ay]) J J Zj
theorem d_mul_(bd:Nat)(e x y:Int)(hx:bl x.natAbs≤65536)(hy:bl y.natAbs≤65536):Zqt prog 153 #[.pointer (some ⟨bd,0,none⟩),wv x,wv y] [] false bd 167 #[.int .i64 e] (G:=Unit) (fun _=>True) (fun _=>wv (Zg2 (x*y))) (fun _=>#[.int .i64 (err e (x*y))]) (fun _=>[]):=by
 refine Zcq func153 J ntmps153 J trivial ?_
 intro w0 sc hw hsc
 simp only [Zq,Zp]
 refine Ze<|Zg<|tt (Yz (i:=2) J J J J J hw) fun b _=>tt (Yz (i:=3) J J J J J hw) fun b_2 _=>tt (Zr (i:=4) J J zeroValue31 J J hw) fun b_3 _=>Zf<|Za<|Ze<|Qo (fun x=>x=bd) [(0,0),(1,0),(2,0),(3,0),(4,0),(5,1),(6,0),(7,0),(8,1),(9,3)] ?_ ?_
 ·kernel_rfl
 exact r0' J J (st1 1 J (Yr J J))<|r0' J J (st1 1 J (Zf4 J J))<|r0' J J (st1 1 J (Xu J J Zhh J Zg7 J J))<|r0' J J (st1 1 J (Ya (i:=2) J J J Qr Yo J J))<|r0' J J (st1 1 J (Ya (i:=3) J J J Qr Yo J J))<|r1' J (Zh (n:=4) (Dh _ _ ‹_› ‹_›) J J J K2 call139 Zd J hw) fun _ _=>r0' J J (st1 1 J (Yl J J J))<|r0' J J (st1 1 J (Yl J J J))<|r1' J (Oo (n:=4) (i:=1) (Zov _ _ _ _ _ _) J J J K3 call175 J (by decide) Zd J hw J) fun _ _=>r3' J (Zm (i:=4) J J J J J (by decide) J Yo J J ⟨Zb J,Zb J,trivial⟩ J hw trivial) fun _ _=>Oh<|Za<|Zw<|Zd5 (.inl J) hsc () _ (fun a w hs=>Xy hs results153 (Ys (i:=4) J J Qr Yo J)) J trivial 1 J J J J Zj
theorem Db(bd:Nat)(x y:Int)(hx:bl x.natAbs≤65536)(hy:bl y.natAbs≤65536)(hz:bl (x*y).natAbs≤65536):Zqt prog 153 #[.pointer (some ⟨bd,0,none⟩),wv x,wv y] [] false bd 167 #[.int .i64 0] (G:=Unit) (fun _=>True) (fun _=>wv (x*y)) (fun _=>#[.int .i64 0]) (fun _=>[]):=by
 have h:=d_mul_ bd 0 x y hx hy
 rw [Nc hz,Zt4 hz]at h;exact h
theorem d_add_(bd:Nat)(e x y:Int)(hx:bl x.natAbs≤65536)(hy:bl y.natAbs≤65536):Zqt prog 159 #[.pointer (some ⟨bd,0,none⟩),wv x,wv y] [] false bd 167 #[.int .i64 e] (G:=Unit) (fun _=>True) (fun _=>wv (Zg2 (x+y))) (fun _=>#[.int .i64 (err e (x+y))]) (fun _=>[]):=by
 refine Zcq func159 J ntmps159 J trivial ?_
 intro w0 sc hw hsc
 simp only [Zq,Zp]
 refine Ze<|Zg<|tt (Yz (i:=2) J J J J J hw) fun b _=>tt (Yz (i:=3) J J J J J hw) fun b_2 _=>tt (Zr (i:=4) J J zeroValue31 J J hw) fun b_3 _=>Zf<|Za<|Ze<|Qo (fun x=>x=bd) [(0,0),(1,0),(2,0),(3,0),(4,0),(5,1),(6,0),(7,0),(8,1),(9,3)] ?_ ?_
 ·kernel_rfl
 exact r0' J J (st1 1 J (Yr J J))<|r0' J J (st1 1 J (Zf4 J J))<|r0' J J (st1 1 J (Xu J J Zhh J Zg7 J J))<|r0' J J (st1 1 J (Ya (i:=2) J J J Qr Yo J J))<|r0' J J (st1 1 J (Ya (i:=3) J J J Qr Yo J J))<|r1' J (Zh (n:=4) (Gz _ _ ‹_› ‹_›) J J J K2 call82 Zd J hw) fun _ _=>r0' J J (st1 1 J (Yl J J J))<|r0' J J (st1 1 J (Yl J J J))<|r1' J (Oo (n:=4) (i:=1) (Zov _ _ _ _ _ _) J J J K3 call175 J (by decide) Zd J hw J) fun _ _=>r3' J (Zm (i:=4) J J J J J (by decide) J Yo J J ⟨Zb J,Zb J,trivial⟩ J hw trivial) fun _ _=>Oh<|Za<|Zw<|Zd5 (.inl J) hsc () _ (fun a w hs=>Xy hs results159 (Ys (i:=4) J J Qr Yo J)) J trivial 1 J J J J Zj
theorem Zo4(bd:Nat)(x y:Int)(hx:bl x.natAbs≤65536)(hy:bl y.natAbs≤65536)(hz:bl (x+y).natAbs≤65536):Zqt prog 159 #[.pointer (some ⟨bd,0,none⟩),wv x,wv y] [] false bd 167 #[.int .i64 0] (G:=Unit) (fun _=>True) (fun _=>wv (x+y)) (fun _=>#[.int .i64 0]) (fun _=>[]):=by
 have h:=d_add_ bd 0 x y hx hy
 rw [Nc hz,Zt4 hz]at h;exact h
theorem d_sub_(bd:Nat)(e x y:Int)(hx:bl x.natAbs≤65536)(hy:bl y.natAbs≤65536):Zqt prog 137 #[.pointer (some ⟨bd,0,none⟩),wv x,wv y] [] false bd 167 #[.int .i64 e] (G:=Unit) (fun _=>True) (fun _=>wv (Zg2 (x-y))) (fun _=>#[.int .i64 (err e (x-y))]) (fun _=>[]):=by
 refine Zcq func137 J ntmps137 J trivial ?_
 intro w0 sc hw hsc
 simp only [Zq,Zp]
 refine Ze<|Zg<|tt (Yz (i:=2) J J J J J hw) fun b _=>tt (Yz (i:=3) J J J J J hw) fun b_2 _=>tt (Zr (i:=4) J J zeroValue31 J J hw) fun b_3 _=>Zf<|Za<|Ze<|Qo (fun x=>x=bd) [(0,0),(1,0),(2,0),(3,0),(4,0),(5,1),(6,0),(7,0),(8,1),(9,3)] ?_ ?_
 ·kernel_rfl
 exact r0' J J (st1 1 J (Yr J J))<|r0' J J (st1 1 J (Zf4 J J))<|r0' J J (st1 1 J (Xu J J Zhh J Zg7 J J))<|r0' J J (st1 1 J (Ya (i:=2) J J J Qr Yo J J))<|r0' J J (st1 1 J (Ya (i:=3) J J J Qr Yo J J))<|r1' J (Zh (n:=4) (Znc _ _ ‹_› ‹_›) J J J K2 call140 Zd J hw) fun _ _=>r0' J J (st1 1 J (Yl J J J))<|r0' J J (st1 1 J (Yl J J J))<|r1' J (Oo (n:=4) (i:=1) (Zov _ _ _ _ _ _) J J J K3 call175 J (by decide) Zd J hw J) fun _ _=>r3' J (Zm (i:=4) J J J J J (by decide) J Yo J J ⟨Zb J,Zb J,trivial⟩ J hw trivial) fun _ _=>Oh<|Za<|Zw<|Zd5 (.inl J) hsc () _ (fun a w hs=>Xy hs results137 (Ys (i:=4) J J Qr Yo J)) J trivial 1 J J J J Zj
theorem Zuh(bd:Nat)(x y:Int)(hx:bl x.natAbs≤65536)(hy:bl y.natAbs≤65536)(hz:bl (x-y).natAbs≤65536):Zqt prog 137 #[.pointer (some ⟨bd,0,none⟩),wv x,wv y] [] false bd 167 #[.int .i64 0] (G:=Unit) (fun _=>True) (fun _=>wv (x-y)) (fun _=>#[.int .i64 0]) (fun _=>[]):=by
 have h:=d_sub_ bd 0 x y hx hy
 rw [Nc hz,Zt4 hz]at h;exact h
theorem d_done(bd:Nat)(v:Value)(xs:List Int)(hs:Sz 65536 xs):Cal prog 154 #[.pointer (some ⟨bd,0,none⟩),v] [Zgj bd 167 #[.int .i64 0],slp 2 wv v xs] true (G:=Unit) (fun _=>True) (fun _=> .tuple #[Eb v (tzl xs).length,.int .i64 0]) (fun _=>[slp 2 wv (Eb v (tzl xs).length) (tzl xs)]):=by
 refine Yd func154 J ntmps154 J K2 ?_
 intro w0 sc hw hsc
 simp only [Zq,Zp]
 refine Ze<|Zg<|as_ J<|as_ J<|Zf<|Za<|Ze<|Ze<|Zg<|mv J<|dt (Zf4 J J)<|dt (Xu J J Zhh J Zg7 J J)<|dt (Xu J J Zlf J Gy J J)<|dt (Zyh (i:=1) J J J Zae J)<|dt (Qc J J J)<|Zf<|Za<|Zs J (fun h43=>?_) (fun h43=>?_)
 ·exfalso;simp_all
 ·exact Zl<|Za<|Ze<|Zg<|mv J<|tt (Zh (n:=3) (Za0 _ _ ‹_›) J J J K1 call152 (Zc 2 J J J Zd) J hw) fun _ _=>as_ J<|as_ J<|Zf<|Za<|Zw<|Zy (.inl J) hsc () _ (fun a w hs=>Nr hs results154 J J) J trivial J (Xb 3 J J J Zj)
end Go.Sky

