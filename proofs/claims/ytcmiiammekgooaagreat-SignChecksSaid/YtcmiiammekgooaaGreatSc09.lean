/- Rules, arithmetic and contracts: part 10. No conditions but those that each theorem names. -/
import Derived.Test.YtcmiiammekgooaaGreatSc08
set_option linter.all false
namespace Go.Sky
open Go.Proofs.Tryz
open Go.Proofs
set_option maxRecDepth 20000
set_option maxHeartbeats 4000000
set_option linter.unusedSimpArgs false
theorem Bu(b:Bool)(s:ByteArray):On prog 103 #[.agg #[.bool b,.string s]] [] (.bool (okW b s)):=by
 refine Yi func103 J ntmps103 J trivial fun w0 sc hw hsc=>?_
 simp only [Zu,Zt]
 refine Zb<|Ze<|tt (Yw (i:=1) J J J J J hw) fun b _=>Zp J<|Zc<|Za<|Zb<|Zb<|Ze<|dt (Yv J J Dl J zT9 J J)<|dt (Qw (i:=1) J J J iA9 J)<|dt (Zk8 J J J J)<|Zc<|Za<|Zr J (fun h264=>?_) (fun h264=>?_)
 ·exact Zb<|Ze<|dt (Yv J J Dl J zT4 J J)<|dt (Qw (i:=1) J J J iA4 J)<|dt (Xl J J)<|Zp J<|Zc<|Za<|Zq<|Yn<|xU hsc results103 J J (by unfold okW;rw [if_pos h264])
 ·refine Zk<|Za<|Zb<|Ze<|dt (Yv J J Dl J zT9 J J)<|dt (Qw (i:=1) J J J iA9 J)<|dt (Zsb (i:=0) J J J uT9 J)<|dt (Xz J J J)<|mv J<|Pf (d:=13) J (fun s267=>?_) (fun s267=>?_)
  ·exact Xh (Yv J J Dl J zT9 J J) J J<|Xh (Qw (i:=1) J J J iA9 J) J J<|Xh (Cz J J uT9) J J<|Xh (Dc J J J) J J<|dt (Yy J J J)<|Zp J<|Zc<|Za<|Zq<|xU hsc results103 J J (by unfold okW;rw [if_neg h264];simp_all<;>omega)
  ·exact Xt J J J<|Xt J J J<|Xt J J J<|Xt J J J<|dt (Yh J J J)<|Zp J<|Zc<|Za<|Zq<|xU hsc results103 J J (by unfold okW;rw [if_neg h264];simp_all<;>omega)
theorem Hx(x:Int)(hx:bl x.natAbs≤65536):Cal prog 103 #[wv x] [] false (G:=Unit) (fun _=>True) (fun _=> .bool true) (fun _=>[]):=Zb2 hx▸Bu _ _
theorem Zl6(b:Bool)(s:ByteArray)(c:Bool)(t:ByteArray):On prog 129 #[.agg #[.bool b,.string s],.agg #[.bool c,.string t]] [] (.bool (okW b s && okW c t)):=by
 refine Yi func129 J ntmps129 J trivial fun w0 sc hw hsc=>?_
 simp only [Zu,Zt]
 refine Zb<|Ze<|tt (Yw (i:=1) J J J J J hw) fun b _=>tt (Yw (i:=2) J J J J J hw) fun b_2 _=>Zp J<|Zc<|Za<|Zb<|Ze<|dt (Yb (i:=1) J J J Xs Ye J J)<|tt (Zh (n:=2) (Bu _ _) J J J K1 Zez Zg J hw) fun _ _=>mv J<|Ma (d:=7) J (fun s271=>?_) (fun s271=>?_)
 ·exact Xh (Yb (i:=2) J J J Xs Ye J J) J J<|Lz (Zh (n:=2) (Bu _ _) J J J K1 Zez Zg J hw) J J J fun _ _=>dt (Yy J J J)<|Zp J<|Zc<|Za<|Zq<|xU hsc results129 J J (by simp_all)
 ·exact Xt J J J<|Xt J J J<|dt (Yh J J J)<|Zp J<|Zc<|Za<|Zq<|xU hsc results129 J J (by simp_all)
theorem Hn(x y:Int)(hx:bl x.natAbs≤65536)(hy:bl y.natAbs≤65536):On prog 129 #[wv x,wv y] [] (.bool true):=by
 have h:=Zl6 (decide (x<0)) (Xp x.natAbs) (decide (y<0)) (Xp y.natAbs)
 rw [Zb2 hx,Zb2 hy]at h;exact h
theorem Ko(x:Int)(hx:bl x.natAbs≤65536):On prog 104 #[wv x] [] (.int .i64 x.sign):=by
 refine Yi func104 J ntmps104 J trivial fun w0 sc hw hsc=>?_
 simp only [Zu,Zt]
 exact Zb<|Ze<|tt (Yw (i:=1) J J J J J hw) fun b _=>Zp J<|Zc<|Za<|Zb<|Zb<|Ze<|dt (Yb (i:=1) J J J Xs Ye J J)<|tt (Zh (n:=1) (Hx _ ‹_›) J J J K1 Zez Zg J hw) fun _ _=>dt (Xl J J)<|Zc<|Za<|Yp J<|Zk<|Za<|Zb<|Ze<|dt (Yb (i:=1) J J J Xs Ye J J)<|tt (Zh (n:=2) (Oj _ _ (Qb _)) J J J K1 Lh Zg J hw) fun g hg=>tt (Zh (n:=2) (Zkk _ _ _ ‹_›) J J J K1 call135 (Zd 2 J J J Zg) J hw) fun _ _=>Zp J<|Zc<|Za<|Zq<|xU hsc results104 J J J
theorem Zjl(x:Int)(hx:bl x.natAbs≤65536):On prog 145 #[wv x] [] (.int .i64 (bl x.natAbs:Int)):=by
 refine Yi func145 J ntmps145 J trivial fun w0 sc hw hsc=>?_
 simp only [Zu,Zt]
 exact Zb<|Ze<|tt (Yw (i:=1) J J J J J hw) fun b _=>Zp J<|Zc<|Za<|Zb<|Zb<|Ze<|dt (Yb (i:=1) J J J Xs Ye J J)<|tt (Zh (n:=1) (Hx _ ‹_›) J J J K1 Zez Zg J hw) fun _ _=>dt (Xl J J)<|Zc<|Za<|Yp J<|Zk<|Za<|Zb<|Ze<|dt (Yv J J Dl J zT9 J J)<|dt (Qw (i:=1) J J J iA9 J)<|tt (Zh (n:=2) (Zdr _) J J J K1 call170 Zg J hw) fun v _=>tt (Zh (n:=2) (Zkl _ _) J J J K1 call168 (Zd 2 J J J Zg) J hw) fun _ _=>Zp J<|Zc<|Za<|Zq<|xU hsc results145 J J J
theorem Cl(x y:Int)(hx:bl x.natAbs≤65536:=by omega)(hy:bl y.natAbs≤65536:=by omega):On prog 82 #[wv x,wv y] [] (Zcd (x+y)):=by
 refine Yi func82 J ntmps82 J trivial fun w0 sc hw hsc=>?_
 simp only [Zu,Zt]
 have hb:=Ky x y
 refine Zb<|Ze<|tt (Yw (i:=1) J J J J J hw) fun b _=>tt (Yw (i:=2) J J J J J hw) fun b_2 _=>tt (Zy (i:=3) J J zeroValue31 J J hw) fun b_3 _=>Zp J<|Zc<|Za<|Zb<|Zb<|Ze<|dt (Yb (i:=1) J J J Xs Ye J J)<|dt (Yb (i:=2) J J J Xs Ye J J)<|tt (Zh (n:=3) (Hn _ _ ‹_› ‹_›) J J J K2 call129 Zg J hw) fun _ _=>dt (Xl J J)<|Zc<|Za<|Yp J<|Zk<|Za<|Zb<|Qs (fun _=>False) [(0,0),(2,0),(1,1),(3,1),(4,1),(5,1),(6,0),(7,0),(8,3),(9,3)] ?_ ?_
 ·kernel_rfl
 exact Zs J J (Yt (Yb (i:=1) J J J Xs Ye J J))<|Zs J J (Yt (Yb (i:=2) J J J Xs Ye J J))<|Xb J (Zh (n:=4) (Oj _ _ (Qb _)) J J J K1 Lh Zg J hw) fun g hg=>Xb J (Zh (n:=5) (Oj _ _ (Qb _)) J J J K1 Lh Zg J hw) fun g_2 hg_2=>Xb J (Zh (n:=6) (Zgn _ _ _ _ _ _ ‹_› ‹_›) J J J K2 call131 (Zd 4 J J J (Zd 5 J J J Zg)) J hw) fun g_3 hg_3=>Xb J (Zh (n:=6) (Hw _ _ _ ‹_›) J J J K1 call128 (Zd 6 J J J Zg) J hw) fun _ _=>Zs J J (Yt (Zz J J J))<|Zs J J (Yt (Zz J J J))<|Po J (Zl (i:=3) J J J J J J Ye J J ⟨Zf J,Zf J,trivial⟩ J hw trivial) fun _ _=>Po J (Od (Mb J J) J) fun _ _=>Ob<|Za<|Zq<|Yu (.inl J) hsc () _ (fun a w hs=>Og hs results82 (Xg (i:=3) J J Xs Ye J) J) J trivial J Zm
theorem Zp0(x y:Int)(hx:bl x.natAbs≤65536)(hy:bl y.natAbs≤65536):On prog 140 #[wv x,wv y] [] (Zcd (x-y)):=by
 refine Yi func140 J ntmps140 J trivial fun w0 sc hw hsc=>?_
 simp only [Zu,Zt]
 have hb:=Cj x y
 have hny:=Zlh y
 refine Zb<|Ze<|tt (Yw (i:=1) J J J J J hw) fun b _=>tt (Yw (i:=2) J J J J J hw) fun b_2 _=>tt (Zy (i:=3) J J zeroValue31 J J hw) fun b_3 _=>Zp J<|Zc<|Za<|Zb<|Zb<|Ze<|dt (Yb (i:=1) J J J Xs Ye J J)<|dt (Yb (i:=2) J J J Xs Ye J J)<|tt (Zh (n:=3) (Hn _ _ ‹_› ‹_›) J J J K2 call129 Zg J hw) fun _ _=>dt (Xl J J)<|Zc<|Za<|Yp J<|Zk<|Za<|Zb<|Qs (fun _=>False) [(0,0),(2,0),(1,1),(3,1),(4,1),(5,1),(6,1),(7,0),(8,0),(9,3),(10,3)] ?_ ?_
 ·kernel_rfl
 exact Zs J J (Yt (Yb (i:=1) J J J Xs Ye J J))<|Zs J J (Yt (Yb (i:=2) J J J Xs Ye J J))<|Xb J (Zh (n:=4) (Oj _ _ (Qb _)) J J J K1 Lh Zg J hw) fun g hg=>Xb J (Zh (n:=5) (Oj _ _ (Qb _)) J J J K1 Lh Zg J hw) fun g_2 hg_2=>Xb J (Zh (n:=6) (Zor _ _ _ ‹_›) J J J K1 call134 (Zd 5 J J J Zg) J hw) fun g_3 hg_3=>Xb J (Zh (n:=7) (Zgn _ _ _ _ _ _ ‹_› ‹_›) J J J K2 call131 (Zd 4 J J J (Zd 6 J J J Zg)) J hw) fun g_4 hg_4=>Xb J (Zh (n:=7) (Hw _ _ _ ‹_› (by rw [←Int.sub_eq_add_neg];omega)) J J J K1 call128 (Zd 7 J J J Zg) J hw) fun _ _=>Zs J J (Yt (Zz J J J))<|Zs J J (Yt (Zz J J J))<|Po J (Zl (i:=3) J J J J J J Ye J J ⟨Zf J,Zf J,trivial⟩ J hw trivial) fun _ _=>Po J (Od (Mb J J) J) fun _ _=>Ob<|Za<|Zq<|Yu (.inl J) hsc () _ (fun a w hs=>Og hs results140 (Xg (i:=3) J J Xs Ye J) J) (by rw [Int.sub_eq_add_neg]<;>rfl) trivial J Zm
theorem Bv(x y:Int)(hx:bl x.natAbs≤65536:=by omega)(hy:bl y.natAbs≤65536:=by omega):On prog 139 #[wv x,wv y] [] (Zcd (x*y)):=by
 refine Yi func139 J ntmps139 J trivial fun w0 sc hw hsc=>?_
 simp only [Zu,Zt]
 have hb:=Qk x y
 refine Zb<|Ze<|tt (Yw (i:=1) J J J J J hw) fun b _=>tt (Yw (i:=2) J J J J J hw) fun b_2 _=>tt (Zy (i:=3) J J zeroValue31 J J hw) fun b_3 _=>Zp J<|Zc<|Za<|Zb<|Zb<|Ze<|dt (Yb (i:=1) J J J Xs Ye J J)<|dt (Yb (i:=2) J J J Xs Ye J J)<|tt (Zh (n:=3) (Hn _ _ ‹_› ‹_›) J J J K2 call129 Zg J hw) fun _ _=>dt (Xl J J)<|Zc<|Za<|Yp J<|Zk<|Za<|Zb<|Qs (fun _=>False) [(0,0),(2,0),(1,1),(3,1),(4,1),(5,1),(6,0),(7,0),(8,3),(9,3)] ?_ ?_
 ·kernel_rfl
 exact Zs J J (Yt (Yb (i:=1) J J J Xs Ye J J))<|Zs J J (Yt (Yb (i:=2) J J J Xs Ye J J))<|Xb J (Zh (n:=4) (Oj _ _ (Qb _)) J J J K1 Lh Zg J hw) fun g hg=>Xb J (Zh (n:=5) (Oj _ _ (Qb _)) J J J K1 Lh Zg J hw) fun g_2 hg_2=>Xb J (Zh (n:=6) (Zd8 _ _ _ _ _ _ ‹_› ‹_›) J J J K2 call176 (Zd 4 J J J (Zd 5 J J J Zg)) J hw) fun g_3 hg_3=>Xb J (Zh (n:=6) (Hw _ _ _ ‹_›) J J J K1 call128 (Zd 6 J J J Zg) J hw) fun _ _=>Zs J J (Yt (Zz J J J))<|Zs J J (Yt (Zz J J J))<|Po J (Zl (i:=3) J J J J J J Ye J J ⟨Zf J,Zf J,trivial⟩ J hw trivial) fun _ _=>Po J (Od (Mb J J) J) fun _ _=>Ob<|Za<|Zq<|Yu (.inl J) hsc () _ (fun a w hs=>Og hs results139 (Xg (i:=3) J J Xs Ye J) J) J trivial J Zm
theorem Zyy(x y:Int)(hx:bl x.natAbs≤65536)(hy:bl y.natAbs≤65536):On prog 196 #[wv x,wv y] [] (Zcd (Int.gcd x y:Int)):=by
 refine Yi func196 J ntmps196 J trivial fun w0 sc hw hsc=>?_
 simp only [Zu,Zt]
 have hb:=Zt7 x.natAbs y.natAbs
 refine Zb<|Ze<|tt (Yw (i:=1) J J J J J hw) fun b _=>tt (Yw (i:=2) J J J J J hw) fun b_2 _=>tt (Zy (i:=3) J J zeroValue31 J J hw) fun b_3 _=>Zp J<|Zc<|Za<|Zb<|Zb<|Ze<|dt (Yb (i:=1) J J J Xs Ye J J)<|dt (Yb (i:=2) J J J Xs Ye J J)<|tt (Zh (n:=3) (Hn _ _ ‹_› ‹_›) J J J K2 call129 Zg J hw) fun _ _=>dt (Xl J J)<|Zc<|Za<|Yp J<|Zk<|Za<|Zb<|Qs (fun _=>False) [(0,0),(1,0),(3,0),(4,0),(2,1),(5,1),(6,1),(7,0),(8,1),(9,0),(10,0),(11,3),(12,3)] ?_ ?_
 ·kernel_rfl
 exact Zs J J (Yt (Yv J J Dl J zT9 J J))<|Zs J J (Yt (Qw (i:=1) J J J iA9 J))<|Zs J J (Yt (Yv J J Dl J zT9 J J))<|Zs J J (Yt (Qw (i:=2) J J J iA9 J))<|Xb J (Zh (n:=4) (Zdr _) J J J K1 call170 Zg J hw) fun v _=>Xb J (Zh (n:=5) (Zdr _) J J J K1 call170 Zg J hw) fun v_2 _=>Xb J (Zh (n:=6) (Zou _ _ _ _) J J J K2 call185 (Zd 4 J J J (Zd 5 J J J Zg)) J hw) fun v_3 _=>Zs J J (Yt (Oq (ivs:=[(0,_),(1,_)]) J K4 (fun a w hs=>Mh ((Zf J) a w hs) ((Zn (i:=6) J Zi) a w hs))))<|Xb J (Zh (n:=6) (Hw false _ (Int.gcd x y:Int) (by simp [sg]) (by show bl (Nat.gcd x.natAbs y.natAbs)≤_;omega)) J J J K1 call128 (Zd 6 J J J Zg) J hw) fun _ _=>Zs J J (Yt (Zz J J J))<|Zs J J (Yt (Zz J J J))<|Po J (Zl (i:=3) J J J J J J Ye J J ⟨Zf J,Zf J,trivial⟩ J hw trivial) fun _ _=>Po J (Od (Mb J J) J) fun _ _=>Ob<|Za<|Zq<|Yu (.inl J) hsc () _ (fun a w hs=>Og hs results196 (Xg (i:=3) J J Xs Ye J) J) J trivial J Zm
theorem Zat(x y:Int)(hx:bl x.natAbs≤65536)(hy:bl y.natAbs≤65536)(hy0:y≠0):On prog 158 #[wv x,wv y] [] (.tuple #[wv (Zbf (x/y)),wv (Zbf (x%y)),.int .i64 0]):=by
 refine Yi func158 J ntmps158 J trivial fun w0 sc hw hsc=>?_
 simp only [Zu,Zt]
 have hb:=Zjg x y
 have hb2:=Zpu x y hy0
 refine Zb<|Ze<|tt (Yw (i:=1) J J J J J hw) fun b _=>tt (Yw (i:=2) J J J J J hw) fun b_2 _=>tt (Zy (i:=3) J J zeroValue31 J J hw) fun b_3 _=>tt (Zy (i:=4) J J zeroValue31 J J hw) fun b_4 _=>Zp J<|Zc<|Za<|Zb<|Zb<|Ze<|dt (Yb (i:=1) J J J Xs Ye J J)<|dt (Yb (i:=2) J J J Xs Ye J J)<|tt (Zh (n:=4) (Hn _ _ ‹_› ‹_›) J J J K2 call129 Zg J hw) fun _ _=>dt (Xl J J)<|Zc<|Za<|Yp J<|Zk<|Za<|Zb<|Zb<|Ze<|dt (Yv J J Dl J zT9 J J)<|dt (Qw (i:=2) J J J iA9 J)<|dt (Zk8 J J J J)<|Zc<|Za<|Zr J (fun h337=>?_) (fun h337=>?_)
 ·rw [Hj]at h337
  exfalso;exact hy0 (by have:=(Nn (by omega:2≤256) y.natAbs).1 h337;omega)
 ·refine Zk<|Za<|Iz [(4,_),(5,_)] [(0,_),(1,_),(2,_),(3,_),(4,_)] (fun(q:Bool×Value×Value×Nat×Nat)=>[(7,.pointer (some ⟨q.2.2.2.1,0,none⟩)),(8,.pointer (some ⟨q.2.2.2.2,0,none⟩))]) (fun(q:Bool×Value×Value×Nat×Nat)=>[(84,Da q.2.1 (x/y).natAbs),(85,Da q.2.2.1 (x%y).natAbs),(86,box q.2.2.2.1 154 #[.bool q.1,q.2.1]),(87,box q.2.2.2.2 154 #[.bool false,q.2.2.1])]) (fun(q:Bool×Value×Value×Nat×Nat)=>sg q.1 (x/y)) K2 K5 ?_ ?_
  ·refine Nm [1,2] [11]<|Ya (n:=10) [(0,0),(2,0)]<|Zs J J (Xm (Yb (i:=1) J J J Xs Ye J J) K2)<|Zs J J (Xm (Yb (i:=2) J J J Xs Ye J J) K2)<|Yl<|Dm (n:=9) 1 8 9 ?_ ?_ ?_
   ·refine Yj J (Zh (n:=81) (Oj _ _ (Qb _)) J J J K1 Lh Zg J hw) fun g hg=>Dm (n:=8) 3 8 9 ?_ ?_ ?_
    ·refine Yj J (Zh (n:=82) (Oj _ _ (Qb _)) J J J K1 Lh Zg J hw) fun g_2 hg_2=>Dm (n:=7) 4 8 9 ?_ ?_ ?_
     ·refine Yj J (Zh (n:=84) (Oa _ _ _ _ _ _ ‹_› ‹_› (by omega) (by omega) hy0) J J J K2 Mn (Zd 81 J J J (Zd 82 J J J Zg)) J hw) fun g_3 hg_3=>Ya (n:=4) [(5,0),(6,0),(7,0)]<|Zs J J (Xm (Yd J J) K2)<|Zs J J (Xm (Zz J J J) K2)<|Zs J J (Xm (Zz J J J) K2)<|Yl<|Pb (n:=3) 8 9 ?_ ?_
      ·exact Yj J (Zv (i:=86) J J zeroValue154 J J hw K2) fun b_5 ho=>Ya (n:=0) [(9,1),(10,1),(11,3)]<|Xb J (Zv (i:=87) J J zeroValue154 J J hw K2) fun b_6 ho2=>Xb J (Zl (i:=86) J J J J J J Xi J J ⟨Zf J,Zn (i:=84) J Zi,trivial⟩ J hw ho) fun _ _=>Po J (Zl (i:=87) J J J J J J Xi J J ⟨Zf J,Zn (i:=85) J Zi,trivial⟩ J hw trivial) fun _ _=>Yl<|Yk<|Xo (_,_,_,_,_) ‹_› K4 K9
      ·exact Yj J (Zv (i:=87) J J zeroValue154 J J hw K2) fun b_7 ho3=>Ya (n:=0) [(8,1),(10,1),(11,3)]<|Xb J (Zv (i:=86) J J zeroValue154 J J hw K2) fun b_8 ho4=>Xb J (Zl (i:=86) J J J J J J Xi J J ⟨Zf J,Zn (i:=84) J Zi,trivial⟩ J hw ho4) fun _ _=>Po J (Zl (i:=87) J J J J J J Xi J J ⟨Zf J,Zn (i:=85) J Zi,trivial⟩ J hw trivial) fun _ _=>Yl<|Yk<|Xo (_,_,_,_,_) ‹_› K4 K9
     ·refine Yj J (Zv (i:=86) J J zeroValue154 J J hw K2) fun b_9 ho5=>Pb (n:=6) 4 9 ?_ ?_
      ·exact Yj J (Zh (n:=84) (Oa _ _ _ _ _ _ ‹_› ‹_› (by omega) (by omega) hy0) J J J K2 Mn (Zd 81 J J J (Zd 82 J J J Zg)) J hw) fun g_4 hg_4=>Ya (n:=0) [(5,0),(6,0),(7,0),(9,1),(10,1),(11,3)]<|Zs J J (Xm (Yd J J) K2)<|Zs J J (Xm (Zz J J J) K2)<|Zs J J (Xm (Zz J J J) K2)<|Xb J (Zv (i:=87) J J zeroValue154 J J hw K2) fun b_10 ho6=>Xb J (Zl (i:=86) J J J J J J Xi J J ⟨Zf J,Zn (i:=84) J Zi,trivial⟩ J hw ho5) fun _ _=>Po J (Zl (i:=87) J J J J J J Xi J J ⟨Zf J,Zn (i:=85) J Zi,trivial⟩ J hw trivial) fun _ _=>Yl<|Yk<|Xo (_,_,_,_,_) ‹_› K4 K9
      ·exact Yj J (Zv (i:=87) J J zeroValue154 J J hw K2) fun b_11 ho7=>Ya (n:=0) [(4,1),(5,0),(6,0),(7,0),(10,1),(11,3)]<|Xb J (Zh (n:=84) (Oa _ _ _ _ _ _ ‹_› ‹_› (by omega) (by omega) hy0) J J J K2 Mn (Zd 81 J J J (Zd 82 J J J Zg)) J hw) fun g_5 hg_5=>Zs J J (Xm (Yd J J) K2)<|Zs J J (Xm (Zz J J J) K2)<|Zs J J (Xm (Zz J J J) K2)<|Xb J (Zl (i:=86) J J J J J J Xi J J ⟨Zf J,Zn (i:=84) J Zi,trivial⟩ J hw ho5) fun _ _=>Po J (Zl (i:=87) J J J J J J Xi J J ⟨Zf J,Zn (i:=85) J Zi,trivial⟩ J hw trivial) fun _ _=>Yl<|Yk<|Xo (_,_,_,_,_) ‹_› K4 K9
     ·refine Yj J (Zv (i:=87) J J zeroValue154 J J hw K2) fun b_12 ho8=>Pb (n:=6) 4 8 ?_ ?_
      ·exact Yj J (Zh (n:=84) (Oa _ _ _ _ _ _ ‹_› ‹_› (by omega) (by omega) hy0) J J J K2 Mn (Zd 81 J J J (Zd 82 J J J Zg)) J hw) fun g_6 hg_6=>Ya (n:=0) [(5,0),(6,0),(7,0),(8,1),(10,1),(11,3)]<|Zs J J (Xm (Yd J J) K2)<|Zs J J (Xm (Zz J J J) K2)<|Zs J J (Xm (Zz J J J) K2)<|Xb J (Zv (i:=86) J J zeroValue154 J J hw K2) fun b_13 ho9=>Xb J (Zl (i:=86) J J J J J J Xi J J ⟨Zf J,Zn (i:=84) J Zi,trivial⟩ J hw ho9) fun _ _=>Po J (Zl (i:=87) J J J J J J Xi J J ⟨Zf J,Zn (i:=85) J Zi,trivial⟩ J hw trivial) fun _ _=>Yl<|Yk<|Xo (_,_,_,_,_) ‹_› K4 K9
      ·exact Yj J (Zv (i:=86) J J zeroValue154 J J hw K2) fun b_14 ho10=>Ya (n:=0) [(4,1),(5,0),(6,0),(7,0),(10,1),(11,3)]<|Xb J (Zh (n:=84) (Oa _ _ _ _ _ _ ‹_› ‹_› (by omega) (by omega) hy0) J J J K2 Mn (Zd 81 J J J (Zd 82 J J J Zg)) J hw) fun g_7 hg_7=>Zs J J (Xm (Yd J J) K2)<|Zs J J (Xm (Zz J J J) K2)<|Zs J J (Xm (Zz J J J) K2)<|Xb J (Zl (i:=86) J J J J J J Xi J J ⟨Zf J,Zn (i:=84) J Zi,trivial⟩ J hw ho10) fun _ _=>Po J (Zl (i:=87) J J J J J J Xi J J ⟨Zf J,Zn (i:=85) J Zi,trivial⟩ J hw trivial) fun _ _=>Yl<|Yk<|Xo (_,_,_,_,_) ‹_› K4 K9
    ·refine Yj J (Zv (i:=86) J J zeroValue154 J J hw K2) fun b_15 ho11=>Pb (n:=7) 3 9 ?_ ?_
     ·refine Yj J (Zh (n:=82) (Oj _ _ (Qb _)) J J J K1 Lh Zg J hw) fun g_8 hg_8=>Pb (n:=6) 4 9 ?_ ?_
      ·exact Yj J (Zh (n:=84) (Oa _ _ _ _ _ _ ‹_› ‹_› (by omega) (by omega) hy0) J J J K2 Mn (Zd 81 J J J (Zd 82 J J J Zg)) J hw) fun g_9 hg_9=>Ya (n:=0) [(5,0),(6,0),(7,0),(9,1),(10,1),(11,3)]<|Zs J J (Xm (Yd J J) K2)<|Zs J J (Xm (Zz J J J) K2)<|Zs J J (Xm (Zz J J J) K2)<|Xb J (Zv (i:=87) J J zeroValue154 J J hw K2) fun b_16 ho12=>Xb J (Zl (i:=86) J J J J J J Xi J J ⟨Zf J,Zn (i:=84) J Zi,trivial⟩ J hw ho11) fun _ _=>Po J (Zl (i:=87) J J J J J J Xi J J ⟨Zf J,Zn (i:=85) J Zi,trivial⟩ J hw trivial) fun _ _=>Yl<|Yk<|Xo (_,_,_,_,_) ‹_› K4 K9
      ·exact Yj J (Zv (i:=87) J J zeroValue154 J J hw K2) fun b_17 ho13=>Ya (n:=0) [(4,1),(5,0),(6,0),(7,0),(10,1),(11,3)]<|Xb J (Zh (n:=84) (Oa _ _ _ _ _ _ ‹_› ‹_› (by omega) (by omega) hy0) J J J K2 Mn (Zd 81 J J J (Zd 82 J J J Zg)) J hw) fun g_10 hg_10=>Zs J J (Xm (Yd J J) K2)<|Zs J J (Xm (Zz J J J) K2)<|Zs J J (Xm (Zz J J J) K2)<|Xb J (Zl (i:=86) J J J J J J Xi J J ⟨Zf J,Zn (i:=84) J Zi,trivial⟩ J hw ho11) fun _ _=>Po J (Zl (i:=87) J J J J J J Xi J J ⟨Zf J,Zn (i:=85) J Zi,trivial⟩ J hw trivial) fun _ _=>Yl<|Yk<|Xo (_,_,_,_,_) ‹_› K4 K9
     ·exact Yj J (Zv (i:=87) J J zeroValue154 J J hw K2) fun b_18 ho14=>Ya (n:=0) [(3,1),(4,1),(5,0),(6,0),(7,0),(10,1),(11,3)]<|Xb J (Zh (n:=82) (Oj _ _ (Qb _)) J J J K1 Lh Zg J hw) fun g_11 hg_11=>Xb J (Zh (n:=84) (Oa _ _ _ _ _ _ ‹_› ‹_› (by omega) (by omega) hy0) J J J K2 Mn (Zd 81 J J J (Zd 82 J J J Zg)) J hw) fun g_12 hg_12=>Zs J J (Xm (Yd J J) K2)<|Zs J J (Xm (Zz J J J) K2)<|Zs J J (Xm (Zz J J J) K2)<|Xb J (Zl (i:=86) J J J J J J Xi J J ⟨Zf J,Zn (i:=84) J Zi,trivial⟩ J hw ho11) fun _ _=>Po J (Zl (i:=87) J J J J J J Xi J J ⟨Zf J,Zn (i:=85) J Zi,trivial⟩ J hw trivial) fun _ _=>Yl<|Yk<|Xo (_,_,_,_,_) ‹_› K4 K9
    ·refine Yj J (Zv (i:=87) J J zeroValue154 J J hw K2) fun b_19 ho15=>Pb (n:=7) 3 8 ?_ ?_
     ·refine Yj J (Zh (n:=82) (Oj _ _ (Qb _)) J J J K1 Lh Zg J hw) fun g_13 hg_13=>Pb (n:=6) 4 8 ?_ ?_
      ·exact Yj J (Zh (n:=84) (Oa _ _ _ _ _ _ ‹_› ‹_› (by omega) (by omega) hy0) J J J K2 Mn (Zd 81 J J J (Zd 82 J J J Zg)) J hw) fun g_14 hg_14=>Ya (n:=0) [(5,0),(6,0),(7,0),(8,1),(10,1),(11,3)]<|Zs J J (Xm (Yd J J) K2)<|Zs J J (Xm (Zz J J J) K2)<|Zs J J (Xm (Zz J J J) K2)<|Xb J (Zv (i:=86) J J zeroValue154 J J hw K2) fun b_20 ho16=>Xb J (Zl (i:=86) J J J J J J Xi J J ⟨Zf J,Zn (i:=84) J Zi,trivial⟩ J hw ho16) fun _ _=>Po J (Zl (i:=87) J J J J J J Xi J J ⟨Zf J,Zn (i:=85) J Zi,trivial⟩ J hw trivial) fun _ _=>Yl<|Yk<|Xo (_,_,_,_,_) ‹_› K4 K9
      ·exact Yj J (Zv (i:=86) J J zeroValue154 J J hw K2) fun b_21 ho17=>Ya (n:=0) [(4,1),(5,0),(6,0),(7,0),(10,1),(11,3)]<|Xb J (Zh (n:=84) (Oa _ _ _ _ _ _ ‹_› ‹_› (by omega) (by omega) hy0) J J J K2 Mn (Zd 81 J J J (Zd 82 J J J Zg)) J hw) fun g_15 hg_15=>Zs J J (Xm (Yd J J) K2)<|Zs J J (Xm (Zz J J J) K2)<|Zs J J (Xm (Zz J J J) K2)<|Xb J (Zl (i:=86) J J J J J J Xi J J ⟨Zf J,Zn (i:=84) J Zi,trivial⟩ J hw ho17) fun _ _=>Po J (Zl (i:=87) J J J J J J Xi J J ⟨Zf J,Zn (i:=85) J Zi,trivial⟩ J hw trivial) fun _ _=>Yl<|Yk<|Xo (_,_,_,_,_) ‹_› K4 K9
     ·exact Yj J (Zv (i:=86) J J zeroValue154 J J hw K2) fun b_22 ho18=>Ya (n:=0) [(3,1),(4,1),(5,0),(6,0),(7,0),(10,1),(11,3)]<|Xb J (Zh (n:=82) (Oj _ _ (Qb _)) J J J K1 Lh Zg J hw) fun g_16 hg_16=>Xb J (Zh (n:=84) (Oa _ _ _ _ _ _ ‹_› ‹_› (by omega) (by omega) hy0) J J J K2 Mn (Zd 81 J J J (Zd 82 J J J Zg)) J hw) fun g_17 hg_17=>Zs J J (Xm (Yd J J) K2)<|Zs J J (Xm (Zz J J J) K2)<|Zs J J (Xm (Zz J J J) K2)<|Xb J (Zl (i:=86) J J J J J J Xi J J ⟨Zf J,Zn (i:=84) J Zi,trivial⟩ J hw ho18) fun _ _=>Po J (Zl (i:=87) J J J J J J Xi J J ⟨Zf J,Zn (i:=85) J Zi,trivial⟩ J hw trivial) fun _ _=>Yl<|Yk<|Xo (_,_,_,_,_) ‹_› K4 K9
   ·refine Yj J (Zv (i:=86) J J zeroValue154 J J hw K2) fun b_23 ho19=>Pb (n:=8) 1 9 ?_ ?_
    ·refine Yj J (Zh (n:=81) (Oj _ _ (Qb _)) J J J K1 Lh Zg J hw) fun g_18 hg_18=>Pb (n:=7) 3 9 ?_ ?_
     ·refine Yj J (Zh (n:=82) (Oj _ _ (Qb _)) J J J K1 Lh Zg J hw) fun g_19 hg_19=>Pb (n:=6) 4 9 ?_ ?_
      ·exact Yj J (Zh (n:=84) (Oa _ _ _ _ _ _ ‹_› ‹_› (by omega) (by omega) hy0) J J J K2 Mn (Zd 81 J J J (Zd 82 J J J Zg)) J hw) fun g_20 hg_20=>Ya (n:=0) [(5,0),(6,0),(7,0),(9,1),(10,1),(11,3)]<|Zs J J (Xm (Yd J J) K2)<|Zs J J (Xm (Zz J J J) K2)<|Zs J J (Xm (Zz J J J) K2)<|Xb J (Zv (i:=87) J J zeroValue154 J J hw K2) fun b_24 ho20=>Xb J (Zl (i:=86) J J J J J J Xi J J ⟨Zf J,Zn (i:=84) J Zi,trivial⟩ J hw ho19) fun _ _=>Po J (Zl (i:=87) J J J J J J Xi J J ⟨Zf J,Zn (i:=85) J Zi,trivial⟩ J hw trivial) fun _ _=>Yl<|Yk<|Xo (_,_,_,_,_) ‹_› K4 K9
      ·exact Yj J (Zv (i:=87) J J zeroValue154 J J hw K2) fun b_25 ho21=>Ya (n:=0) [(4,1),(5,0),(6,0),(7,0),(10,1),(11,3)]<|Xb J (Zh (n:=84) (Oa _ _ _ _ _ _ ‹_› ‹_› (by omega) (by omega) hy0) J J J K2 Mn (Zd 81 J J J (Zd 82 J J J Zg)) J hw) fun g_21 hg_21=>Zs J J (Xm (Yd J J) K2)<|Zs J J (Xm (Zz J J J) K2)<|Zs J J (Xm (Zz J J J) K2)<|Xb J (Zl (i:=86) J J J J J J Xi J J ⟨Zf J,Zn (i:=84) J Zi,trivial⟩ J hw ho19) fun _ _=>Po J (Zl (i:=87) J J J J J J Xi J J ⟨Zf J,Zn (i:=85) J Zi,trivial⟩ J hw trivial) fun _ _=>Yl<|Yk<|Xo (_,_,_,_,_) ‹_› K4 K9
     ·exact Yj J (Zv (i:=87) J J zeroValue154 J J hw K2) fun b_26 ho22=>Ya (n:=0) [(3,1),(4,1),(5,0),(6,0),(7,0),(10,1),(11,3)]<|Xb J (Zh (n:=82) (Oj _ _ (Qb _)) J J J K1 Lh Zg J hw) fun g_22 hg_22=>Xb J (Zh (n:=84) (Oa _ _ _ _ _ _ ‹_› ‹_› (by omega) (by omega) hy0) J J J K2 Mn (Zd 81 J J J (Zd 82 J J J Zg)) J hw) fun g_23 hg_23=>Zs J J (Xm (Yd J J) K2)<|Zs J J (Xm (Zz J J J) K2)<|Zs J J (Xm (Zz J J J) K2)<|Xb J (Zl (i:=86) J J J J J J Xi J J ⟨Zf J,Zn (i:=84) J Zi,trivial⟩ J hw ho19) fun _ _=>Po J (Zl (i:=87) J J J J J J Xi J J ⟨Zf J,Zn (i:=85) J Zi,trivial⟩ J hw trivial) fun _ _=>Yl<|Yk<|Xo (_,_,_,_,_) ‹_› K4 K9
    ·exact Yj J (Zv (i:=87) J J zeroValue154 J J hw K2) fun b_27 ho23=>Ya (n:=0) [(1,1),(3,1),(4,1),(5,0),(6,0),(7,0),(10,1),(11,3)]<|Xb J (Zh (n:=81) (Oj _ _ (Qb _)) J J J K1 Lh Zg J hw) fun g_24 hg_24=>Xb J (Zh (n:=82) (Oj _ _ (Qb _)) J J J K1 Lh Zg J hw) fun g_25 hg_25=>Xb J (Zh (n:=84) (Oa _ _ _ _ _ _ ‹_› ‹_› (by omega) (by omega) hy0) J J J K2 Mn (Zd 81 J J J (Zd 82 J J J Zg)) J hw) fun g_26 hg_26=>Zs J J (Xm (Yd J J) K2)<|Zs J J (Xm (Zz J J J) K2)<|Zs J J (Xm (Zz J J J) K2)<|Xb J (Zl (i:=86) J J J J J J Xi J J ⟨Zf J,Zn (i:=84) J Zi,trivial⟩ J hw ho19) fun _ _=>Po J (Zl (i:=87) J J J J J J Xi J J ⟨Zf J,Zn (i:=85) J Zi,trivial⟩ J hw trivial) fun _ _=>Yl<|Yk<|Xo (_,_,_,_,_) ‹_› K4 K9
   ·refine Yj J (Zv (i:=87) J J zeroValue154 J J hw K2) fun b_28 ho24=>Pb (n:=8) 1 8 ?_ ?_
    ·refine Yj J (Zh (n:=81) (Oj _ _ (Qb _)) J J J K1 Lh Zg J hw) fun g_27 hg_27=>Pb (n:=7) 3 8 ?_ ?_
     ·refine Yj J (Zh (n:=82) (Oj _ _ (Qb _)) J J J K1 Lh Zg J hw) fun g_28 hg_28=>Pb (n:=6) 4 8 ?_ ?_
      ·exact Yj J (Zh (n:=84) (Oa _ _ _ _ _ _ ‹_› ‹_› (by omega) (by omega) hy0) J J J K2 Mn (Zd 81 J J J (Zd 82 J J J Zg)) J hw) fun g_29 hg_29=>Ya (n:=0) [(5,0),(6,0),(7,0),(8,1),(10,1),(11,3)]<|Zs J J (Xm (Yd J J) K2)<|Zs J J (Xm (Zz J J J) K2)<|Zs J J (Xm (Zz J J J) K2)<|Xb J (Zv (i:=86) J J zeroValue154 J J hw K2) fun b_29 ho25=>Xb J (Zl (i:=86) J J J J J J Xi J J ⟨Zf J,Zn (i:=84) J Zi,trivial⟩ J hw ho25) fun _ _=>Po J (Zl (i:=87) J J J J J J Xi J J ⟨Zf J,Zn (i:=85) J Zi,trivial⟩ J hw trivial) fun _ _=>Yl<|Yk<|Xo (_,_,_,_,_) ‹_› K4 K9
      ·exact Yj J (Zv (i:=86) J J zeroValue154 J J hw K2) fun b_30 ho26=>Ya (n:=0) [(4,1),(5,0),(6,0),(7,0),(10,1),(11,3)]<|Xb J (Zh (n:=84) (Oa _ _ _ _ _ _ ‹_› ‹_› (by omega) (by omega) hy0) J J J K2 Mn (Zd 81 J J J (Zd 82 J J J Zg)) J hw) fun g_30 hg_30=>Zs J J (Xm (Yd J J) K2)<|Zs J J (Xm (Zz J J J) K2)<|Zs J J (Xm (Zz J J J) K2)<|Xb J (Zl (i:=86) J J J J J J Xi J J ⟨Zf J,Zn (i:=84) J Zi,trivial⟩ J hw ho26) fun _ _=>Po J (Zl (i:=87) J J J J J J Xi J J ⟨Zf J,Zn (i:=85) J Zi,trivial⟩ J hw trivial) fun _ _=>Yl<|Yk<|Xo (_,_,_,_,_) ‹_› K4 K9
     ·exact Yj J (Zv (i:=86) J J zeroValue154 J J hw K2) fun b_31 ho27=>Ya (n:=0) [(3,1),(4,1),(5,0),(6,0),(7,0),(10,1),(11,3)]<|Xb J (Zh (n:=82) (Oj _ _ (Qb _)) J J J K1 Lh Zg J hw) fun g_31 hg_31=>Xb J (Zh (n:=84) (Oa _ _ _ _ _ _ ‹_› ‹_› (by omega) (by omega) hy0) J J J K2 Mn (Zd 81 J J J (Zd 82 J J J Zg)) J hw) fun g_32 hg_32=>Zs J J (Xm (Yd J J) K2)<|Zs J J (Xm (Zz J J J) K2)<|Zs J J (Xm (Zz J J J) K2)<|Xb J (Zl (i:=86) J J J J J J Xi J J ⟨Zf J,Zn (i:=84) J Zi,trivial⟩ J hw ho27) fun _ _=>Po J (Zl (i:=87) J J J J J J Xi J J ⟨Zf J,Zn (i:=85) J Zi,trivial⟩ J hw trivial) fun _ _=>Yl<|Yk<|Xo (_,_,_,_,_) ‹_› K4 K9
    ·exact Yj J (Zv (i:=86) J J zeroValue154 J J hw K2) fun b_32 ho28=>Ya (n:=0) [(1,1),(3,1),(4,1),(5,0),(6,0),(7,0),(10,1),(11,3)]<|Xb J (Zh (n:=81) (Oj _ _ (Qb _)) J J J K1 Lh Zg J hw) fun g_33 hg_33=>Xb J (Zh (n:=82) (Oj _ _ (Qb _)) J J J K1 Lh Zg J hw) fun g_34 hg_34=>Xb J (Zh (n:=84) (Oa _ _ _ _ _ _ ‹_› ‹_› (by omega) (by omega) hy0) J J J K2 Mn (Zd 81 J J J (Zd 82 J J J Zg)) J hw) fun g_35 hg_35=>Zs J J (Xm (Yd J J) K2)<|Zs J J (Xm (Zz J J J) K2)<|Zs J J (Xm (Zz J J J) K2)<|Xb J (Zl (i:=86) J J J J J J Xi J J ⟨Zf J,Zn (i:=84) J Zi,trivial⟩ J hw ho28) fun _ _=>Po J (Zl (i:=87) J J J J J J Xi J J ⟨Zf J,Zn (i:=85) J Zi,trivial⟩ J hw trivial) fun _ _=>Yl<|Yk<|Xo (_,_,_,_,_) ‹_› K4 K9
  ·rintro⟨qb,qv,rv,b7,b8⟩ hq
   dsimp only at hq
   simp only [CA,NA]
   exact Zb<|Ze<|dt (Yb (i:=86) J J J Lp Xi J J)<|tt (Zh (n:=4) (Hw _ _ _ ‹_›) J J J K1 call128 (Zd 84 J J J Zg) J hw) fun _ _=>mv J<|dt (Zz J J J)<|dt (Zz J J J)<|tt (Zl (i:=3) J J J J J J Ye J J ⟨Zf J,Zf J,trivial⟩ J hw trivial) fun _ _=>Zc<|Za<|Zb<|Ze<|dt (Yb (i:=87) J J J Lp Xi J J)<|tt (Zh (n:=4) (Hw _ _ _ (Ydw x hy0)) J J J K1 call128 (Zd 85 J J J Zg) J hw) fun _ _=>mv J<|dt (Zz J J J)<|dt (Zz J J J)<|tt (Zl (i:=4) J J J J J J Ye J J ⟨Zf J,Zf J,trivial⟩ J hw trivial) fun _ _=>Zc<|Za<|Zb<|Nm [4] [3,4]<|Ya (n:=0) [(1,0),(0,1),(2,1),(3,3),(4,3)]<|Zs J J (Xm (Yb (i:=4) J J J Xs Ye J J) K1)<|Xb J (Od (Yb (i:=3) J J J Xs Ye J J) J) fun _ _=>Xb J (Zcp 3 J J K1 (fun ob=>Zl (i:=3) J J J J J J Ye J J ⟨Zf J,Zf J,trivial⟩ J hw ob)) fun _ _=>Po J (Zl (i:=4) J J J J J J Ye J J ⟨Zf J,Zf J,trivial⟩ J hw trivial) fun _ _=>Po J (Od (Mb J J) J) fun _ _=>Yl<|Yk<|Za<|Zq<|Yu (.inl J) hsc () _ (fun a w hs=>Zz9 hs results158 (Xg (i:=3) J J Xs Ye J) (Xg (i:=4) J J Xs Ye J) J) J trivial J Zm
theorem Zcm(s t:Bool)(v w:Value)(x y:Int)(hs:sg s x)(ht:sg t y)(hy0:y≠0)(hx:bl x.natAbs≤1000000000:=by omega)(hy:bl y.natAbs≤1000000000:=by omega):On prog 163 #[.agg #[.bool s,v],.agg #[.bool t,w]] [Da v x.natAbs,Da w y.natAbs] (Zc0 x y):=by
 refine Yi func163 J ntmps163 J K2 fun w0 sc hw hsc=>?_
 simp only [Zu,Zt]
 have hb:=Zt7 x.natAbs y.natAbs
 have hg0:Kw x y≠0:=Yev hy0
 have hgs:sg t (Kw x y):=Ydu ht hy0
 have hga:=Zc6 x y
 have hq1:=Zjg x (Kw x y)
 have hq2:=Zjg y (Kw x y)
 refine Zb<|Ze<|tt (Yw (i:=3) J J J J J hw) fun b _=>tt (Yw (i:=4) J J J J J hw) fun b_2 _=>tt (Zy (i:=5) J J zeroValue41 J J hw) fun b_3 _=>Zp J<|Zc<|Za<|Zb<|Fs (fun _=>False) [9]<|Ya (n:=4) [(0,0),(1,0),(2,0),(3,0),(4,0),(5,0)]<|Zs J J (Yt (Yv J J Mx J zT4 J J))<|Zs J J (Yt (Qw (i:=4) J J J iA4 J))<|Zs J J (Yt (Yv J J Mx J Fe J J))<|Zs J J (Yt (Qw (i:=3) J J J Fn J))<|Zs J J (Yt (Yv J J Mx J Fe J J))<|Zs J J (Yt (Qw (i:=4) J J J Fn J))<|Yl<|Pb (n:=3) 6 8 ?_ ?_
 ·refine Yj J (Zh (n:=81) (Zou _ _ _ _) J J J K2 call185 (Zd 1 J J J (Zd 2 J J J Zg)) J hw) fun v _=>Ya (n:=0) [(7,0),(8,1),(9,3)]<|Zs J J (Yt (Oq (ivs:=[(0,_),(1,_)]) J K4 (fun a w hs=>Mh ((Zf J) a w hs) ((Zn (i:=81) J Zi) a w hs))))<|Xb J (Zy (i:=82) J J zeroValue154 J J hw) fun b_4 _=>Po J (Zl (i:=82) J J J J J J Xi J J ⟨Zf J,Zn (i:=81) J Zi,trivial⟩ J hw trivial) fun _ _=>Yl<|Yk<|Za<|Zb<|Yo (Gz 81 (Zvx _ x y) J J)<|Ze<|dt (Yb (i:=3) J J J Lp Xi J J)<|dt (Yb (i:=82) J J J Lp Xi J J)<|tt (Zh (n:=6) (Oa _ _ _ _ x (Kw x y) hs hgs (by omega) (by rw [hga];omega) hg0) J J J K2 Mn (Zd 1 J J J (Zd 81 J J J Zg)) J hw) fun g hg=>mv J<|dt (Zz J J J)<|dt (Zz J J J)<|tt (Zl (i:=3) J J J J J J Xi J J ⟨Zf J,Zn (i:=6) J Zi,trivial⟩ J hw trivial) fun _ _=>Zc<|Za<|Zb<|Ze<|dt (Yb (i:=4) J J J Lp Xi J J)<|dt (Yb (i:=82) J J J Lp Xi J J)<|tt (Zh (n:=8) (Oa _ _ _ _ y (Kw x y) ht hgs (by omega) (by rw [hga];omega) hg0) J J J K2 Mn (Zd 2 J J J (Zd 81 J J J Zg)) J hw) fun g_2 hg_2=>mv J<|dt (Zz J J J) ?_
  refine dt (Zz J J J)<|tt (Zl (i:=4) J J J J J J Xi J J ⟨Zf J,Zn (i:=8) J Zi,trivial⟩ J hw trivial) fun _ _=>Zc<|Za<|Zb<|Ze<|dt (Yb (i:=3) J J J Lp Xi J J)<|tt (Zh (n:=9) (Hw _ _ _ ‹_›) J J J K1 call128 (Zd 6 J J J Zg) J hw) fun _ _=>mv J<|dt (Zz J J J)<|dt (Zz J J J)<|tt (Zy (i:=10) J J zeroValue31 J J hw) fun b_5 _=>tt (Zl (i:=10) J J J J J J Ye J J ⟨Zf J,Zf J,trivial⟩ J hw trivial) fun _ _=>Zp J<|Zc<|Za<|Zb<|Ze<|dt (Yb (i:=4) J J J Lp Xi J J)<|tt (Zh (n:=10) (Hw _ _ _ ‹_›) J J J K1 call128 (Zd 8 J J J Zg) J hw) fun _ _=>mv J<|dt (Zz J J J)<|dt (Zz J J J)<|tt (Zy (i:=11) J J zeroValue31 J J hw) fun b_6 _=>tt (Zl (i:=11) J J J J J J Ye J J ⟨Zf J,Zf J,trivial⟩ J hw trivial) fun _ _=>Zp J<|Zc<|Za<|Zb<|Zb<|Ze<|mv J<|dt (Xz J J J)<|mv J<|Pf (d:=43) J (fun s460=>?_) (fun s460=>?_)
  ·exact Xt J J J<|Xt J J J<|dt (Yy J J J)<|Zc<|Za<|Pv J<|Zb<|Ze<|dt (Oq (ivs:=[]) J trivial (fun a w hs=>Yc2))<|tt (Zl (i:=5) J J J J J J Yr J J ⟨Zf J,Zf J,Zf J,Zf J,trivial⟩ J hw trivial) fun _ _=>Zp J<|Zc<|Za<|Zq<|Yn<|Yu (.inl J) hsc () _ (fun a w hs=>Og hs results163 (Xg (i:=5) J J Xq Yr J) J) (Zbz (by unfold He;first | exact .inl (Zae ‹_›) | exact .inr (Zae ‹_›))) trivial J Zm
  ·refine Xh (Yd J J) J J<|Xh (Xz J J J) J J<|dt (Yh J J J)<|Zc<|Za<|Zr J (fun h460=>?_) (fun h460=>?_)
   ·exact Zb<|Ze<|dt (Oq (ivs:=[]) J trivial (fun a w hs=>Yc2))<|tt (Zl (i:=5) J J J J J J Yr J J ⟨Zf J,Zf J,Zf J,Zf J,trivial⟩ J hw trivial) fun _ _=>Zp J<|Zc<|Za<|Zq<|Yn<|Yu (.inl J) hsc () _ (fun a w hs=>Og hs results163 (Xg (i:=5) J J Xq Yr J) J) (Zbz (by unfold He;first | exact .inl (Zae ‹_›) | exact .inr (Zae ‹_›))) trivial J Zm
   ·exact Zk<|Za<|Zb<|Ze<|dt (Yb (i:=10) J J J Xs Ye J J)<|dt (Yb (i:=11) J J J Xs Ye J J)<|dt (Oq (ivs:=[(0,_),(1,_)]) J K4 (fun a w hs=>Zfn))<|tt (Zl (i:=5) J J J J J J Yr J J ⟨Zf J,Zf J,Zf J,Zf J,trivial⟩ J hw trivial) fun _ _=>Zp J<|Zc<|Za<|Zq<|Yu (.inl J) hsc () _ (fun a w hs=>Og hs results163 (Xg (i:=5) J J Xq Yr J) J) (Zqt (Decidable.byContradiction ‹_›) (Decidable.byContradiction ‹_›)) trivial J Zm
 ·refine Yj J (Zy (i:=82) J J zeroValue154 J J hw) fun b_7 _=>Ya (n:=0) [(6,1),(7,0),(9,3)]<|Xb J (Zh (n:=81) (Zou _ _ _ _) J J J K2 call185 (Zd 1 J J J (Zd 2 J J J Zg)) J hw) fun v_2 _=>Zs J J (Yt (Oq (ivs:=[(0,_),(1,_)]) J K4 (fun a w hs=>Mh ((Zf J) a w hs) ((Zn (i:=81) J Zi) a w hs))))<|Po J (Zl (i:=82) J J J J J J Xi J J ⟨Zf J,Zn (i:=81) J Zi,trivial⟩ J hw trivial) fun _ _=>Yl<|Yk<|Za<|Zb<|Yo (Gz 81 (Zvx _ x y) J J)<|Ze<|dt (Yb (i:=3) J J J Lp Xi J J)<|dt (Yb (i:=82) J J J Lp Xi J J)<|tt (Zh (n:=12) (Oa _ _ _ _ x (Kw x y) hs hgs (by omega) (by rw [hga];omega) hg0) J J J K2 Mn (Zd 1 J J J (Zd 81 J J J Zg)) J hw) fun g_3 hg_3=>mv J<|dt (Zz J J J)<|dt (Zz J J J)<|tt (Zl (i:=3) J J J J J J Xi J J ⟨Zf J,Zn (i:=12) J Zi,trivial⟩ J hw trivial) fun _ _=>Zc<|Za<|Zb<|Ze<|dt (Yb (i:=4) J J J Lp Xi J J)<|dt (Yb (i:=82) J J J Lp Xi J J)<|tt (Zh (n:=14) (Oa _ _ _ _ y (Kw x y) ht hgs (by omega) (by rw [hga];omega) hg0) J J J K2 Mn (Zd 2 J J J (Zd 81 J J J Zg)) J hw) fun g_4 hg_4=>mv J<|dt (Zz J J J) ?_
  refine dt (Zz J J J)<|tt (Zl (i:=4) J J J J J J Xi J J ⟨Zf J,Zn (i:=14) J Zi,trivial⟩ J hw trivial) fun _ _=>Zc<|Za<|Zb<|Ze<|dt (Yb (i:=3) J J J Lp Xi J J)<|tt (Zh (n:=15) (Hw _ _ _ ‹_›) J J J K1 call128 (Zd 12 J J J Zg) J hw) fun _ _=>mv J<|dt (Zz J J J)<|dt (Zz J J J)<|tt (Zy (i:=16) J J zeroValue31 J J hw) fun b_8 _=>tt (Zl (i:=16) J J J J J J Ye J J ⟨Zf J,Zf J,trivial⟩ J hw trivial) fun _ _=>Zp J<|Zc<|Za<|Zb<|Ze<|dt (Yb (i:=4) J J J Lp Xi J J)<|tt (Zh (n:=16) (Hw _ _ _ ‹_›) J J J K1 call128 (Zd 14 J J J Zg) J hw) fun _ _=>mv J<|dt (Zz J J J)<|dt (Zz J J J)<|tt (Zy (i:=17) J J zeroValue31 J J hw) fun b_9 _=>tt (Zl (i:=17) J J J J J J Ye J J ⟨Zf J,Zf J,trivial⟩ J hw trivial) fun _ _=>Zp J<|Zc<|Za<|Zb<|Zb<|Ze<|mv J<|dt (Xz J J J)<|mv J<|Pf (d:=43) J (fun s460_2=>?_) (fun s460_2=>?_)
  ·exact Xt J J J<|Xt J J J<|dt (Yy J J J)<|Zc<|Za<|Pv J<|Zb<|Ze<|dt (Oq (ivs:=[]) J trivial (fun a w hs=>Yc2))<|tt (Zl (i:=5) J J J J J J Yr J J ⟨Zf J,Zf J,Zf J,Zf J,trivial⟩ J hw trivial) fun _ _=>Zp J<|Zc<|Za<|Zq<|Yn<|Yu (.inl J) hsc () _ (fun a w hs=>Og hs results163 (Xg (i:=5) J J Xq Yr J) J) (Zbz (by unfold He;first | exact .inl (Zae ‹_›) | exact .inr (Zae ‹_›))) trivial J Zm
  ·refine Xh (Yd J J) J J<|Xh (Xz J J J) J J<|dt (Yh J J J)<|Zc<|Za<|Zr J (fun h460_2=>?_) (fun h460_2=>?_)
   ·exact Zb<|Ze<|dt (Oq (ivs:=[]) J trivial (fun a w hs=>Yc2))<|tt (Zl (i:=5) J J J J J J Yr J J ⟨Zf J,Zf J,Zf J,Zf J,trivial⟩ J hw trivial) fun _ _=>Zp J<|Zc<|Za<|Zq<|Yn<|Yu (.inl J) hsc () _ (fun a w hs=>Og hs results163 (Xg (i:=5) J J Xq Yr J) J) (Zbz (by unfold He;first | exact .inl (Zae ‹_›) | exact .inr (Zae ‹_›))) trivial J Zm
   ·exact Zk<|Za<|Zb<|Ze<|dt (Yb (i:=16) J J J Xs Ye J J)<|dt (Yb (i:=17) J J J Xs Ye J J)<|dt (Oq (ivs:=[(0,_),(1,_)]) J K4 (fun a w hs=>Zfn))<|tt (Zl (i:=5) J J J J J J Yr J J ⟨Zf J,Zf J,Zf J,Zf J,trivial⟩ J hw trivial) fun _ _=>Zp J<|Zc<|Za<|Zq<|Yu (.inl J) hsc () _ (fun a w hs=>Og hs results163 (Xg (i:=5) J J Xq Yr J) J) (Zqt (Decidable.byContradiction ‹_›) (Decidable.byContradiction ‹_›)) trivial J Zm
theorem Zjk(x y:Int)(hx:bl x.natAbs≤65536)(hy:bl y.natAbs≤65536)(hy0:y≠0:=by omega):On prog 119 #[wv x,wv y] [] (Zc0 x y):=by
 refine Yi func119 J ntmps119 J trivial fun w0 sc hw hsc=>?_
 simp only [Zu,Zt]
 refine Zb<|Ze<|tt (Yw (i:=1) J J J J J hw) fun b _=>tt (Yw (i:=2) J J J J J hw) fun b_2 _=>tt (Zy (i:=3) J J zeroValue41 J J hw) fun b_3 _=>Zp J<|Zc<|Za<|Zb<|Zb<|Ze<|dt (Yb (i:=1) J J J Xs Ye J J)<|dt (Yb (i:=2) J J J Xs Ye J J)<|tt (Zh (n:=3) (Hn _ _ ‹_› ‹_›) J J J K2 call129 Zg J hw) fun _ _=>dt (Xl J J)<|Zc<|Za<|Yp J<|Zk<|Za<|Zb<|Zb<|Ze<|dt (Yv J J Dl J zT9 J J)<|dt (Qw (i:=2) J J J iA9 J)<|dt (Zk8 J J J J)<|Zc<|Za<|Zr J (fun h471=>?_) (fun h471=>?_)
 ·rw [Hj]at h471
  exfalso;exact hy0 (by have:=(Nn (by omega:2≤256) y.natAbs).1 h471;omega)
 ·refine Zk<|Za<|Zb<|Qs (fun _=>False) [(0,0),(2,0),(1,1),(3,1),(4,1),(5,0),(6,0),(7,3),(8,3)] ?_ ?_
  ·kernel_rfl
  exact Zs J J (Yt (Yb (i:=1) J J J Xs Ye J J))<|Zs J J (Yt (Yb (i:=2) J J J Xs Ye J J))<|Xb J (Zh (n:=4) (Oj _ _ (Qb _)) J J J K1 Lh Zg J hw) fun g hg=>Xb J (Zh (n:=5) (Oj _ _ (Qb _)) J J J K1 Lh Zg J hw) fun g_2 hg_2=>Xb J (Zh (n:=5) (Zcm _ _ _ _ _ _ ‹_› ‹_› hy0) J J J K2 call163 (Zd 4 J J J (Zd 5 J J J Zg)) J hw) fun _ _=>Zs J J (Yt (Zz J J J))<|Zs J J (Yt (Zz J J J))<|Po J (Zl (i:=3) J J J J J J Yr J J ⟨Zf J,Zf J,Zf J,Zf J,trivial⟩ J hw trivial) fun _ _=>Po J (Od (Mb J J) J) fun _ _=>Ob<|Za<|Zq<|Yu (.inl J) hsc () _ (fun a w hs=>Og hs results119 (Xg (i:=3) J J Xq Yr J) J) J trivial J Zm
theorem Ki(b:Bool)(s:ByteArray)(c:Bool)(t:ByteArray):On prog 117 #[.agg #[.bool b,.string s,.bool c,.string t]] [] (.bool (okR b s c t)):=by
 refine Yi func117 J ntmps117 J trivial fun w0 sc hw hsc=>?_
 simp only [Zu,Zt]
 refine Zb<|Ze<|tt (Yw (i:=1) J J J J J hw) fun b _=>Zp J<|Zc<|Za<|Zb<|Ze<|dt (Yv J J Gb J Ye J J)<|dt (Yb (i:=1) J J J Xs Ye J J)<|dt (Yv J J Gb J Ye J J)<|dt (Yb (i:=1) J J J Xs Ye J J)<|tt (Zh (n:=1) (Zl6 _ _ _ _) J J J K2 call129 Zg J hw) fun _ _=>mv J<|Ma (d:=8) J (fun s451=>?_) (fun s451=>?_)
 ·have hcc:okW c t=true:=by simp_all
  have hok:=Zon hcc
  obtain⟨hk1,hk2,hk3⟩:=Classical.choose_spec hok
  generalize Classical.choose hok=z at hk1 hk2 hk3 ⊢
  subst hk2;subst hk3
  try clear hok
  exact Xh (Yv J J Gb J Ye J J) J J<|Xh (Yb (i:=1) J J J Xs Ye J J) J J<|Lz (Zh (n:=1) (Ko z hk1) J J J K1 call104 Zg J hw) J J J fun _ _=>Xh (Pw J J J) J J<|dt (Yy J J J)<|Zp J<|Zc<|Za<|Zq<|xU hsc results117 J J (by first | rw [Zq8 (by simp_all) hk1] | (unfold okR;simp_all))
 ·exact Xt J J J<|Xt J J J<|Xt J J J<|Xt J J J<|dt (Yh J J J)<|Zp J<|Zc<|Za<|Zq<|xU hsc results117 J J (by first | rw [Zq8 (by simp_all) hk1] | (unfold okR;simp_all))
theorem Pt(x y:Int)(hy0:0<y)(hx:bl x.natAbs≤65536:=by omega)(hy:bl y.natAbs≤65536:=by omega):Cal prog 117 #[rX x y] [] false (G:=Unit) (fun _=>True) (fun _=> .bool true) (fun _=>[]):=Zoo hx hy hy0▸Ki _ _ _ _
theorem Qg(x:Int)(hx:inI x):On prog 81 #[.int .i64 x] [] (wv x):=by
 refine Yi func81 J ntmps81 J trivial fun w0 sc hw hsc=>?_
 simp only [Zu,Zt]
 have hxa:=hx.1
 have hxb:=hx.2
 have hxU:x.natAbs<U:=by simp only [U];omega
 have hxl:bl x.natAbs≤64:=(Mo 64 _).2 (by rw [←Yc6];exact hxU)
 refine Zb<|Ze<|tt (Zy (i:=1) J J zeroValue31 J J hw) fun b _=>Zc<|Za<|Zb<|Ze<|mv J<|dt (Yfj (r:=x%18446744073709551616) J J uT3 Zcn J)<|Zp J<|Zc<|Za<|Iz [(0,_),(2,_)] [(0,_),(1,_)] (fun(_:Unit)=>[(3,.int .u64 ((x.natAbs:Nat):Int))]) (fun(_:Unit)=>[]) (fun(_:Unit)=>True) K2 K2 ?_ ?_
 ·refine Zb<|Ze<|mv J<|dt (Xv J J J)<|Zc<|Za<|Zr J (fun h276=>?_) (fun h276=>?_)
  ·exact Ze<|mv J<|dt (u_negm (r:=x.natAbs) J J (by omega))<|Zp J<|Zc<|Xo () trivial ⟨by first | rfl | (rw [show x%18446744073709551616=((x.natAbs:Nat):Int) by omega];rfl),rfl,rfl,trivial⟩ K2
  ·exact Zk<|Xo () trivial ⟨by first | rfl | (rw [show x%18446744073709551616=((x.natAbs:Nat):Int) by omega];rfl),rfl,rfl,trivial⟩ K2
 ·rintro _ -
  simp only [CA,NA]
  exact Zb<|Ze<|mv J<|dt (Xv J J J)<|mv J<|tt (Pn (i:=2) (ivs:=[(0,_)]) (enc:=Lm) [x.natAbs] J J K2 Qa ti149 J J J J J pU.cells J J hw) fun v _=>tt (Zh (n:=2) (Me _ _) J J J K1 call127 (Qt 2 J J pU Zg) J hw) fun _ _=>Pp (Zay 2 J J pU)<|Pp (Zep 2 (Zhh hxU) J J)<|dt (Oq (ivs:=[(0,_),(1,_)]) J K4 (fun a w hs=>Mh ((Zf J) a w hs) ((Zn (i:=2) J (Xa pU)) a w hs)))<|tt (Zh (n:=2) (Hw _ _ x (Qb _)) J J J K1 call128 (Qt 2 J J pU Zg) J hw) fun _ _=>mv J<|dt (Zz J J J)<|dt (Zz J J J)<|tt (Zy (i:=3) J J zeroValue31 J J hw) fun b_2 _=>tt (Zl (i:=3) J J J J J J Ye J J ⟨Zf J,Zf J,trivial⟩ J hw trivial) fun _ _=>Zp J<|Zc<|Za<|Zb<|Ze<|dt (Yb (i:=3) J J J Xs Ye J J)<|tt (Zl (i:=1) J J J J J J Ye J J ⟨Zf J,Zf J,trivial⟩ J hw trivial) fun _ _=>Zc<|Za<|Zq<|Yu (.inl J) hsc () _ (fun a w hs=>Ni hs results81 (Xg (i:=1) J J Xs Ye J)) (by rw [Mg (by omega)]<;>rfl) trivial J Zm
theorem Zd5(v:Value)(xs:List Int)(hs:Sz 65536 xs):Cal prog 152 #[v] [Px 2 wv v xs] true (G:=Unit) (fun _=>True) (fun _=>Iy v (tzl xs).length) (fun _=>[Px 2 wv (Iy v (tzl xs).length) (tzl xs)]):=by
 refine Yi func152 J ntmps152 J K1 fun w0 sc hw hsc=>?_
 simp only [Zu,Zt]
 refine Nl (Zts (i:=1) J Zi) fun hself=>Nl (Kk (i:=1) J Zi) fun hlen=>Zb<|Ze<|Zp J<|Zc<|Za<|Zb<|Zo<|Oc [] [(0,_)] (fun(k:Nat)=>[(0,Iy v k)]) (fun(k:Nat)=>[(1,Px 2 wv (Iy v k) (xs.take k))]) (fun(k:Nat)=>(k≤xs.length)∧(tzl (xs.take k)=tzl xs)) (fun(k:Nat)=>k) xs.length ⟨Nat.le_refl _,by rw [List.take_length]⟩ ⟨by rw [hself];rfl,trivial⟩ ⟨by rw [hself,List.take_length];rfl,rfl,trivial⟩ ?_
 rintro k ⟨hk,ht⟩
 simp only [CA,NA]
 have hl:(xs.take k).length=k:=by rw [List.length_take];omega
 refine Zb<|Zb<|Ze<|mv J<|dt (Yf J J (i:=1) J Zi Xx)<|dt (Pw J J J)<|mv J<|Pf (d:=6) J (fun s35=>?_) (fun s35=>?_)
 ·refine Xh (Yd J J) J J<|Xh (Yd J J) J J<|Xh (Yf J J (i:=1) J Zi Xx) J J<|Xh (Qd J J J) J J<|Xh (Xc (ii:=1) (i:=k-1) J J J J Zi Xx Ye) J J<|Xh (Xr (ii:=1) 0 J J J Zi pV) J J<|Lz (Zh (n:=1) (Ko _ ((hs.take _).getD _)) J J J K1 call104 Zg J hw) J J J fun _ _=>Xh (Pj J J J) J J<|dt (Yy J J J)<|Zc<|Za<|Zr J (fun h35=>?_) (fun h35=>?_)
  ·have hstep:=Zp5 hk (by omega) (Zju (k:=k) (by omega) (Int.sign_eq_zero_iff_zero.1 ‹_›):cf xs (k-1)=0)
   exact Zk<|Za<|Zo<|Ze<|mv J<|mv J<|dt (Yf J J (i:=1) J Zi Xx)<|dt (Qd J J J)<|dt (Zwe (ii:=1) (i:=k-1) J J J J Zi Xx Ye)<|Zp J<|Zc<|Qn<|Qu (Zzy 1 1 (k-1) J J)<|Xk (k-1) ⟨by first | omega | (dsimp only<;>omega),by rw [←ht,←hstep]⟩ (by first | omega | (dsimp only<;>omega)) ⟨by rw [←Eg v k (k-1)];rfl,trivial⟩ ⟨by rw [Eg,List.take_take,Nat.min_eq_left (by omega)];rfl,rfl,trivial⟩
  ·refine Yx<|Zx<|Zx<|Pd<|Za<|Zb<|Ze<|mv J<|Zp J<|Zc<|Za<|Zq ?_
   have hx:tzl xs=xs.take k:=by rw [←ht];exact Zfv hk (by first | (left;omega) | (right;exact Zfx (k:=k) (by omega) ‹_›))
   exact xG hsc () results152 J (by rw [hx,hl]) trivial J (Xe 1 J J J (by rw [hx,hl]) Zm)
 ·refine Xt J J J<|Xt J J J<|Xt J J J<|Xt J J J<|Xt J J J<|Xt J J J<|Xt J J J<|Xt J J J<|dt (Yh J J J)<|Zc<|Za<|Yp J<|Yx<|Zx<|Zx<|Pd<|Za<|Zb<|Ze<|mv J<|Zp J<|Zc<|Za<|Zq ?_
  have hx:tzl xs=xs.take k:=by rw [←ht];exact Zfv hk (by first | (left;omega) | (right;exact Zfx (k:=k) (by omega) ‹_›))
  exact xG hsc () results152 J (by rw [hx,hl]) trivial J (Xe 1 J J J (by rw [hx,hl]) Zm)
theorem Zkc(v:Value)(r:List (Bool×ByteArray)):On prog 49 #[v] [Px 2 Aq v r] (.bool (okP r)):=by
 refine Yi func49 J ntmps49 J K1 fun w0 sc hw hsc=>?_
 simp only [Zu,Zt]
 refine Nl (Kk (i:=1) J Zi) fun hlen=>Zb<|Ze<|Zp J<|Zc<|Za<|Zb<|Zb<|Ze<|mv J<|dt (Yf J J (i:=1) J Zi Xx)<|mv J<|Zc<|Za<|Zo<|Oc [(0,_),(5,_),(6,_)] [(0,_),(1,_)] (fun(k:Nat)=>[(7,.int .i64 (k:Int))]) (fun(k:Nat)=>[]) (fun(k:Nat)=>(k≤r.length)∧((r.take k).all (fun w=>okW w.1 w.2)=true)) (fun(k:Nat)=>r.length-k) 0 ⟨by first | omega | (dsimp only<;>omega),by simp⟩ K4 K2 ?_
 rintro k ⟨hk,ha⟩
 simp only [CA,NA]
 refine Zb<|Ze<|dt (Xv J J J)<|Zc<|Za<|Zb<|Zr J (fun h51=>?_) (fun h51=>?_)
 ·refine Zk<|Za<|Zb<|Zo<|Zb<|Ze<|dt (Xc (ii:=1) J J J J Zi Xx Ye J (by first | omega | (simp only [List.length_set];omega)))<|dt (Xr (ii:=1) (false,⟨#[]⟩) J J J Zi pW (by first | omega | (simp only [List.length_set];omega)))<|tt (Zy (i:=2) J J zeroValue31 J J hw) fun b _=>tt (Zl (i:=2) J J J J J J Ye J J ⟨Zf J,Zf J,trivial⟩ J hw trivial) fun _ _=>Zc<|Za<|Zb<|Ze<|dt (Yb (i:=2) J J J Xs Ye J J)<|tt (Zh (n:=2) (Bu _ _) J J J K1 Zez Zg J hw) fun _ _=>dt (Xl J J)<|Zc<|Za<|Mf J (fun h52=>?_) (fun h52=>?_)
  ·exact Zb<|Ze<|Zp J<|Zc<|Za<|Zq<|Nq<|Yn<|Yn<|Nq<|Yn<|xU hsc results49 J J (by rw [Zvm (Xj (i:=k) (d:=(false,⟨#[]⟩))) (by simp_all)])
  ·exact Zk<|Qn<|Za<|Ze<|dt (Ys J J J)<|mv J<|Zc<|Xk (k+1) ⟨by first | omega | (dsimp only<;>omega),by rw [Mc (false,⟨#[]⟩) _ _ (by omega),List.all_append,ha];simpa using h52⟩ (by first | omega | (dsimp only<;>omega)) K4 K2
 ·refine Yx<|Zx<|Zx<|Pd<|Za<|Zb ?_
  obtain rfl:k=r.length:=by omega
  rw [List.take_length]at ha
  obtain⟨xs,hxs,rfl⟩:=Zq7 (List.all_eq_true.1 ha)
  have hsz:=Sz.of_mem hxs
  rw [List.length_map]at hlen
  refine Yo (Zny 1 (q:=Px 2 wv v xs) J J (Zup v xs) (fun _ h=>h) J)<|Ze<|mv J<|dt (Yf J J (i:=1) J Zi Xx)<|dt (Dc J J J)<|mv J<|Pf (d:=18) J (fun s56=>?_) (fun s56=>?_)
  ·refine Xh (Yd J J) J J<|Xh (Yf J J (i:=1) J Zi Xx) J J<|Xh (Pj J J J) J J<|Xh (Yd J J) J J<|Pf (d:=22) J (fun s56_2=>?_) (fun s56_2=>?_)
   ·exact Xt J J J<|Xt J J J<|Xt J J J<|Xt J J J<|Xt J J J<|Xt J J J<|Xt J J J<|Xt J J J<|Xh (Yy J J J) J J<|dt (Yy J J J)<|Zp J<|Zc<|Za<|Zq<|xU hsc results49 J J (by rw [Zop hxs];first | (simp_all;done) | (simp_all;omega))
   ·exact Xh (Yd J J) J J<|Xh (Yd J J) J J<|Xh (Yf J J (i:=1) J Zi Xx) J J<|Xh (Qd J J J) J J<|Xh (Xc (ii:=1) (i:=xs.length-1) J J J J Zi Xx Ye) J J<|Xh (Xr (ii:=1) 0 J J J Zi pV) J J<|Lz (Zh (n:=2) (Ko _ (hsz.getD _)) J J J K1 call104 Zg J hw) J J J fun _ _=>Xh (Xz J J J) J J<|Xh (Yh J J J) J J<|dt (Yy J J J)<|Zp J<|Zc<|Za<|Zq<|xU hsc results49 J J (by rw [Zop hxs];first | (simp_all;done) | (simp_all;omega))
  ·exact Xt J J J<|Xt J J J<|Xt J J J<|Xt J J J<|Zc9 J J<|Zc9 J J<|Zc9 J J<|Zc9 J J<|Zc9 J J<|Zc9 J J<|Zc9 J J<|Zc9 J J<|Xt J J J<|dt (Yh J J J)<|Zp J<|Zc<|Za<|Zq<|xU hsc results49 J J (by rw [Zop hxs];first | (simp_all;done) | (simp_all;omega))
theorem Qx(v:Value)(xs:List Int)(h:Vp xs):Cal prog 49 #[v] [Px 2 wv v xs] false (G:=Unit) (fun _=>True) (fun _=> .bool true) (fun _=>[]):=okP_wr h▸(Zkc v (xs.map wr)).imp (Zsx v xs) (fun _ h=>h)
theorem Ll(v:Value)(xs:List Int)(hs:Sz 65536 xs):On prog 149 #[v] [Px 2 wv v xs] (.int .i64 (Pi xs:Int)):=by
 refine Yi func149 J ntmps149 J K1 fun w0 sc hw hsc=>?_
 simp only [Zu,Zt]
 refine Nl (Kk (i:=1) J Zi) fun hlen=>Zb<|Ze<|Zp J<|Zc<|Za<|Zb<|Ze<|Zp J<|Zc<|Za<|Zb<|Zb<|Ze<|mv J<|dt (Yf J J (i:=1) J Zi Zxe)<|mv J<|Zc<|Za<|Zo<|Oc [(6,_),(7,_)] [(0,_),(1,_)] (fun(k:Nat)=>[(8,.int .i64 (k:Int)),(3,.int .i64 (Pi (xs.take k):Int))]) (fun(k:Nat)=>[]) (fun(k:Nat)=>k≤xs.length) (fun(k:Nat)=>xs.length-k) 0 (by first | omega | (dsimp only<;>omega)) K4 K2 ?_
 rintro k hk
 simp only [CA,NA]
 refine Zb<|Ze<|dt (Xv J J J)<|Zc<|Za<|Zb<|Zr J (fun h83=>?_) (fun h83=>?_)
 ·exact Zk<|Za<|Zb<|Zo<|Zb<|Ze<|dt (Xc (ii:=1) J J J J Zi Zxe Ye J (by first | omega | (simp only [List.length_set];omega)))<|dt (Xr (ii:=1) 0 J J J Zi pV (by first | omega | (simp only [List.length_set];omega)))<|tt (Zy (i:=2) J J zeroValue31 J J hw) fun b _=>tt (Zl (i:=2) J J J J J J Ye J J ⟨Zf J,Zf J,trivial⟩ J hw trivial) fun _ _=>Zc<|Za<|Ze<|mv J<|dt (Yb (i:=2) J J J Xs Ye J J)<|tt (Zh (n:=2) (Zjl _ (hs.getD _)) J J J K1 call145 Zg J hw) fun _ _=>dt (Zsa J J J)<|Zp J<|Zc<|Qn<|Za<|Ze<|dt (Ys J J J)<|mv J<|Zc<|Xk (k+1) (by first | omega | (dsimp only<;>omega)) (by first | omega | (dsimp only<;>omega)) ⟨J,by rw [Mc 0 _ _ (by omega),Ybi];exact congrArg some (Zb6 (by omega)),rfl,rfl,trivial⟩ K2
 ·exact Yx<|Zx<|Zx<|Pd<|Za<|Zb<|Ze<|mv J<|Zp J<|Zc<|Za<|Zq<|xU hsc results149 J J (by rw [List.take_of_length_le (by omega)])
theorem Zo1(bd:Nat)(t:TypeId)(e e2:Int)(n:Bool)(s:ByteArray):Ziq prog 175 #[.pointer (some ⟨bd,0,none⟩),.agg #[.bool n,.string s],.int .i64 e2] [] false bd t #[.int .i64 e] (G:=Unit) (fun _=>True) (fun _=> .agg #[.bool n,.string s]) (fun _=>#[.int .i64 (if e=0 then e2 else e)]) (fun _=>[]):=by
 refine Zel func175 J ntmps175 J trivial fun w0 sc hw hsc=>?_
 simp only [Zu,Zt]
 refine Zb<|Ze<|tt (Yw (i:=2) J J J J J hw) fun b _=>tt (Zy (i:=3) J J zeroValue31 J J hw) fun b_2 _=>Zc<|Za<|Zb<|Zb<|Ze<|mv J<|dt (Zar J J)<|dt (Yv J J Zjr J Ih J J)<|dt (Qw (i:=1) J J J Eo J)<|dt (Pj J J J)<|Zc<|Za<|Zr J (fun h19=>?_) (fun h19=>?_)
 ·exact Ze<|mv J<|mv J<|dt (Zar J J)<|dt (Yv J J Zjr J Ih J J)<|tt (Zl (i:=1) J J J J J J Ih J J ⟨Zf J,trivial⟩ J hw trivial) fun _ _=>Zc<|Za<|Zb<|Ze<|dt (Yb (i:=2) J J J Xs Ye J J)<|tt (Zl (i:=3) J J J J J J Ye J J ⟨Zf J,Zf J,trivial⟩ J hw trivial) fun _ _=>Zc<|Za<|Zq<|Ze1 (.inl J) hsc () _ (fun a w hs=>Ni hs results175 (Xg (i:=3) J J Xs Ye J)) J trivial 1 J (by simp_all [Aj]) J J Zm
 ·exact Zk<|Za<|Zb<|Ze<|dt (Yb (i:=2) J J J Xs Ye J J)<|tt (Zl (i:=3) J J J J J J Ye J J ⟨Zf J,Zf J,trivial⟩ J hw trivial) fun _ _=>Zc<|Za<|Zq<|Ze1 (.inl J) hsc () _ (fun a w hs=>Ni hs results175 (Xg (i:=3) J J Xs Ye J)) J trivial 1 J (by simp_all [Aj]) J J Zm
theorem d_mul_(bd:Nat)(e x y:Int)(hx:bl x.natAbs≤65536)(hy:bl y.natAbs≤65536):Ziq prog 153 #[.pointer (some ⟨bd,0,none⟩),wv x,wv y] [] false bd 167 #[.int .i64 e] (G:=Unit) (fun _=>True) (fun _=>wv (Zbf (x*y))) (fun _=>#[.int .i64 (err e (x*y))]) (fun _=>[]):=by
 refine Zel func153 J ntmps153 J trivial fun w0 sc hw hsc=>?_
 simp only [Zu,Zt]
 refine Zb<|Ze<|tt (Yw (i:=2) J J J J J hw) fun b _=>tt (Yw (i:=3) J J J J J hw) fun b_2 _=>tt (Zy (i:=4) J J zeroValue31 J J hw) fun b_3 _=>Zc<|Za<|Zb<|Qs (fun x=>x=bd) [(0,0),(1,0),(2,0),(3,0),(4,0),(5,1),(6,0),(7,0),(8,1),(9,3)] ?_ ?_
 ·kernel_rfl
 exact Zs J J (Ke 1 J (Yd J J))<|Zs J J (Ke 1 J (Zar J J))<|Zs J J (Ke 1 J (Yv J J Zfu J Zfo J J))<|Zs J J (Ke 1 J (Yb (i:=2) J J J Xs Ye J J))<|Zs J J (Ke 1 J (Yb (i:=3) J J J Xs Ye J J))<|Xb J (Zh (n:=4) (Bv _ _ ‹_› ‹_›) J J J K2 call139 Zg J hw) fun _ _=>Zs J J (Ke 1 J (Zz J J J))<|Zs J J (Ke 1 J (Zz J J J))<|Xb J (Ns (n:=4) (i:=1) (Zo1 _ _ _ _ _ _) J J J K3 call175 J (by decide) Zg J hw J) fun _ _=>Po J (Zl (i:=4) J J J J J J Ye J J ⟨Zf J,Zf J,trivial⟩ J hw trivial) fun _ _=>Ob<|Za<|Zq<|Ze1 (.inl J) hsc () _ (fun a w hs=>Ni hs results153 (Xg (i:=4) J J Xs Ye J)) J trivial 1 J J J J Zm
theorem Ca(bd:Nat)(x y:Int)(hx:bl x.natAbs≤65536)(hy:bl y.natAbs≤65536)(hz:bl (x*y).natAbs≤65536):Ziq prog 153 #[.pointer (some ⟨bd,0,none⟩),wv x,wv y] [] false bd 167 #[.int .i64 0] (G:=Unit) (fun _=>True) (fun _=>wv (x*y)) (fun _=>#[.int .i64 0]) (fun _=>[]):=by
 have h:=d_mul_ bd 0 x y hx hy
 rw [Mg hz,Ztv hz]at h;exact h
theorem d_add_(bd:Nat)(e x y:Int)(hx:bl x.natAbs≤65536)(hy:bl y.natAbs≤65536):Ziq prog 159 #[.pointer (some ⟨bd,0,none⟩),wv x,wv y] [] false bd 167 #[.int .i64 e] (G:=Unit) (fun _=>True) (fun _=>wv (Zbf (x+y))) (fun _=>#[.int .i64 (err e (x+y))]) (fun _=>[]):=by
 refine Zel func159 J ntmps159 J trivial fun w0 sc hw hsc=>?_
 simp only [Zu,Zt]
 refine Zb<|Ze<|tt (Yw (i:=2) J J J J J hw) fun b _=>tt (Yw (i:=3) J J J J J hw) fun b_2 _=>tt (Zy (i:=4) J J zeroValue31 J J hw) fun b_3 _=>Zc<|Za<|Zb<|Qs (fun x=>x=bd) [(0,0),(1,0),(2,0),(3,0),(4,0),(5,1),(6,0),(7,0),(8,1),(9,3)] ?_ ?_
 ·kernel_rfl
 exact Zs J J (Ke 1 J (Yd J J))<|Zs J J (Ke 1 J (Zar J J))<|Zs J J (Ke 1 J (Yv J J Zfu J Zfo J J))<|Zs J J (Ke 1 J (Yb (i:=2) J J J Xs Ye J J))<|Zs J J (Ke 1 J (Yb (i:=3) J J J Xs Ye J J))<|Xb J (Zh (n:=4) (Cl _ _ ‹_› ‹_›) J J J K2 call82 Zg J hw) fun _ _=>Zs J J (Ke 1 J (Zz J J J))<|Zs J J (Ke 1 J (Zz J J J))<|Xb J (Ns (n:=4) (i:=1) (Zo1 _ _ _ _ _ _) J J J K3 call175 J (by decide) Zg J hw J) fun _ _=>Po J (Zl (i:=4) J J J J J J Ye J J ⟨Zf J,Zf J,trivial⟩ J hw trivial) fun _ _=>Ob<|Za<|Zq<|Ze1 (.inl J) hsc () _ (fun a w hs=>Ni hs results159 (Xg (i:=4) J J Xs Ye J)) J trivial 1 J J J J Zm
theorem Zpb(bd:Nat)(x y:Int)(hx:bl x.natAbs≤65536)(hy:bl y.natAbs≤65536)(hz:bl (x+y).natAbs≤65536):Ziq prog 159 #[.pointer (some ⟨bd,0,none⟩),wv x,wv y] [] false bd 167 #[.int .i64 0] (G:=Unit) (fun _=>True) (fun _=>wv (x+y)) (fun _=>#[.int .i64 0]) (fun _=>[]):=by
 have h:=d_add_ bd 0 x y hx hy
 rw [Mg hz,Ztv hz]at h;exact h
theorem d_sub_(bd:Nat)(e x y:Int)(hx:bl x.natAbs≤65536)(hy:bl y.natAbs≤65536):Ziq prog 137 #[.pointer (some ⟨bd,0,none⟩),wv x,wv y] [] false bd 167 #[.int .i64 e] (G:=Unit) (fun _=>True) (fun _=>wv (Zbf (x-y))) (fun _=>#[.int .i64 (err e (x-y))]) (fun _=>[]):=by
 refine Zel func137 J ntmps137 J trivial fun w0 sc hw hsc=>?_
 simp only [Zu,Zt]
 refine Zb<|Ze<|tt (Yw (i:=2) J J J J J hw) fun b _=>tt (Yw (i:=3) J J J J J hw) fun b_2 _=>tt (Zy (i:=4) J J zeroValue31 J J hw) fun b_3 _=>Zc<|Za<|Zb<|Qs (fun x=>x=bd) [(0,0),(1,0),(2,0),(3,0),(4,0),(5,1),(6,0),(7,0),(8,1),(9,3)] ?_ ?_
 ·kernel_rfl
 exact Zs J J (Ke 1 J (Yd J J))<|Zs J J (Ke 1 J (Zar J J))<|Zs J J (Ke 1 J (Yv J J Zfu J Zfo J J))<|Zs J J (Ke 1 J (Yb (i:=2) J J J Xs Ye J J))<|Zs J J (Ke 1 J (Yb (i:=3) J J J Xs Ye J J))<|Xb J (Zh (n:=4) (Zp0 _ _ ‹_› ‹_›) J J J K2 call140 Zg J hw) fun _ _=>Zs J J (Ke 1 J (Zz J J J))<|Zs J J (Ke 1 J (Zz J J J))<|Xb J (Ns (n:=4) (i:=1) (Zo1 _ _ _ _ _ _) J J J K3 call175 J (by decide) Zg J hw J) fun _ _=>Po J (Zl (i:=4) J J J J J J Ye J J ⟨Zf J,Zf J,trivial⟩ J hw trivial) fun _ _=>Ob<|Za<|Zq<|Ze1 (.inl J) hsc () _ (fun a w hs=>Ni hs results137 (Xg (i:=4) J J Xs Ye J)) J trivial 1 J J J J Zm
theorem Ztx(bd:Nat)(x y:Int)(hx:bl x.natAbs≤65536)(hy:bl y.natAbs≤65536)(hz:bl (x-y).natAbs≤65536):Ziq prog 137 #[.pointer (some ⟨bd,0,none⟩),wv x,wv y] [] false bd 167 #[.int .i64 0] (G:=Unit) (fun _=>True) (fun _=>wv (x-y)) (fun _=>#[.int .i64 0]) (fun _=>[]):=by
 have h:=d_sub_ bd 0 x y hx hy
 rw [Mg hz,Ztv hz]at h;exact h
theorem Yco(bd:Nat)(v:Value)(xs:List Int)(hs:Sz 65536 xs):Cal prog 154 #[.pointer (some ⟨bd,0,none⟩),v] [Za0 bd 167 #[.int .i64 0],Px 2 wv v xs] true (G:=Unit) (fun _=>True) (fun _=> .tuple #[Iy v (tzl xs).length,.int .i64 0]) (fun _=>[Px 2 wv (Iy v (tzl xs).length) (tzl xs)]):=by
 refine Yi func154 J ntmps154 J K2 fun w0 sc hw hsc=>?_
 simp only [Zu,Zt]
 refine Zb<|Ze<|Zp J<|Zp J<|Zc<|Za<|Zb<|Zb<|Ze<|mv J<|dt (Zar J J)<|dt (Yv J J Zfu J Zfo J J)<|dt (Yv J J Zjr J Ih J J)<|dt (Zpd (i:=1) J J J Eo J)<|dt (Xz J J J)<|Zc<|Za<|Zr J (fun h43=>?_) (fun h43=>?_)
 ·exfalso;simp_all
 ·exact Zk<|Za<|Zb<|Ze<|mv J<|tt (Zh (n:=3) (Zd5 _ _ ‹_›) J J J K1 call152 (Zd 2 J J J Zg) J hw) fun _ _=>Zp J<|Zp J<|Zc<|Za<|Zq<|Yu (.inl J) hsc () _ (fun a w hs=>Og hs results154 J J) J trivial J (Xu 3 J J J Zm)
end Go.Sky

