/- Rules, arithmetic and contracts: part 15. No conditions but those that each theorem names. -/
import Derived.Test.YtcmiiammekgooaaGreatSc13
set_option linter.all false
namespace Go.Sky
open Go.Proofs.Tryz
open Go.Proofs
set_option maxRecDepth 20000
set_option maxHeartbeats 4000000
set_option linter.unusedSimpArgs false
theorem Zhf(x y x2 y2:Int)(hx:bl x.natAbs≤65536)(hy:bl y.natAbs≤65536)(hx2:bl x2.natAbs≤65536)(hy2:bl y2.natAbs≤65536)(hp:0<y)(hp2:0<y2):On prog 177 #[rX x y,rX x2 y2] [] (.bool true):=by
 refine Yi func177 J ntmps177 J trivial fun w0 sc hw hsc=>?_
 simp only [Zu,Zt]
 exact Zb<|Ze<|tt (Yw (i:=1) J J J J J hw) fun b _=>tt (Yw (i:=2) J J J J J hw) fun b_2 _=>Zp J<|Zc<|Za<|Zb<|Ze<|dt (Ym (i:=1) J J J Xq Yr J J J J)<|tt (Zh (n:=2) (Pt _ _ ‹_› ‹_› ‹_›) J J J K1 Di Zg J hw) fun _ _=>mv J<|Xh (Ym (i:=2) J J J Xq Yr J J J J) J J<|Lz (Zh (n:=2) (Pt _ _ ‹_› ‹_› ‹_›) J J J K1 Di Zg J hw) J J J fun _ _=>dt (Yy J J J)<|Zp J<|Zc<|Za<|Zq<|xU hsc results177 J J J
theorem Zfp(x y x2 y2:Int)(hx:bl x.natAbs≤65536)(hy:bl y.natAbs≤65536)(hx2:bl x2.natAbs≤65536)(hy2:bl y2.natAbs≤65536):Cal prog 178 #[rX x y,rX x2 y2] [] true (G:=Bool×Value×Bool×Value×Bool×Value) (fun r=>sg r.1 (x*y2)∧sg r.2.2.1 (x2*y)∧sg r.2.2.2.2.1 (y*y2)) (fun r=> .tuple #[.agg #[.bool r.1,r.2.1],.agg #[.bool r.2.2.1,r.2.2.2.1],.agg #[.bool r.2.2.2.2.1,r.2.2.2.2.2]]) (fun r=>[Da r.2.1 (x*y2).natAbs,Da r.2.2.2.1 (x2*y).natAbs,Da r.2.2.2.2.2 (y*y2).natAbs]):=by
 refine Yi func178 J ntmps178 J trivial fun w0 sc hw hsc=>?_
 simp only [Zu,Zt]
 have b1:=Qk x y2
 have b2:=Qk x2 y
 have b3:=Qk y y2
 have b4:=Qk x x2
 refine Zb<|Ze<|tt (Yw (i:=1) J J J J J hw) fun b _=>tt (Yw (i:=2) J J J J J hw) fun b_2 _=>tt (Zy (i:=3) J J zeroValue154 J J hw) fun b_3 _=>tt (Zy (i:=4) J J zeroValue154 J J hw) fun b_4 _=>tt (Zy (i:=5) J J zeroValue154 J J hw) fun b_5 _=>Zc<|Za<|Zb<|Nm [1,2] [23]<|Ya (n:=0) [(0,0),(1,0),(3,0),(4,0),(7,0),(8,0),(10,0),(11,0),(14,0),(15,0),(17,0),(18,0),(2,1),(5,1),(6,1),(9,1),(12,1),(13,1),(16,1),(19,1),(20,1),(21,1),(22,1),(23,3)]<|Zs J J (Xm (Yv J J Gb J Ye J J) K2)<|Zs J J (Xm (Yb (i:=1) J J J Xs Ye J J) K2)<|Zs J J (Xm (Yv J J Gb J Ye J J) K2)<|Zs J J (Xm (Yb (i:=2) J J J Xs Ye J J) K2)<|Zs J J (Xm (Yv J J Gb J Ye J J) K2)<|Zs J J (Xm (Yb (i:=2) J J J Xs Ye J J) K2)<|Zs J J (Xm (Yv J J Gb J Ye J J) K2)<|Zs J J (Xm (Yb (i:=1) J J J Xs Ye J J) K2)<|Zs J J (Xm (Yv J J Gb J Ye J J) K2)<|Zs J J (Xm (Yb (i:=1) J J J Xs Ye J J) K2)<|Zs J J (Xm (Yv J J Gb J Ye J J) K2)<|Zs J J (Xm (Yb (i:=2) J J J Xs Ye J J) K2) ?_
 refine Xb J (Zh (n:=6) (Oj _ _ (Qb _)) J J J K1 Lh Zg J hw) fun g hg=>Xb J (Zh (n:=7) (Oj _ _ (Qb _)) J J J K1 Lh Zg J hw) fun g_2 hg_2=>Xb J (Zh (n:=8) (Zd8 _ _ _ _ _ _ ‹_› ‹_›) J J J K2 call176 (Zd 6 J J J (Zd 7 J J J Zg)) J hw) fun g_3 hg_3=>Xb J (Zh (n:=9) (Oj _ _ (Qb _)) J J J K1 Lh Zg J hw) fun g_4 hg_4=>Xb J (Zh (n:=10) (Oj _ _ (Qb _)) J J J K1 Lh Zg J hw) fun g_5 hg_5=>Xb J (Zh (n:=11) (Zd8 _ _ _ _ _ _ ‹_› ‹_›) J J J K2 call176 (Zd 9 J J J (Zd 10 J J J Zg)) J hw) fun g_6 hg_6=>Xb J (Zh (n:=12) (Oj _ _ (Qb _)) J J J K1 Lh Zg J hw) fun g_7 hg_7=>Xb J (Zh (n:=13) (Oj _ _ (Qb _)) J J J K1 Lh Zg J hw) fun g_8 hg_8=>Xb J (Zh (n:=14) (Zd8 _ _ _ _ _ _ ‹_› ‹_›) J J J K2 call176 (Zd 12 J J J (Zd 13 J J J Zg)) J hw) fun g_9 hg_9=>Xb J (Zcp 3 J J K2 (fun ob=>Zl (i:=3) J J J J J J Xi J J ⟨Zf J,Zn (i:=8) J Zi,trivial⟩ J hw ob)) (fun _ _=>?_)
 exact Xb J (Zcp 4 J J K2 (fun ob=>Zl (i:=4) J J J J J J Xi J J ⟨Zf J,Zn (i:=11) J Zi,trivial⟩ J hw ob)) fun _ _=>Po J (Zl (i:=5) J J J J J J Xi J J ⟨Zf J,Zn (i:=14) J Zi,trivial⟩ J hw trivial) fun _ _=>Yl<|Yk<|Za<|Zq<|Yu (.inl J) hsc (_,_,_,_,_,_) _ (fun a w hs=>Zz9 hs results178 (Xg (i:=3) J J Lp Xi J) (Xg (i:=4) J J Lp Xi J) (Xg (i:=5) J J Lp Xi J)) J ⟨by assumption,by assumption,by assumption⟩ J (Xu 8 J J J (Xu 11 J J J (Xu 14 J J J Zm)))
theorem Zfq(x y x2 y2:Int)(hx:bl x.natAbs≤65536)(hy:bl y.natAbs≤65536)(hx2:bl x2.natAbs≤65536)(hy2:bl y2.natAbs≤65536)(hp:0<y)(hp2:0<y2):On prog 146 #[rX x y,rX x2 y2] [] (.tuple #[.int .i64 (x*y2-x2*y).sign,.int .i64 0]):=by
 refine Yi func146 J ntmps146 J trivial fun w0 sc hw hsc=>?_
 simp only [Zu,Zt]
 have b1:=Qk x y2
 have b2:=Qk x2 y
 have b3:=Qk y y2
 have b4:=Qk x x2
 have b5:=Zlh (x2*y)
 have b6:=Ky (x*y2) (-(x2*y))
 refine Zb<|Ze<|tt (Yw (i:=1) J J J J J hw) fun b _=>tt (Yw (i:=2) J J J J J hw) fun b_2 _=>Zp J<|Zp J<|Zc<|Za<|Zb<|Zb<|Ze<|dt (Ym (i:=1) J J J Xq Yr J J J J)<|dt (Ym (i:=2) J J J Xq Yr J J J J)<|tt (Zh (n:=2) (Zhf _ _ _ _ ‹_› ‹_› ‹_› ‹_› ‹_› ‹_›) J J J K2 call177 Zg J hw) fun _ _=>dt (Xl J J)<|Zc<|Za<|Yp J<|Zk<|Za<|Zb<|Ze<|dt (Ym (i:=1) J J J Xq Yr J J J J)<|dt (Ym (i:=2) J J J Xq Yr J J J J)<|tt (Zh (n:=3) (Zfp _ _ _ _ ‹_› ‹_› ‹_› ‹_›) J J J K2 call178 Zg J hw) (fun g hg=>?_)
 obtain⟨hc1,hc2,hc3⟩:=hg
 refine mv J<|dt (Zz J J J)<|dt (Zz J J J)<|dt (Zz J J J)<|tt (Zy (i:=6) J J zeroValue154 J J hw) fun b_3 _=>tt (Zy (i:=7) J J zeroValue154 J J hw) fun b_4 _=>tt (Zy (i:=8) J J zeroValue154 J J hw) fun b_5 _=>tt (Zl (i:=6) J J J J J J Xi J J ⟨Zf J,Zn (i:=3) J Zi,trivial⟩ J hw trivial) fun _ _=>tt (Zl (i:=7) J J J J J J Xi J J ⟨Zf J,Zn (i:=4) J Zi,trivial⟩ J hw trivial) fun _ _=>tt (Zl (i:=8) J J J J J J Xi J J ⟨Zf J,Zn (i:=5) J Zi,trivial⟩ J hw trivial) fun _ _=>Zc<|Za<|Zb<|Qs (fun _=>False) [(0,0),(1,0),(2,1),(3,1),(4,1),(5,3),(6,3)] ?_ ?_
 ·kernel_rfl
 exact Zs J J (Yt (Yb (i:=6) J J J Lp Xi J J))<|Zs J J (Yt (Yb (i:=7) J J J Lp Xi J J))<|Xb J (Zh (n:=9) (Zor _ _ _ ‹_›) J J J K1 call134 (Zd 4 J J J Zg) J hw) fun g_2 hg_2=>Xb J (Zh (n:=10) (Zgn _ _ _ _ _ _ ‹_› ‹_›) J J J K2 call131 (Zd 3 J J J (Zd 9 J J J Zg)) J hw) fun g_3 hg_3=>Xb J (Zh (n:=10) (Zkk _ _ _ ‹_›) J J J K1 call135 (Zd 10 J J J Zg) J hw) fun _ _=>Po J (Od (Mb J J) J) fun _ _=>Po J (Od (Mb J J) J) fun _ _=>Ob<|Za<|Zq<|Yu (.inl J) hsc () _ (fun a w hs=>Og hs results146 J J) (by rw [Int.sub_eq_add_neg]<;>rfl) trivial J Zm
theorem Zlm(x y x2 y2:Int)(hx:bl x.natAbs≤65536)(hy:bl y.natAbs≤65536)(hx2:bl x2.natAbs≤65536)(hy2:bl y2.natAbs≤65536)(hp:0<y)(hp2:0<y2):On prog 143 #[rX x y,rX x2 y2] [] (Zc0 (x*y2+x2*y) (y*y2)):=by
 refine Yi func143 J ntmps143 J trivial fun w0 sc hw hsc=>?_
 simp only [Zu,Zt]
 have b1:=Qk x y2
 have b2:=Qk x2 y
 have b3:=Qk y y2
 have b4:=Qk x x2
 have b6:=Ky (x*y2) (x2*y)
 refine Zb<|Ze<|tt (Yw (i:=1) J J J J J hw) fun b _=>tt (Yw (i:=2) J J J J J hw) fun b_2 _=>tt (Zy (i:=3) J J zeroValue41 J J hw) fun b_3 _=>Zp J<|Zc<|Za<|Zb<|Zb<|Ze<|dt (Ym (i:=1) J J J Xq Yr J J J J)<|dt (Ym (i:=2) J J J Xq Yr J J J J)<|tt (Zh (n:=3) (Zhf _ _ _ _ ‹_› ‹_› ‹_› ‹_› ‹_› ‹_›) J J J K2 call177 Zg J hw) fun _ _=>dt (Xl J J)<|Zc<|Za<|Yp J<|Zk<|Za<|Zb<|Ze<|dt (Ym (i:=1) J J J Xq Yr J J J J)<|dt (Ym (i:=2) J J J Xq Yr J J J J)<|tt (Zh (n:=4) (Zfp _ _ _ _ ‹_› ‹_› ‹_› ‹_›) J J J K2 call178 Zg J hw) (fun g hg=>?_)
 obtain⟨hc1,hc2,hc3⟩:=hg
 refine mv J<|dt (Zz J J J)<|dt (Zz J J J)<|dt (Zz J J J)<|tt (Zy (i:=7) J J zeroValue154 J J hw) fun b_4 _=>tt (Zy (i:=8) J J zeroValue154 J J hw) fun b_5 _=>tt (Zy (i:=9) J J zeroValue154 J J hw) fun b_6 _=>tt (Zl (i:=7) J J J J J J Xi J J ⟨Zf J,Zn (i:=4) J Zi,trivial⟩ J hw trivial) fun _ _=>tt (Zl (i:=8) J J J J J J Xi J J ⟨Zf J,Zn (i:=5) J Zi,trivial⟩ J hw trivial) fun _ _=>tt (Zl (i:=9) J J J J J J Xi J J ⟨Zf J,Zn (i:=6) J Zi,trivial⟩ J hw trivial) fun _ _=>Zc<|Za<|Zb<|Qs (fun _=>False) [(0,0),(1,0),(3,0),(2,1),(4,1),(5,0),(6,0),(7,3),(8,3)] ?_ ?_
 ·kernel_rfl
 exact Zs J J (Yt (Yb (i:=7) J J J Lp Xi J J))<|Zs J J (Yt (Yb (i:=8) J J J Lp Xi J J))<|Zs J J (Yt (Yb (i:=9) J J J Lp Xi J J))<|Xb J (Zh (n:=10) (Zgn _ _ _ _ _ _ ‹_› ‹_›) J J J K2 call131 (Zd 4 J J J (Zd 5 J J J Zg)) J hw) fun g_2 hg_2=>Xb J (Zh (n:=10) (Zcm _ _ _ _ _ _ ‹_› ‹_› (Int.mul_ne_zero (by omega) (by omega))) J J J K2 call163 (Zd 10 J J J (Zd 6 J J J Zg)) J hw) fun _ _=>Zs J J (Yt (Zz J J J))<|Zs J J (Yt (Zz J J J))<|Po J (Zl (i:=3) J J J J J J Yr J J ⟨Zf J,Zf J,Zf J,Zf J,trivial⟩ J hw trivial) fun _ _=>Po J (Od (Mb J J) J) fun _ _=>Ob<|Za<|Zq<|Yu (.inl J) hsc () _ (fun a w hs=>Og hs results143 (Xg (i:=3) J J Xq Yr J) J) J trivial J Zm
theorem Cc(x y x2 y2:Int)(hx:bl x.natAbs≤65536)(hy:bl y.natAbs≤65536)(hx2:bl x2.natAbs≤65536)(hy2:bl y2.natAbs≤65536)(hp:0<y)(hp2:0<y2:=by decide):On prog 144 #[rX x y,rX x2 y2] [] (Zc0 (x*x2) (y*y2)):=by
 refine Yi func144 J ntmps144 J trivial fun w0 sc hw hsc=>?_
 simp only [Zu,Zt]
 have b1:=Qk x y2
 have b2:=Qk x2 y
 have b3:=Qk y y2
 have b4:=Qk x x2
 refine Zb<|Ze<|tt (Yw (i:=1) J J J J J hw) fun b _=>tt (Yw (i:=2) J J J J J hw) fun b_2 _=>tt (Zy (i:=3) J J zeroValue41 J J hw) fun b_3 _=>Zp J<|Zc<|Za<|Zb<|Zb<|Ze<|dt (Ym (i:=1) J J J Xq Yr J J J J)<|dt (Ym (i:=2) J J J Xq Yr J J J J)<|tt (Zh (n:=3) (Zhf _ _ _ _ ‹_› ‹_› ‹_› ‹_› ‹_› ‹_›) J J J K2 call177 Zg J hw) fun _ _=>dt (Xl J J)<|Zc<|Za<|Yp J<|Zk<|Za<|Zb<|Qs (fun _=>False) [(0,0),(1,0),(3,0),(4,0),(7,0),(8,0),(10,0),(11,0),(2,1),(5,1),(6,1),(9,1),(12,1),(13,1),(14,1),(15,0),(16,0),(17,3),(18,3)] ?_ ?_
 ·kernel_rfl
 refine Zs J J (Yt (Yv J J Gb J Ye J J))<|Zs J J (Yt (Yb (i:=1) J J J Xs Ye J J))<|Zs J J (Yt (Yv J J Gb J Ye J J))<|Zs J J (Yt (Yb (i:=2) J J J Xs Ye J J))<|Zs J J (Yt (Yv J J Gb J Ye J J))<|Zs J J (Yt (Yb (i:=1) J J J Xs Ye J J))<|Zs J J (Yt (Yv J J Gb J Ye J J))<|Zs J J (Yt (Yb (i:=2) J J J Xs Ye J J))<|Xb J (Zh (n:=4) (Oj _ _ (Qb _)) J J J K1 Lh Zg J hw) fun g hg=>Xb J (Zh (n:=5) (Oj _ _ (Qb _)) J J J K1 Lh Zg J hw) fun g_2 hg_2=>Xb J (Zh (n:=6) (Zd8 _ _ _ _ _ _ ‹_› ‹_›) J J J K2 call176 (Zd 4 J J J (Zd 5 J J J Zg)) J hw) fun g_3 hg_3=>Xb J (Zh (n:=7) (Oj _ _ (Qb _)) J J J K1 Lh Zg J hw) fun g_4 hg_4=>Xb J (Zh (n:=8) (Oj _ _ (Qb _)) J J J K1 Lh Zg J hw) fun g_5 hg_5=>Xb J (Zh (n:=9) (Zd8 _ _ _ _ _ _ ‹_› ‹_›) J J J K2 call176 (Zd 7 J J J (Zd 8 J J J Zg)) J hw) fun g_6 hg_6=>Xb J (Zh (n:=9) (Zcm _ _ _ _ _ _ ‹_› ‹_› (Int.mul_ne_zero (by omega) (by omega))) J J J K2 call163 (Zd 6 J J J (Zd 9 J J J Zg)) J hw) fun _ _=>Zs J J (Yt (Zz J J J)) ?_
 exact Zs J J (Yt (Zz J J J))<|Po J (Zl (i:=3) J J J J J J Yr J J ⟨Zf J,Zf J,Zf J,Zf J,trivial⟩ J hw trivial) fun _ _=>Po J (Od (Mb J J) J) fun _ _=>Ob<|Za<|Zq<|Yu (.inl J) hsc () _ (fun a w hs=>Og hs results144 (Xg (i:=3) J J Xq Yr J) J) J trivial J Zm
theorem Zfr(x y:Int)(hx:bl x.natAbs≤65536:=by omega)(hy:bl y.natAbs≤65536:=by omega):On prog 84 #[wv x,wv y] [] (.int .i64 (x-y).sign):=by
 refine Yi func84 J ntmps84 J trivial fun w0 sc hw hsc=>?_
 simp only [Zu,Zt]
 have b5:=Zlh y
 have b6:=Ky x (-y)
 refine Zb<|Ze<|tt (Yw (i:=1) J J J J J hw) fun b _=>tt (Yw (i:=2) J J J J J hw) fun b_2 _=>Zp J<|Zc<|Za<|Zb<|Zb<|Ze<|dt (Yb (i:=1) J J J Xs Ye J J)<|dt (Yb (i:=2) J J J Xs Ye J J)<|tt (Zh (n:=2) (Hn _ _ ‹_› ‹_›) J J J K2 call129 Zg J hw) fun _ _=>dt (Xl J J)<|Zc<|Za<|Yp J<|Zk<|Za<|Zb<|Qs (fun _=>False) [(0,0),(2,0),(1,1),(3,1),(4,1),(5,1),(6,1),(7,3)] ?_ ?_
 ·kernel_rfl
 exact Zs J J (Yt (Yb (i:=1) J J J Xs Ye J J))<|Zs J J (Yt (Yb (i:=2) J J J Xs Ye J J))<|Xb J (Zh (n:=3) (Oj _ _ (Qb _)) J J J K1 Lh Zg J hw) fun g hg=>Xb J (Zh (n:=4) (Oj _ _ (Qb _)) J J J K1 Lh Zg J hw) fun g_2 hg_2=>Xb J (Zh (n:=5) (Zor _ _ _ ‹_›) J J J K1 call134 (Zd 4 J J J Zg) J hw) fun g_3 hg_3=>Xb J (Zh (n:=6) (Zgn _ _ _ _ _ _ ‹_› ‹_›) J J J K2 call131 (Zd 3 J J J (Zd 5 J J J Zg)) J hw) fun g_4 hg_4=>Xb J (Zh (n:=6) (Zkk _ _ _ ‹_›) J J J K1 call135 (Zd 6 J J J Zg) J hw) fun _ _=>Po J (Od (Mb J J) J) fun _ _=>Ob<|Za<|Zq<|xU hsc results84 J J (by rw [Int.sub_eq_add_neg]<;>rfl)
theorem Ydo(v:Value)(xs:List Int)(hv:Vp xs):On prog 197 #[v] [Px 2 wv v xs] (.bool (decide (Zax xs))):=by
 refine Yi func197 J ntmps197 J K1 fun w0 sc hw hsc=>?_
 simp only [Zu,Zt]
 have hlen:=hv.len
 have hmz:=Oi hv.sz
 have q1:(xs.length+2)*(xs.length+2)≤27*27:=Nat.mul_le_mul (by omega) (by omega)
 have q2:(xs.length+2)*(xs.length+2)*(Pi xs+16)≤27*27*65552:=Nat.mul_le_mul q1 (by omega)
 have q3:((xs.length:Int)-1+3)*((xs.length:Int)-1+3)=(((xs.length+2)*(xs.length+2):Nat):Int):=by rw [show(xs.length:Int)-1+3=((xs.length+2:Nat):Int) by omega];push_cast;rfl
 have q4:((xs.length:Int)-1+3)*((xs.length:Int)-1+3)*((Pi xs:Int)+16)=(((xs.length+2)*(xs.length+2)*(Pi xs+16):Nat):Int):=by rw [q3];push_cast;rfl
 refine Zb<|Ze<|Zp J<|Zc<|Za<|Zb<|Zb<|Ze<|mv J<|tt (Zh (n:=1) (Qx _ _ ‹_›) J J J K1 Bq (Zd 1 J J J Zg) J hw) fun _ _=>dt (Xl J J)<|Zc<|Za<|Yp J<|Zk<|Za<|Zb<|Ze<|mv J<|tt (Zh (n:=1) (Zia _ _ hv) J J J K1 call105 (Zd 1 J J J Zg) J hw) fun _ _=>mv J<|dt (Zz J J J)<|dt (Zz J J J)<|Zp J<|Zp J<|Zc<|Za<|Zb<|Ze<|mv J<|tt (Zh (n:=1) (Zmu _ _ hv) J J J K1 call106 (Zd 1 J J J Zg) J hw) fun _ _=>mv J<|dt (Zz J J J)<|dt (Zz J J J)<|Zp J<|Zp J<|Zc<|Za<|Zb<|Ze<|mv J<|dt (Yf J J (i:=1) J Zi Xx)<|dt (Pj J J J)<|mv J<|Pf (d:=23) J (fun s24=>?_) (fun s24=>?_)
 ·exact Xt J J J<|Xt J J J<|Xt J J J<|Xt J J J<|Xt J J J<|Xt J J J<|Xt J J J<|Xt J J J<|Xt J J J<|dt (Yy J J J)<|Zp J<|Zc<|Za<|Zq<|xU hsc results197 J J (by first | exact sf_t (by omega) | exact sf_i (by omega) q4)
 ·exact Xh (Yd J J) J J<|Xh (Ys J J J) J J<|Xh (Yd J J) J J<|Xh (Ys J J J) J J<|Xh (Db J J J (by rw [q3];exact⟨by omega,by omega⟩)) J J<|Xh (Yd J J) J J<|Xh (Ys J J J) J J<|Xh (Db J J J (by rw [q4];exact⟨by omega,by omega⟩)) J J<|Xh (Dc J J J) J J<|dt (Yh J J J)<|Zp J<|Zc<|Za<|Zq<|xU hsc results197 J J (by first | exact sf_t (by omega) | exact sf_i (by omega) q4)
theorem Zxh(v:Value)(xs:List Int)(hv:Vp xs):On prog 183 #[v,.slice none 0 0] [Px 2 wv v xs] (.int .i64 (Zt2 xs)):=by
 refine Yi func183 J ntmps183 J K1 fun w0 sc hw hsc=>?_
 simp only [Zu,Zt]
 refine Yo (Np 999 2 31 wv)<|Yo (Pg 999 J J pV)<|Zb<|Ze<|Zp J<|Zc<|Za<|Zb<|Ze<|mv J<|tt (Zh (n:=1) (Ydo _ _ hv) J J J K1 call197 (Zd 1 J J J Zg) J hw) fun _ _=>dt (Zdi J J)<|Zp J<|Zc<|Za<|Zb<|Zb<|Ze<|mv J<|dt (Yf J J (i:=999) J Zi Zlo)<|mv J<|Zc<|Za<|Zo<|Oc [(0,_),(1,_),(13,_),(14,_)] [(0,_),(1,_),(999,_)] (fun(_:Unit)=>[(15,.int .i64 0),(5,.bool (decide (¬Zax xs)))]) (fun(_:Unit)=>[]) (fun(_:Unit)=>True) (fun(_:Unit)=>0) () trivial K6 K3 ?_
 rintro _ -
 simp only [CA,NA]
 refine Zb<|Ze<|dt (dF (Xv J J J) (vB (by decide)))<|Zc<|Za<|Zb<|Yp J<|Yx<|Zx<|Zx<|Pd<|Za<|Zb<|Zb<|Ze<|mv J<|tt (Zh (n:=1) (Qx _ _ ‹_›) J J J K1 Bq (Zd 1 J J J Zg) J hw) fun _ _=>dt (Xl J J)<|Zc<|Za<|Yp J<|Zk<|Za<|Zb<|Zb<|Ze<|mv J<|dt (Yf J J (i:=1) J Zi Xx)<|dt (Pj J J J)<|Zc<|Za<|Zr J (fun h39=>?_) (fun h39=>?_)
 ·exact Zb<|Ze<|Zp J<|Zc<|Za<|Zq<|Yn<|xU hsc results183 J J (by unfold Zt2;rw [if_pos (by omega)])
 ·refine Zk<|Za<|Zb<|Zb<|Ze<|mv J<|dt (Yf J J (i:=999) J Zi Zlo)<|dt (dF (Pj J J J) (vB (by decide)))<|Zc<|Za<|Yp J<|Zk<|Za<|Zb<|Zb<|Ze<|mv J<|Zc<|Za<|Mf J (fun h47=>?_) (fun h47=>?_)
  ·exact Zb<|Ze<|Zp J<|Zc<|Za<|Zq<|Yn<|xU hsc results183 J J (by unfold Zt2;rw [if_neg (by omega),if_neg (by simpa using h47)])
  ·exact Zk<|Za<|Zb<|Ze<|Zp J<|Zc<|Za<|Zq<|xU hsc results183 J J (by unfold Zt2;rw [if_neg (by omega),if_pos (by simpa using h47)])
theorem Zqa(v:Value)(xs:List Int)(hv:Vp xs)(h0:xs≠[]):Cal prog 184 #[v] [Px 2 wv v xs] true (G:=Value) (fun r=>True) (fun r=> .tuple #[r,.int .i64 0]) (fun r=>[Px 2 wv r (Qj xs)]):=by
 refine Yi func184 J ntmps184 J K1 fun w0 sc hw hsc=>?_
 simp only [Zu,Zt]
 have hvp:=Ii hv
 have hl0:=List.length_pos_iff.2 h0
 have hlp:=Xd xs
 have hlen:=hv.len
 refine Zb<|Ze<|Zp J<|Zp J<|Zc<|Za<|Zb<|Ze<|mv J<|tt (Zh (n:=2) (Ku _ _ hv) J J J K1 call150 (Zd 1 J J J Zg) J hw) fun _ _=>mv J<|dt (Zz J J J)<|dt (Zz J J J)<|Zp J<|Zp J<|Zc<|Za<|Zb<|Zb<|Ze<|mv J<|dt (dT (Pj J J J) (vB (by decide)))<|mv J<|Xh (Yd J J) J J<|Xh (Yd J J) J J<|Xh (Yf J J (i:=2) J Zi Xx) J J<|Xh (Qd J J J) J J<|Xh (Xc (ii:=2) (i:=((Xf xs).length-1)) J J J J Zi Xx Ye) J J<|Xh (Xr (ii:=2) 0 J J J Zi pV (by first | omega | (simp only [List.length_set];omega))) J J<|Lz (Zh (n:=2) (Ko _ (hvp.sz _)) J J J K1 call104 Zg J hw) J J J fun _ _=>Xh (Xv J J J) J J<|dt (Yy J J J)<|Zc<|Za<|Zr J (fun h56=>?_) (fun h56=>?_)
 ·exact Zb<|Ze<|mv J<|tt (Zh (n:=2) (Qg _ ⟨by decide,by decide⟩) J J J K1 Gy Zg J hw) fun _ _=>tt (Zh (n:=3) (Ae _ _ _ hvp (by decide +kernel) (fun i=>Zcb hvp.sz i)) J J J K2 call151 (Zd 2 J J J Zg) J hw) fun _ _=>dt (Zz J J J)<|dt (Zz J J J)<|Zp J<|Zp J<|Zc<|Za<|Zq<|Yn<|Yu (.inl J) hsc _ _ (fun a w hs=>Og hs results184 J J) J trivial J (Xe 3 J J J (by rw [Zi4 (by omega) ((Qz _).1 ‹_›)]<;>rfl) Zm)
 ·exact Zk<|Za<|Zb<|Ze<|mv J<|mv J<|Zp J<|Zp J<|Zc<|Za<|Zq<|Yu (.inl J) hsc _ _ (fun a w hs=>Og hs results184 J J) J trivial J (Xe 2 J J J (by rw [Zi3 (fun h=>by have h2:=(Qz _).2 h;exact absurd h2 ‹_›)]<;>rfl) Zm)
theorem st_sqf(v:Value)(xs:List Int)(hv:Vp xs)(h0:xs≠[])(hf:Zax xs)(F:Nat)(hS:Ydp F xs):Cal prog 161 #[v] [Px 2 wv v xs] true (G:=Value) (fun r=>True) (fun r=> .tuple #[r,.int .i64 0]) (fun r=>[Px 2 wv r (sqf F xs)]):=by
 refine Yi func161 J ntmps161 J K1 fun w0 sc hw hsc=>?_
 simp only [Zu,Zt]
 obtain⟨hS1,hS2,hS3,hS4,hS5⟩:=hS
 have hvn:=Zsr hv
 have hln:=Ng hv.tr
 have hvd:Vp (Qi (Qj xs)):=Zfs hvn (fun i hi=>hS1 i (by omega))
 have hvg:=Zuf hvn hvd hS3
 have hc0:=Yfy h0 hf
 refine Yo (Np 999 2 31 wv)<|Yo (Pg 999 J J pV)<|Zb<|Ze<|Zp J<|Zp J<|Zc<|Za<|Zb<|Zb<|Ze<|mv J<|tt (Zh (n:=1) (Zxh _ _ hv) J J J K2 call183 (Zd 1 J J J Zg) J hw) fun _ _=>Zp J<|Zc<|Za<|Zb<|Ze<|mv J<|dt (Xz J J J)<|Zc<|Za<|Zr J (fun h64=>?_) (fun h64=>?_)
 ·exfalso;omega
 ·refine Zk<|Za<|Zb<|Ze<|mv J<|tt (Zh (n:=2) (Zqa _ _ hv h0) J J J K1 call184 (Zd 1 J J J Zg) J hw) fun _ _=>mv J<|dt (Zz J J J)<|dt (Zz J J J)<|Zp J<|Zp J<|Zc<|Za<|Zb<|Zb<|Ze<|mv J<|dt (dF (Xz J J J) (vB (by decide)))<|Zc<|Za<|Yp J<|Zk<|Za<|Zb<|Ze<|mv J<|tt (Zh (n:=3) (Ay _ _ hvn (fun i=>by by_cases hi:i<xs.length;exact hS1 i hi;rw [Qe (by omega)];simp [Ly])) J J J K1 call109 (Zd 2 J J J Zg) J hw) fun _ _=>mv J<|dt (Zz J J J)<|dt (Zz J J J)<|Zp J<|Zp J<|Zc<|Za<|Zb<|Zb<|Ze<|mv J<|dt (dF (Xz J J J) (vB (by decide)))<|Zc<|Za<|Yp J<|Zk<|Za<|Zb<|Ze<|mv J<|mv J<|tt (Zh (n:=4) (Zq2 _ _ _ _ hvn hvd F hS2 hS3) J J J K2 call110 (Zd 2 J J J (Zd 3 J J J Zg)) J hw) fun _ _=>mv J<|dt (Zz J J J)<|dt (Zz J J J)<|Zp J<|Zp J<|Zc<|Za<|Zb<|Zb<|Ze<|mv J<|dt (dF (Xz J J J) (vB (by decide)))<|Zc<|Za<|Yp J<|Zk<|Za<|Zb<|Ze<|mv J<|mv J<|tt (Zh (n:=5) (Zc1 _ _ _ _ hvn hvg hS4) J J J K2 call111 (Zd 2 J J J (Zd 4 J J J Zg)) J hw) fun _ _=>dt (Zz J J J)<|dt (Zz J J J)<|Zp J<|Zp J<|Zc ?_
  exact Za<|Zq<|Yu (.inl J) hsc _ _ (fun a w hs=>Og hs results161 J J) (by rw [if_pos hS5]<;>rfl) trivial J (Xe 5 J J J (by rw [if_pos hS5]<;>rfl) Zm)
theorem Ydn(v u:Value)(xs ys:List Int)(hv:Vp xs)(hu:Vp ys)(h0:ys≠[])(hd:Bp xs ys=0)(hl:ys.length≤xs.length):Cal prog 162 #[v,u] [Px 2 wv v xs,Px 2 wv u ys] true (G:=Value) (fun r=>True) (fun r=> .tuple #[r,.int .i64 0]) (fun r=>[Px 2 wv r (Le xs ys)]):=by
 refine Yi func162 J ntmps162 J K2 fun w0 sc hw hsc=>?_
 simp only [Zu,Zt]
 have hvr:=Zau hv hd
 have hvp:=Ii hvr
 have hlen:=hv.len
 have hlen2:=hu.len
 have hl0:=List.length_pos_iff.2 h0
 refine Yo (Np 999 2 31 wv)<|Yo (Pg 999 J J pV)<|Zb<|Ze<|Zp J<|Zp J<|Zc<|Za<|Zb<|Ze<|mv J<|mv J<|tt (Zh (n:=3) (Zmt _ _ _ _ hv hu hd) J J J K2 call155 (Zd 1 J J J (Zd 2 J J J Zg)) J hw) fun _ _=>mv J<|dt (Zz J J J)<|dt (Zz J J J)<|Zp J<|Zp J<|Zc<|Za<|Zb<|Zb<|Ze<|mv J<|dt (dF (Xz J J J) (vB (by decide)))<|mv J<|Xh (Yd J J) J J<|Xh (Yf J J (i:=3) J Zi Xx) J J<|Xh (Pj J J J) J J<|dt (Yh J J J)<|Zc<|Za<|Zr J (fun h85=>?_) (fun h85=>?_)
 ·exact Zb<|Ze<|mv J<|Zp J<|Zp J<|Zc<|Za<|Zq<|Yn<|Yu (.inl J) hsc (.slice none 0 0) _ (fun a w hs=>Og hs results162 J J) J trivial J (Ig (Zxi (by omega)) Zm)
 ·refine Zk<|Za<|Zb<|Ze<|mv J<|tt (Zh (n:=4) (Ku _ _ hvr) J J J K1 call150 (Zd 3 J J J Zg) J hw) fun _ _=>mv J<|dt (Zz J J J)<|dt (Zz J J J)<|Zp J<|Zp J<|Zc<|Za<|Zb<|Zb<|Ze<|mv J<|dt (dF (Xz J J J) (vB (by decide)))<|Zc<|Za<|Yp J<|Zk<|Za<|Zb<|Ze<|mv J<|dt (Yf J J (i:=1) J Zi Xx)<|mv J<|dt (Yf J J (i:=2) J Zi Xx)<|dt (Qd J J J)<|dt (Ys J J J)<|Zp J<|Zc<|Za<|Zb<|Zb<|Ze<|mv J<|mv J<|dt (Yf J J (i:=2) J Zi Xx)<|dt (Qd J J J)<|dt (Xc (ii:=2) (i:=(ys.length-1)) J J J J Zi Xx Ye)<|dt (Xr (ii:=2) 0 J J J Zi pV (by first | omega | (simp only [List.length_set];omega)))<|tt (Zh (n:=4) (Ko _ (hu.sz _)) J J J K1 call104 Zg J hw) fun _ _=>dt (Xv J J J)<|mv J<|Pf (d:=45) J (fun s94=>?_) (fun s94=>?_)
  ·refine Xh (Yd J J) J J<|Xh (Zk7 J J J) J J<|Xh (Pj J J J) J J<|dt (Yy J J J)<|Zc<|Za<|Zr J (fun h94=>?_) (fun h94=>?_)
   ·exact Zb<|Ze<|mv J<|Zp J<|Zp J<|Zc<|Za<|Zq<|Yn<|Yu (.inl J) hsc _ _ (fun a w hs=>Og hs results162 J J) J trivial J (Xe 4 J J J (by rw [Ydq hl ‹_› ‹_›]<;>rfl) Zm)
   ·exact Zk<|Za<|Zb<|Ze<|mv J<|tt (Zh (n:=4) (Qg _ ⟨by decide,by decide⟩) J J J K1 Gy Zg J hw) fun _ _=>tt (Zh (n:=5) (Ae _ _ _ hvp (by decide +kernel) (fun i=>Zcb hvp.sz i)) J J J K2 call151 (Zd 4 J J J Zg) J hw) fun _ _=>dt (Zz J J J)<|dt (Zz J J J)<|Zp J<|Zp J<|Zc<|Za<|Zq<|Yu (.inl J) hsc _ _ (fun a w hs=>Og hs results162 J J) J trivial J (Xe 5 J J J (by first | (rw [Zuo ‹_›]<;>rfl) | (rw [Zun hl ‹_›]<;>rfl)) Zm)
  ·exact Xt J J J<|Xt J J J<|Xt J J J<|dt (Yh J J J)<|Zc<|Za<|Yp J<|Zk<|Za<|Zb<|Ze<|mv J<|tt (Zh (n:=5) (Qg _ ⟨by decide,by decide⟩) J J J K1 Gy Zg J hw) fun _ _=>tt (Zh (n:=6) (Ae _ _ _ hvp (by decide +kernel) (fun i=>Zcb hvp.sz i)) J J J K2 call151 (Zd 4 J J J Zg) J hw) fun _ _=>dt (Zz J J J)<|dt (Zz J J J)<|Zp J<|Zp J<|Zc<|Za<|Zq<|Yu (.inl J) hsc _ _ (fun a w hs=>Og hs results162 J J) J trivial J (Xe 6 J J J (by first | (rw [Zuo ‹_›]<;>rfl) | (rw [Zun hl ‹_›]<;>rfl)) Zm)
theorem Zzi(v:Value)(xs:List Int)(hv:Vp xs)(h0:xs≠[])(hf:Zax xs)(F:Nat)(hC:Ar F xs):Cal prog 118 #[v] [Px 2 wv v xs] true (G:=Value×List (SL×List Int)) (fun r=>r.2.map Prod.snd=chn F xs) (fun r=> .tuple #[r.1,.int .i64 0]) (fun r=>[Ec 1 Gu qZ r.1 r.2]):=by
 refine Yi func118 J ntmps118 J K1 fun w0 sc hw hsc=>?_
 simp only [Zu,Zt]
 obtain⟨hC1,hC2,hC3⟩:=hC
 have hvq:=Zjm hv h0 hC1
 have hlq:=Zkr hv hC1
 have hvqd:Vp (Qi (sqf F xs)):=Zfs hvq (fun i hi=>hC2 i (by omega))
 refine Yo (Np 999 2 31 wv)<|Yo (Pg 999 J J pV)<|Zb<|Ze<|Zp J<|Zp J<|Zc<|Za<|Zb<|Ze<|mv J<|tt (Zh (n:=2) (st_sqf _ _ hv h0 hf F hC1) J J J K1 call161 (Zd 1 J J J Zg) J hw) fun _ _=>mv J<|dt (Zz J J J)<|dt (Zz J J J)<|Zp J<|Zp J<|Zc<|Za<|Zb<|Zb<|Ze<|mv J<|dt (dF (Xz J J J) (vB (by decide)))<|Zc<|Za<|Yp J<|Zk<|Za<|Zb<|Ze<|mv J<|tt (Zh (n:=3) (Ay _ _ hvq (fun i=>by by_cases hi:i<xs.length;exact hC2 i hi;rw [Qe (by omega)];simp [Ly])) J J J K1 call109 (Zd 2 J J J Zg) J hw) fun _ _=>mv J<|dt (Zz J J J)<|dt (Zz J J J)<|Zp J<|Zp J<|Zc<|Za<|Zb<|Zb<|Ze<|mv J<|dt (dT (Pj J J J) (vB (by decide)))<|Zc<|Za<|Pv J<|Ze<|mv J<|tt (Zh (n:=80) (Ku _ _ hvqd) J J J K1 call150 (Zd 3 J J J Zg) J hw) fun _ _=>mv J<|dt (Zz J J J)<|dt (Zz J J J)<|Zp J<|Zp J<|Zc<|Za<|Zb<|Zb<|Ze<|mv J<|dt (dF (Xz J J J) (vB (by decide)))<|Zc<|Za<|Yp J<|Zk<|Za<|Zb<|Zo9 (Nk 2 J Zi) (fun ss hss=>?_)
 subst hss
 refine Yo (Kj qZ 71)<|Yo (Ow (q:=qZ) (z:=(ss,sqf F xs)) 71 2 71 J J J J J)<|Zo9 (Nk 80 J Zi) (fun sd0 hsd=>?_)
 subst hsd
 refine Ze<|mv J<|tt (Pn (i:=70) (ivs:=[(0,_)]) (enc:=Gu) [(ss,sqf F xs)] J J K2 Ze4 ti23 J J J J J pS.cells J J hw) fun v _=>Zp J<|Zc<|Za<|Zb<|Zo<|Oc [] [(0,_),(1,_),(999,_),(2,_),(3,_)] (fun(q:List (SL×List Int)×SL×List Int×SL×List Int×Nat×Value)=>[(7,q.2.2.2.2.2.2),(6,svv q.2.2.2.1)]) (fun(q:List (SL×List Int)×SL×List Int×SL×List Int×Nat×Value)=>[(70,Ld 1 23 Gu q.2.2.2.2.2.2 (q.1 ++ [(q.2.1,q.2.2.1)])),(71,Dx qZ (q.1 ++ [(q.2.1,q.2.2.1)])),(80,Px 2 wv (svv q.2.2.2.1) q.2.2.2.2.1)]) (fun(q:List (SL×List Int)×SL×List Int×SL×List Int×Nat×Value)=>(Vp q.2.2.1)∧(Vp q.2.2.2.2.1)∧(cok q.2.2.2.2.2.1 q.2.2.1 q.2.2.2.2.1)∧(q.1.map Prod.snd ++ Li q.2.2.2.2.2.1 q.2.2.1 q.2.2.2.2.1=chn F xs)∧(q.1.length+q.2.2.2.2.1.length≤25)) (fun(q:List (SL×List Int)×SL×List Int×SL×List Int×Nat×Value)=>q.2.2.2.2.1.length) ([],ss,sqf F xs,sd0,Xf (Qi (sqf F xs)),F,_) ⟨hvq,Ii hvqd,hC3,J,by rw [Xd];simp;have:=hvqd.len;omega⟩ K2 K8 ?_
 rintro⟨ws,sx,x,sd,y,f,vo⟩ ⟨hvx,hvy,hck,hch,hwl⟩
 dsimp only at hvx hvy hck hch hwl
 simp only [CA,NA]
 refine Zb<|Zb<|Ze<|mv J<|dt (Yf J J (i:=80) J Zi Xx)<|dt (Pw J J J)<|Zc<|Za<|Zr J (fun h114=>?_) (fun h114=>?_)
 ·have hy0:y≠[]:=fun e=>by rw [e]at h114;simp at h114
  obtain⟨f0,rfl,hd,hle,hck2,hsc2⟩:=Zg6 hck hy0
  refine Zk<|Za<|Zo<|Zb<|Ze<|mv J<|mv J<|tt (Pn (i:=4) (ivs:=[(0,_)]) (enc:=Gu) [(sd,y)] J J K2 Ze4 ti23 J J J J J pS.cells J J hw) fun v_2 _=>tt (Hd (i:=70) (j:=4) (by_:=24) J J J J J J (by decide) J (Xa pS) Ze4 ti23 J pS J J J (by simp;omega) (by decide) J hw) fun v_3 _=>Zp J<|Zc<|Za<|Zb ?_
  have hll:(ws ++ [(sx,x)] ++ [(sd,y)]).length=ws.length+2:=by simp
  refine Yo (Ow (q:=qZ) (z:=(sd,y)) 71 80 71 J J J J J)<|Yo (s_many (q:=qZ) 71 92 (sx,x) J J (by simp) J)<|Ze<|mv J<|mv J<|dt (Yf J J (i:=70) J (Xa pS) Ze4)<|dt (Qd J J J)<|dt (Xc (ii:=70) (i:=ws.length) J J J J (Xa pS) Ze4 sizeOf23)<|dt (Eb (r':=svv sx) (Xr (ii:=70) Z0 J J J (Xa pS) pS) (by simp [List.getD_eq_getElem?_getD])) ?_
  refine mv J<|tt (Zh (n:=80) (Ydn _ _ _ _ hvx hvy hy0 hd hle) J J J K2 call162 (Zd 92 J J J (Zd 80 J J J Zg)) J hw) fun _ _=>Ybu (Nk 80 J Zi) (fun sn hsn=>?_)
  subst hsn
  exact mv J<|dt (Zz J J J)<|dt (Zz J J J)<|Zp J<|Zp J<|Zc<|Za<|Zb<|Ze<|mv J<|dt (dF (Xz J J J) (vB (by decide)))<|Zc<|Za<|Yp J<|Zk<|Qn<|Xk (ws ++ [(sx,x)],sd,y,sn,Le x y,f0,_) ⟨hvy,Zjn hvx hd,hck2,by rw [←hch,hsc2];simp,by have h7:=Ov x hy0;have h8:=Bm (y:=y) hvx.tr;simp;omega⟩ (by have h7:=Ov x hy0;have h8:=Bm (y:=y) hvx.tr;dsimp only;omega) K2 K8
 ·refine Yx<|Zx<|Zx<|Pd<|Za<|Zb ?_
  obtain rfl:y=[]:=List.eq_nil_of_length_eq_zero (by omega)
  exact Yo (Pg 70 J J pS)<|Yo (Kb 70 71 72 J J J J)<|Ze<|mv J<|Zp J<|Zp J<|Zc<|Za<|Zq<|Yu (.inl J) hsc (_,ws ++ [(sx,x)]) _ (fun a w hs=>Og hs results118 J J) J (by rw [←hch,Dt];simp) J (Xu 72 J J J Zm)
theorem Znt(v:Value)(m:Nat)(xs:List Int)(hv:Vp xs)(hm:m≤1000:=by omega):On prog 50 #[v,.int .i64 (m:Int)] [Px 2 wv v xs] (.bool (decide (Zct xs m))):=by
 refine Yi func50 J ntmps50 J K1 fun w0 sc hw hsc=>?_
 simp only [Zu,Zt]
 have hlen:=hv.len
 have hmz:=Oi hv.sz
 have q1:(xs.length+2)*(xs.length+2)≤27*27:=Nat.mul_le_mul (by omega) (by omega)
 have q2:(xs.length+2)*(xs.length+2)*(Pi xs+m+2*(xs.length-1)+32)≤27*27*70000:=Nat.mul_le_mul q1 (by omega)
 have q3:((xs.length:Int)-1+3)*((xs.length:Int)-1+3)=(((xs.length+2)*(xs.length+2):Nat):Int):=by rw [show(xs.length:Int)-1+3=((xs.length+2:Nat):Int) by omega];push_cast;rfl
 have q4:xs.length≠0→((xs.length:Int)-1+3)*((xs.length:Int)-1+3)*((Pi xs:Int)+(m:Int)+2*((xs.length:Int)-1)+32)=(((xs.length+2)*(xs.length+2)*(Pi xs+m+2*(xs.length-1)+32):Nat):Int):=fun h=>by rw [q3,show(Pi xs:Int)+(m:Int)+2*((xs.length:Int)-1)+32=((Pi xs+m+2*(xs.length-1)+32:Nat):Int) by omega];push_cast;rfl
 refine Zb<|Ze<|Zp J<|Zc<|Za<|Zb<|Ze<|mv J<|tt (Zh (n:=1) (Zia _ _ hv) J J J K1 call105 (Zd 1 J J J Zg) J hw) fun _ _=>mv J<|dt (Zz J J J)<|dt (Zz J J J)<|Zp J<|Zp J<|Zc<|Za<|Zb<|Ze<|mv J<|tt (Zh (n:=1) (Zmu _ _ hv) J J J K1 call106 (Zd 1 J J J Zg) J hw) fun _ _=>mv J<|dt (Zz J J J)<|dt (Zz J J J)<|Zp J<|Zp J<|Zc<|Za<|Zb<|Ze<|mv J<|dt (Yf J J (i:=1) J Zi Xx)<|dt (Pj J J J)<|mv J<|Pf (d:=22) J (fun s24=>?_) (fun s24=>?_)
 ·exact Xt J J J<|Xt J J J<|Xt J J J<|Xt J J J<|Xt J J J<|Xt J J J<|Xt J J J<|Xt J J J<|Xt J J J<|Xt J J J<|Xt J J J<|Xt J J J<|Xt J J J<|Xt J J J<|dt (Yy J J J)<|Zp J<|Zc<|Za<|Zq<|xU hsc results50 J J (by first | exact sgf_t (by omega) | exact sgf_i (by omega) (q4 (by omega)))
 ·exact Xh (Yd J J) J J<|Xh (Ys J J J) J J<|Xh (Yd J J) J J<|Xh (Ys J J J) J J<|Xh (Db J J J (by rw [q3];exact⟨by omega,by omega⟩)) J J<|Xh (Yd J J) J J<|Xh (Yd J J) J J<|Xh (Ys J J J) J J<|Xh (Yd J J) J J<|Xh (Db J J J) J J<|Xh (Ys J J J) J J<|Xh (Ys J J J) J J<|Xh (Db J J J (by rw [q4 (by omega)];exact⟨by omega,by omega⟩)) J J<|Xh (Dc J J J) J J<|dt (Yh J J J)<|Zp J<|Zc<|Za<|Zq<|xU hsc results50 J J (by first | exact sgf_t (by omega) | exact sgf_i (by omega) (q4 (by omega)))
theorem Zj1(v:Value)(xs:List Int)(hv:Vp xs):On prog 14 #[v] [Px 2 wv v xs] (.bool (decide (Zct xs 0))):=by
 refine Yi func14 J ntmps14 J K1 fun w0 sc hw hsc=>?_
 simp only [Zu,Zt]
 exact Zb<|Ze<|Zp J<|Zc<|Za<|Zb<|Ze<|mv J<|tt (Zh (n:=1) (Qx _ _ ‹_›) J J J K1 Bq (Zd 1 J J J Zg) J hw) fun _ _=>mv J<|Xh (Yd J J) J J<|Lz (Zh (n:=1) (Znt _ 0 xs hv) J J J K2 call50 (Zd 1 J J J Zg) J hw) J J J fun _ _=>dt (Yy J J J)<|Zp J<|Zc<|Za<|Zq<|xU hsc results14 J J J
theorem Ks(x y:Int)(hx:bl x.natAbs≤65536:=by omega)(hy:bl y.natAbs≤65536:=by omega):On prog 95 #[rX x y] [] (.bool (efit (x,y))):=by
 refine Yi func95 J ntmps95 J trivial fun w0 sc hw hsc=>?_
 simp only [Zu,Zt]
 refine Zb<|Ze<|tt (Yw (i:=1) J J J J J hw) fun bx _=>Zp J<|Zc<|Za<|Zb<|Qs (fun _=>False) [(0,0),(1,0),(3,0),(4,0),(2,1),(5,1),(6,0),(7,0),(8,3)] ?_ ?_
 ·kernel_rfl
 exact Zs J J (Yt (Yv J J Gb J Ye J J))<|Zs J J (Yt (Yb (i:=1) J J J Xs Ye J J))<|Zs J J (Yt (Yv J J Gb J Ye J J))<|Zs J J (Yt (Yb (i:=1) J J J Xs Ye J J))<|Xb J (Zh (n:=1) (Zjl _ hx) J J J K1 call145 Zg J hw) fun _ _=>Xb J (Zh (n:=1) (Zjl _ hy) J J J K1 call145 Zg J hw) fun _ _=>Zs J J (Yt (Zsa J J J))<|Zs J J (Yt (Dc J J J))<|Po J (Od (Mb J J) J) fun _ _=>Ob<|Za<|Zq<|xU hsc results95 J J (by unfold efit;exact vB (decide_eq_decide.2 (by dsimp only;omega)))
theorem Ft(x y x2 y2:Int)(hp:0<y)(hp2:0<y2)(hx:bl x.natAbs≤65536:=by omega)(hy:bl y.natAbs≤65536:=by omega)(hx2:bl x2.natAbs≤65536:=by omega)(hy2:bl y2.natAbs≤65536:=by omega):On prog 96 #[rX x y,rX x2 y2] [] (.int .i64 (Ba (x,y) (x2,y2))):=by
 refine Yi func96 J ntmps96 J trivial fun w0 sc hw hsc=>?_
 simp only [Zu,Zt]
 exact Zb<|Ze<|tt (Yw (i:=1) J J J J J hw) fun bx _=>tt (Yw (i:=2) J J J J J hw) fun bx_2 _=>Zp J<|Zc<|Za<|Zb<|Ze<|dt (Ym (i:=1) J J J Xq Yr J J J J)<|dt (Ym (i:=2) J J J Xq Yr J J J J)<|tt (Zh (n:=2) (Zfq _ _ _ _ hx hy hx2 hy2 hp hp2) J J J K2 call146 Zg J hw) fun _ _=>mv J<|dt (Zz J J J)<|dt (Zz J J J)<|Zp J<|Zp J<|Zc<|Za<|Zb<|Ze<|mv J<|Zp J<|Zc<|Za<|Zq<|xU hsc results96 J J J
theorem Zuy(bs:Nat)(v:Value)(xs:List Int)(x y:Int)(hx:bl x.natAbs≤65536)(hy:bl y.natAbs≤65536)(hp:0<y)(hv:Vp xs)(hE:¬Iw xs x y):On prog 120 #[.pointer (some ⟨bs,0,none⟩),v,rX x y] [Za0 bs 102 #[.int .i64 0],Px 2 wv v xs] (.int .i64 (fat x y xs)):=by
 refine Yi func120 J ntmps120 J K2 fun w0 sc hw hsc=>?_
 simp only [Zu,Zt]
 exact Zb<|Ze<|tt (Yw (i:=3) J J J J J hw) fun bx _=>Zp J<|Zc<|Za<|Zb<|Ze<|mv J<|dt (Ym (i:=3) J J J Xq Yr J J J J)<|tt (Zh (n:=3) (Zq1 _ _ _ _ hv hx hy hp) J J J K2 call164 (Zd 2 J J J Zg) J hw) fun _ _=>mv J<|dt (Zz J J J)<|dt (Eb (r':= .int .i64 0) (Zz J J J) (congrArg (Value.int .i64) (if_neg hE)))<|Zp J<|Zp J<|Zc<|Za<|Zb<|Zb<|Ze<|mv J<|dt (Zar J J)<|dt (Yv J J Ib J Ih J J)<|dt (Zpd (i:=1) J J J Eo J)<|dt (dT (Pj J J J) (vB (by decide)))<|Zc<|Za<|Pv J<|Ze<|mv J<|mv J<|dt (Zar J J)<|dt (Yv J J Ib J Ih J J)<|tt (Zme (i:=1) J J J J J J Ih J J (by simp [Value.oneCell']) J) fun _ _=>Zc<|Za<|Zb<|Ze<|mv J<|Zp J<|Zc<|Za<|Zq<|xU hsc results120 J J (by unfold fat;rw [show evv xs x y=pev xs x y from if_neg hE]<;>rfl)
theorem Zcu(v1 v2:Value)(bs:Nat)(ls cs:List (SL×List Int))(x y:Int)(hp:0<y)(hlsv:∀z∈ls,Vp z.2)(hlsE:∀z∈ls,¬Iw z.2 x y)(hx:bl x.natAbs≤65536:=by omega)(hy:bl y.natAbs≤65536:=by omega):On prog 62 #[.agg #[v1,v2],.pointer (some ⟨bs,0,none⟩),rX x y] [Ec 1 Gu qZ v1 ls,Ec 1 Gu qZ v2 cs,Za0 bs 102 #[.int .i64 0]] (.int .i64 (vlu (ls.map Prod.snd) (x,y))):=by
 refine Yi func62 J ntmps62 J K3 fun w0 sc hw hsc=>?_
 simp only [Zu,Zt]
 refine Nl (Kk (i:=1) J Yg) fun hlen=>Zb<|Ze<|tt (Yw (i:=4) J J J J J hw) fun bx _=>tt (Yw (i:=5) J J J J J hw) fun bx_2 _=>Zp J<|Zc<|Za<|Zb<|Zb<|Ze<|dt (Yv J J Znk J Zjh J J)<|dt (Qw (i:=4) J J J isAgg96 J)<|dt (Yf J J (i:=1) J Yg Ze4)<|dt (Pj J J J)<|Zc<|Za<|Zr J (fun h160=>?_) (fun h160=>?_)
 ·exact Zb<|Ze<|Zp J<|Zc<|Za<|Zq<|Yn<|xU hsc results62 J J (by unfold vlu;rw [List.length_map,if_pos (by omega)]<;>rfl)
 ·refine Zk<|Za<|Zb<|Qs (fun _=>False) [(0,0),(1,0),(2,0),(3,0),(4,0),(5,0),(6,1),(7,3)] ?_ ?_
  ·kernel_rfl
  exact Zs J J (Yt (Yd J J))<|Zs J J (Yt (Yv J J Znk J Zjh J J))<|Zs J J (Yt (Qw (i:=4) J J J isAgg96 J))<|Zs J J (Yt (Xc (ii:=1) (i:=0) J J J J Yg Ze4 sizeOf23 J))<|Zs J J (Yt (Xr (ii:=1) Z0 J J J Yg pS))<|Zs J J (Yt (Ym (i:=5) J J J Xq Yr J J J J))<|Xb J (Zh (n:=5) (Zuy _ (svv (ls.getD 0 Z0).1) (ls.getD 0 Z0).2 _ _ hx hy hp (hlsv (ls.getD 0 Z0) (Xj)) (hlsE (ls.getD 0 Z0) (Xj))) J J J K3 call120 (Zd 3 J J J (Yan 1 J J (Xj (i:=0) (zs:=ls) (d:=Z0)) Zg)) J hw) fun _ _=>Po J (Od (Mb J J) J) fun _ _=>Ob<|Za<|Zq<|xU hsc results62 J J (by unfold vlu;rw [List.length_map,if_neg (by omega),Zhl _ (by omega)]<;>rfl)
theorem Zqh(v1 v2:Value)(bs:Nat)(ls cs:List (SL×List Int))(x y:Int)(hx:bl x.natAbs≤65536)(hy:bl y.natAbs≤65536)(hp:0<y)(hlsv:∀z∈ls,Vp z.2)(hlsE:∀z∈ls,¬Iw z.2 x y):On prog 99 #[.agg #[v1,v2],.pointer (some ⟨bs,0,none⟩),rX x y] [Ec 1 Gu qZ v1 ls,Ec 1 Gu qZ v2 cs,Za0 bs 102 #[.int .i64 0]] (.int .i64 (aft (ls.map Prod.snd) (x,y))):=by
 refine Yi func99 J ntmps99 J K3 fun w0 sc hw hsc=>?_
 simp only [Zu,Zt]
 refine Nl (Kk (i:=1) J Yg) (fun hlen=>?_)
 have hLl:=Zks ls (fat x y)
 have hLg:=fun i (h:i<ls.length)=>Zqe ls (fat x y) h
 refine Zb<|Ze<|tt (Yw (i:=4) J J J J J hw) fun bx _=>tt (Yw (i:=5) J J J J J hw) fun bx_2 _=>Zp J<|Zc<|Za<|Zb<|Zb<|Ze<|dt (Yv J J Znk J Zjh J J)<|dt (Qw (i:=4) J J J isAgg96 J)<|dt (Yf J J (i:=1) J Yg Ze4)<|mv J<|Zc<|Za<|Zo<|Oc [(1,_),(5,_),(11,_),(12,_)] [(0,_),(1,_),(2,_),(3,_),(4,_),(5,_)] (fun(i:Nat)=>[(13,.int .i64 (i:Int))]) (fun(i:Nat)=>[]) (fun(i:Nat)=>(i≤ls.length)∧(∀k,k<i→(sgx ls (fat x y)).getD k 0=0)) (fun(i:Nat)=>ls.length-i) 0 ⟨by first | omega | (dsimp only<;>omega),fun k hk=>absurd hk (Nat.not_lt_zero k)⟩ K5 K6 ?_
 rintro i ⟨hi,hz⟩
 simp only [CA,NA]
 refine Zb<|Ze<|dt (Xv J J J)<|Zc<|Za<|Zb<|Zr J (fun h168=>?_) (fun h168=>?_)
 ·refine Zk<|Za<|Zb<|Zo<|Zb<|Ze<|dt (Xc (ii:=1) J J J J Yg Ze4 sizeOf23 J (by first | omega | (simp only [List.length_set];omega)))<|dt (Xr (ii:=1) Z0 J J J Yg pS (by first | omega | (simp only [List.length_set];omega)))<|Zp J<|Zc<|Za<|Zb<|Yo (Zhm 1 91 (ls.getD i Z0) J J (Xj) J)<|Ze<|mv J<|mv J<|dt (Ym (i:=5) J J J Xq Yr J J J J)<|tt (Zh (n:=5) (Zuy _ (svv (ls.getD i Z0).1) (ls.getD i Z0).2 _ _ hx hy hp (hlsv (ls.getD i Z0) (Xj)) (hlsE (ls.getD i Z0) (Xj))) J J J K3 call120 (Zd 3 J J J (Zd 91 J J J Zg)) J hw) fun _ _=>Zp J<|Zc<|Za<|Zb<|Ze<|mv J<|dt (Xz J J J)<|Zc<|Za<|Zr J (fun h169=>?_) (fun h169=>?_)
  ·exact Zb<|Ze<|mv J<|Zp J<|Zc<|Za<|Zq<|Nq<|Yn<|Yn<|Nq<|Yn<|xU hsc results99 J J (by rw [Zw7,Zru ‹_› (by omega) hz (hLg i (by omega))]<;>rfl)
  ·exact Zk<|Qn<|Za<|Ze<|dt (Ys J J J)<|mv J<|Zc<|Xk (i+1) ⟨by first | omega | (dsimp only<;>omega),fun k hk2=>by rcases Nat.lt_succ_iff_lt_or_eq.1 hk2 with h9 | h9;exact hz k h9;subst h9;rw [hLg _ (by omega)];exact Decidable.byContradiction ‹_›⟩ (by first | omega | (dsimp only<;>omega)) K5 K6
 ·exact Yx<|Zx<|Zx<|Pd<|Za<|Zb<|Ze<|Zp J<|Zc<|Za<|Zq<|xU hsc results99 J J (by rw [Zw7,Zm3 (fun k hk=>hz k (by omega))]<;>rfl)
theorem Zj3(v1 v2:Value)(bs:Nat)(ls cs:List (SL×List Int))(x y:Int)(hx:bl x.natAbs≤65536)(hy:bl y.natAbs≤65536)(hp:0<y)(hcsv:∀z∈cs,Vp z.2)(hcsE:∀z∈cs,¬Iw z.2 x y):On prog 148 #[.agg #[v1,v2],.pointer (some ⟨bs,0,none⟩),rX x y] [Ec 1 Gu qZ v1 ls,Ec 1 Gu qZ v2 cs,Za0 bs 102 #[.int .i64 0]] (.int .i64 (chv (cs.map Prod.snd) (x,y))):=by
 refine Yi func148 J ntmps148 J K3 fun w0 sc hw hsc=>?_
 simp only [Zu,Zt]
 refine Nl (Kk (i:=2) J Yg) (fun hlen=>?_)
 have hLl:=Zks cs (fat x y)
 have hLg:=fun i (h:i<cs.length)=>Zqe cs (fat x y) h
 refine Zb<|Ze<|tt (Yw (i:=4) J J J J J hw) fun bx _=>tt (Yw (i:=5) J J J J J hw) fun bx_2 _=>Zp J<|Zc<|Za<|Zb<|Ze<|Zp J<|Zp J<|Zc<|Za<|Zb<|Zb<|Ze<|dt (Yv J J Znk J Zjh J J)<|dt (Qw (i:=4) J J J isAgg96 J)<|dt (Yf J J (i:=2) J Yg Ze4)<|mv J<|Zc<|Za<|Zo<|Oc [(1,_),(5,_),(13,_),(14,_)] [(0,_),(1,_),(2,_),(3,_),(4,_),(5,_)] (fun(q:Nat×Int×Int)=>[(15,.int .i64 (q.1:Int)),(7,.int .i64 q.2.1),(8,.int .i64 q.2.2)]) (fun(q:Nat×Int×Int)=>[]) (fun(q:Nat×Int×Int)=>(q.1≤cs.length)∧((q.2.1,q.2.2)=((sgx cs (fat x y)).take q.1).foldl Mu (0,0))∧(0≤q.2.1)∧(q.2.1≤(q.1:Int))∧(-1≤q.2.2∧q.2.2≤1)) (fun(q:Nat×Int×Int)=>cs.length-q.1) (0,0,0) ⟨by first | omega | (dsimp only<;>omega),by simp,by first | omega | (dsimp only<;>omega),by first | omega | (dsimp only<;>omega),by first | omega | (dsimp only<;>omega)⟩ K7 K6 ?_
 rintro⟨i,n,l⟩ ⟨hi,hc,hn0,hn1,hl⟩
 dsimp only at hi hc hn0 hn1 hl
 simp only [CA,NA]
 have hfr:=fat_r x y (cs.getD i Z0).2
 refine Zb<|Ze<|dt (Xv J J J)<|Zc<|Za<|Zb<|Zr J (fun h179=>?_) (fun h179=>?_)
 ·refine Zk<|Za<|Zb<|Zo<|Zb<|Ze<|dt (Xc (ii:=2) J J J J Yg Ze4 sizeOf23 J (by first | omega | (simp only [List.length_set];omega)))<|dt (Xr (ii:=2) Z0 J J J Yg pS (by first | omega | (simp only [List.length_set];omega)))<|Zp J<|Zc<|Za<|Zb<|Yo (Zhm 2 91 (cs.getD i Z0) J J (Xj) J)<|Ze<|mv J<|mv J<|dt (Ym (i:=5) J J J Xq Yr J J J J)<|tt (Zh (n:=5) (Zuy _ (svv (cs.getD i Z0).1) (cs.getD i Z0).2 _ _ hx hy hp (hcsv (cs.getD i Z0) (Xj)) (hcsE (cs.getD i Z0) (Xj))) J J J K3 call120 (Zd 3 J J J (Zd 91 J J J Zg)) J hw) fun _ _=>Zp J<|Zc<|Za<|Zb<|Zb<|Ze<|mv J<|mv J<|dt (Db J J J (sgm_i hfr hl))<|dt (Xv J J J)<|Zc<|Za<|Zr J (fun h181=>?_) (fun h181=>?_)
  ·refine Ze<|mv J<|dt (Ys J J J)<|Zp J<|Zc<|Za<|Zb<|Ze<|mv J<|dt (Xz J J J)<|Zc<|Za<|Zr J (fun h184=>?_) (fun h184=>?_)
   ·exact Ze<|mv J<|Zp J<|Zc<|Qn<|Za<|Ze<|dt (Ys J J J)<|mv J<|Zc<|Xk (i+1,_,_) ⟨by first | omega | (dsimp only<;>omega),by first | exact Zwx (by omega) hc (hLg i (by omega)) (Decidable.byContradiction ‹_›) | exact Zww (by omega) hc (hLg i (by omega)) ‹_› (Zuv hfr (by omega) ‹_›) | exact Zwv (by omega) hc (hLg i (by omega)) ‹_› (Zuu hfr (by omega) ‹_› ‹_›) | exact absurd ‹_› (Zuw (Decidable.byContradiction ‹_›)),by first | exact hn0 | (dsimp only;omega),by dsimp only;omega,by first | exact hl | exact hfr⟩ (by first | omega | (dsimp only<;>omega)) K7 K6
   ·exact Zk<|Qn<|Za<|Ze<|dt (Ys J J J)<|mv J<|Zc<|Xk (i+1,_,_) ⟨by first | omega | (dsimp only<;>omega),by first | exact Zwx (by omega) hc (hLg i (by omega)) (Decidable.byContradiction ‹_›) | exact Zww (by omega) hc (hLg i (by omega)) ‹_› (Zuv hfr (by omega) ‹_›) | exact Zwv (by omega) hc (hLg i (by omega)) ‹_› (Zuu hfr (by omega) ‹_› ‹_›) | exact absurd ‹_› (Zuw (Decidable.byContradiction ‹_›)),by first | exact hn0 | (dsimp only;omega),by dsimp only;omega,by first | exact hl | exact hfr⟩ (by first | omega | (dsimp only<;>omega)) K7 K6
  ·refine Zk<|Za<|Zb<|Ze<|mv J<|dt (Xz J J J)<|Zc<|Za<|Zr J (fun h184_2=>?_) (fun h184_2=>?_)
   ·exact Ze<|mv J<|Zp J<|Zc<|Qn<|Za<|Ze<|dt (Ys J J J)<|mv J<|Zc<|Xk (i+1,_,_) ⟨by first | omega | (dsimp only<;>omega),by first | exact Zwx (by omega) hc (hLg i (by omega)) (Decidable.byContradiction ‹_›) | exact Zww (by omega) hc (hLg i (by omega)) ‹_› (Zuv hfr (by omega) ‹_›) | exact Zwv (by omega) hc (hLg i (by omega)) ‹_› (Zuu hfr (by omega) ‹_› ‹_›) | exact absurd ‹_› (Zuw (Decidable.byContradiction ‹_›)),by first | exact hn0 | (dsimp only;omega),by dsimp only;omega,by first | exact hl | exact hfr⟩ (by first | omega | (dsimp only<;>omega)) K7 K6
   ·exact Zk<|Qn<|Za<|Ze<|dt (Ys J J J)<|mv J<|Zc<|Xk (i+1,_,_) ⟨by first | omega | (dsimp only<;>omega),by first | exact Zwx (by omega) hc (hLg i (by omega)) (Decidable.byContradiction ‹_›) | exact Zww (by omega) hc (hLg i (by omega)) ‹_› (Zuv hfr (by omega) ‹_›) | exact Zwv (by omega) hc (hLg i (by omega)) ‹_› (Zuu hfr (by omega) ‹_› ‹_›) | exact absurd ‹_› (Zuw (Decidable.byContradiction ‹_›)),by first | exact hn0 | (dsimp only;omega),by dsimp only;omega,by first | exact hl | exact hfr⟩ (by first | omega | (dsimp only<;>omega)) K7 K6
 ·exact Yx<|Zx<|Zx<|Pd<|Za<|Zb<|Ze<|mv J<|Zp J<|Zc<|Za<|Zq<|xU hsc results148 J J (by rw [Yfw,Yf0 (by omega) hc]<;>rfl)
theorem Zj2(v1 v2:Value)(bs:Nat)(ls cs:List (SL×List Int))(x y x2 y2:Int)(hx:bl x.natAbs≤65536)(hy:bl y.natAbs≤65536)(hx2:bl x2.natAbs≤65536)(hy2:bl y2.natAbs≤65536)(hp:0<y)(hp2:0<y2)(hcsv:∀z∈cs,Vp z.2)(hcsE:∀z∈cs,¬Iw z.2 x y)(hcsF:∀z∈cs,¬Iw z.2 x2 y2)(hlc:cs.length≤1000):On prog 100 #[.agg #[v1,v2],.pointer (some ⟨bs,0,none⟩),rX x y,rX x2 y2] [Ec 1 Gu qZ v1 ls,Ec 1 Gu qZ v2 cs,Za0 bs 102 #[.int .i64 0]] (.bool (crb (cs.map Prod.snd) (x,y) (x2,y2))):=by
 refine Yi func100 J ntmps100 J K3 fun w0 sc hw hsc=>?_
 simp only [Zu,Zt]
 refine Nl (Kk (i:=2) J Yg) (fun hlen=>?_)
 have hr1:=Zwu (cs.map Prod.snd) (x,y)
 have hr2:=Zwu (cs.map Prod.snd) (x2,y2)
 rw [List.length_map]at hr1 hr2
 refine Zb<|Ze<|tt (Yw (i:=4) J J J J J hw) fun bx _=>tt (Yw (i:=5) J J J J J hw) fun bx_2 _=>tt (Yw (i:=6) J J J J J hw) fun bx_3 _=>Zp J<|Zc<|Za<|Zb<|Zb<|Ze<|dt (Yv J J Znk J Zjh J J)<|dt (Qw (i:=4) J J J isAgg96 J)<|dt (Yf J J (i:=2) J Yg Ze4)<|dt (Pj J J J)<|Zc<|Za<|Zr J (fun h193=>?_) (fun h193=>?_)
 ·exact Zb<|Ze<|Zp J<|Zc<|Za<|Zq<|Yn<|xU hsc results100 J J (by unfold crb;rw [List.length_map,if_pos (by omega)]<;>rfl)
 ·refine Zk<|Za<|Zb<|Qs (fun _=>False) [(0,0),(1,0),(2,0),(4,0),(5,0),(6,0),(3,1),(7,1),(8,0),(9,3)] ?_ ?_
  ·kernel_rfl
  refine Zs J J (Yt (Yb (i:=4) J J J Cy Gr J J))<|Zs J J (Yt (Yd J J))<|Zs J J (Yt (Ym (i:=5) J J J Xq Yr J J J J))<|Zs J J (Yt (Yb (i:=4) J J J Cy Gr J J))<|Zs J J (Yt (Yd J J))<|Zs J J (Yt (Ym (i:=6) J J J Xq Yr J J J J))<|Xb J (Zh (n:=6) (Zj3 _ _ _ _ _ _ _ hx hy hp hcsv hcsE) J J J K3 call148 (Zd 1 J J J (Zd 2 J J J (Zd 3 J J J Zg))) J hw) fun _ _=>Xb J (Zh (n:=6) (Zj3 _ _ _ _ _ _ _ hx2 hy2 hp2 hcsv hcsF) J J J K3 call148 (Zd 1 J J J (Zd 2 J J J (Zd 3 J J J Zg))) J hw) fun _ _=>Zs J J (Yt (Qd J J J))<|Po J (Od (Mb J J) J) fun _ _=>Ob<|Za<|Zb<|Zb<|Qs (fun _=>False) [(0,0),(1,0),(2,0),(3,0),(4,0),(5,0),(6,1),(7,0)] ?_ ?_
  ·kernel_rfl
  refine Zs J J (Yt (Yd J J))<|Zs J J (Yt (Yv J J Znk J Zjh J J))<|Zs J J (Yt (Qw (i:=4) J J J isAgg96 J))<|Zs J J (Yt (Xc (ii:=2) (i:=0) J J J J Yg Ze4 sizeOf23 J))<|Zs J J (Yt (Xr (ii:=2) Z0 J J J Yg pS))<|Zs J J (Yt (Ym (i:=6) J J J Xq Yr J J J J))<|Xb J (Zh (n:=6) (Zuy _ (svv (cs.getD 0 Z0).1) (cs.getD 0 Z0).2 _ _ hx2 hy2 hp2 (hcsv (cs.getD 0 Z0) (Xj)) (hcsF (cs.getD 0 Z0) (Xj))) J J J K3 call120 (Zd 3 J J J (Yan 2 J J (Xj (i:=0) (zs:=cs) (d:=Z0)) Zg)) J hw) fun _ _=>Zs J J (Yt (Pj J J J))<|Ob<|Za<|Zr J (fun h197=>?_) (fun h197=>?_)
  ·exact Ze<|mv J<|dt (Qd J J J)<|Zp J<|Zc<|Za<|Zb<|Ze<|mv J<|dt (Pw J J J)<|Zp J<|Zc<|Za<|Zq<|xU hsc results100 J J (by first | exact crb_t (by omega) ‹_› | exact crb_f (by omega) ‹_›)
  ·exact Zk<|Za<|Zb<|Ze<|mv J<|dt (Pw J J J)<|Zp J<|Zc<|Za<|Zq<|xU hsc results100 J J (by first | exact crb_t (by omega) ‹_› | exact crb_f (by omega) ‹_›)
theorem Hl(v1 v2:Value)(bs:Nat)(ls cs:List (SL×List Int))(x y x2 y2:Int)(hp:0<y)(hp2:0<y2)(hlsv:∀z∈ls,Vp z.2)(hlsE:∀z∈ls,¬Iw z.2 x y)(hcsv:∀z∈cs,Vp z.2)(hcsE:∀z∈cs,¬Iw z.2 x y)(hcsF:∀z∈cs,¬Iw z.2 x2 y2)(hlc:cs.length≤1000)(hx:bl x.natAbs≤65536:=by omega)(hy:bl y.natAbs≤65536:=by omega)(hx2:bl x2.natAbs≤65536:=by omega)(hy2:bl y2.natAbs≤65536:=by omega):On prog 61 #[.agg #[v1,v2],.pointer (some ⟨bs,0,none⟩),rX x y,rX x2 y2] [Ec 1 Gu qZ v1 ls,Ec 1 Gu qZ v2 cs,Za0 bs 102 #[.int .i64 0]] (.bool (ngb (ls.map Prod.snd) (cs.map Prod.snd) (x,y) (x2,y2))):=by
 refine Yi func61 J ntmps61 J K3 fun w0 sc hw hsc=>?_
 simp only [Zu,Zt]
 refine Zb<|Ze<|tt (Yw (i:=4) J J J J J hw) fun bx _=>tt (Yw (i:=5) J J J J J hw) fun bx_2 _=>tt (Yw (i:=6) J J J J J hw) fun bx_3 _=>Zp J<|Zc<|Za<|Zb<|Zb<|Ze<|dt (Ym (i:=5) J J J Xq Yr J J J J)<|dt (Ym (i:=6) J J J Xq Yr J J J J)<|tt (Zh (n:=6) (Ft _ _ _ _ hp hp2 hx hy hx2 hy2) J J J K2 call96 Zg J hw) fun _ _=>dt (Pj J J J)<|Zc<|Za<|Zr J (fun h205=>?_) (fun h205=>?_)
 ·exact Zb<|Ze<|dt (Yb (i:=4) J J J Cy Gr J J)<|mv J<|dt (Ym (i:=5) J J J Xq Yr J J J J)<|tt (Zh (n:=6) (Zcu _ _ _ _ _ _ _ hp hlsv hlsE hx hy) J J J K3 call62 (Zd 1 J J J (Zd 2 J J J (Zd 3 J J J Zg))) J hw) fun _ _=>dt (Xv J J J)<|Zp J<|Zc<|Za<|Zq<|Yn<|xU hsc results61 J J (by unfold ngb;rw [if_pos ‹_›])
 ·refine Zk<|Za<|Zb<|Ze<|dt (Yb (i:=4) J J J Cy Gr J J)<|mv J<|dt (Ym (i:=5) J J J Xq Yr J J J J)<|tt (Zh (n:=6) (Zqh _ _ _ _ _ _ _ hx hy hp hlsv hlsE) J J J K3 call99 (Zd 1 J J J (Zd 2 J J J (Zd 3 J J J Zg))) J hw) fun _ _=>dt (Xv J J J)<|mv J<|Pf (d:=23) J (fun s208=>?_) (fun s208=>?_)
  ·exact Xt J J J<|Xt J J J<|Xt J J J<|Xt J J J<|Xt J J J<|dt (Yy J J J)<|Zp J<|Zc<|Za<|Zq<|xU hsc results61 J J (by first | exact ngb_t ‹_› ‹_› | exact ngb_f ‹_› ‹_›)
  ·exact Xh (Yb (i:=4) J J J Cy Gr J J) J J<|Xh (Yd J J) J J<|Xh (Ym (i:=5) J J J Xq Yr J J J J) J J<|Xh (Ym (i:=6) J J J Xq Yr J J J J) J J<|Lz (Zh (n:=6) (Zj2 _ _ _ _ _ _ _ _ _ hx hy hx2 hy2 hp hp2 hcsv hcsE hcsF hlc) J J J K4 call100 (Zd 1 J J J (Zd 2 J J J (Zd 3 J J J Zg))) J hw) J J J fun _ _=>dt (Yh J J J)<|Zp J<|Zc<|Za<|Zq<|xU hsc results61 J J (by first | exact ngb_t ‹_› ‹_› | exact ngb_f ‹_› ‹_›)
theorem Zmk(bs:Nat)(x y x2 y2:Int)(hp:0<y)(hp2:0<y2)(hm:Zeu (x,y) (x2,y2))(hx:bl x.natAbs≤65536:=by omega)(hy:bl y.natAbs≤65536:=by omega)(hx2:bl x2.natAbs≤65536:=by omega)(hy2:bl y2.natAbs≤65536:=by omega):On prog 94 #[.pointer (some ⟨bs,0,none⟩),rX x y,rX x2 y2] [Za0 bs 102 #[.int .i64 0]] (.agg #[.bool (decide ((Nd (x,y) (x2,y2)).1<0)),.string (Xp (Nd (x,y) (x2,y2)).1.natAbs),.bool (decide ((Nd (x,y) (x2,y2)).2<0)),.string (Xp (Nd (x,y) (x2,y2)).2.natAbs)]):=by
 refine Yi func94 J ntmps94 J K1 fun w0 sc hw hsc=>?_
 simp only [Zu,Zt]
 have hq:¬He (x*y2+x2*y) (y*y2):=hm.1
 obtain⟨hn1,hn2,hn3⟩:=Zfe hq
 obtain⟨hb1,hb2⟩:=nr_bl hq
 have hdp:=Ztk hq (Int.mul_pos hp hp2)
 have hm2:=Zx8 hm
 refine Zb<|Ze<|tt (Yw (i:=2) J J J J J hw) fun bx _=>tt (Yw (i:=3) J J J J J hw) fun bx_2 _=>tt (Zy (i:=4) J J zeroValue41 J J hw) fun bx_3 _=>Zc<|Za<|Zb<|Ze<|dt (Ym (i:=2) J J J Xq Yr J J J J)<|dt (Ym (i:=3) J J J Xq Yr J J J J)<|tt (Zh (n:=4) (Zlm _ _ _ _ hx hy hx2 hy2 hp hp2) J J J K2 call143 Zg J hw) fun _ _=>mv J<|dt (Zz J J J)<|dt (Eb (r':= .int .i64 0) (Zz J J J) (congrArg (Value.int .i64) hn3))<|tt (Zy (i:=5) J J zeroValue41 J J hw) fun bx_4 _=>tt (Zl (i:=5) J J J J J J Yr J J ⟨Zf J,Zf J,Zf J,Zf J,trivial⟩ J hw trivial) fun _ _=>Zp J<|Zc<|Za<|Zb<|Zb<|Ze<|mv J<|dt (Zar J J)<|dt (Yv J J Ib J Ih J J)<|dt (Zpd (i:=1) J J J Eo J)<|dt (dT (Pj J J J) (vB (by decide)))<|Zc<|Za<|Pv J<|Ze<|mv J<|mv J<|dt (Zar J J)<|dt (Yv J J Ib J Ih J J)<|tt (Zme (i:=1) J J J J J J Ih J J (by simp [Value.oneCell']) J) fun _ _=>Zc<|Za<|Zb<|Nm [5] [10]<|Ya (n:=10) [(0,0)]<|Zs J J (Xm (Ym (i:=5) J J J Xq Yr J J J J) K1)<|Yl<|Pb (n:=9) 1 8 ?_ ?_
 ·refine Yj J (Zh (n:=5) (Qg _ ⟨by decide,by decide⟩) J J J K1 Gy Zg J hw) fun _ _=>Pb (n:=8) 2 8 ?_ ?_
  ·refine Yj J (Zh (n:=5) (Qg _ ⟨by decide,by decide⟩) J J J K1 Gy Zg J hw) fun _ _=>Ya (n:=7) [(3,0)]<|Zs J J (Xm (Oq (ivs:=[(0,_),(1,_)]) J K4 (fun a w hs=>Zfn)) K1)<|Yl<|Pb (n:=6) 4 8 ?_ ?_
   ·exact Yj J (Zh (n:=5) (Cc _ _ 1 2 hb1 hb2 (by decide +kernel) (by decide +kernel) hdp) J J J K2 call144 Zg J hw) fun _ _=>Ya (n:=0) [(5,0),(6,0),(7,0),(8,1),(9,1),(10,3)]<|Zs J J (Xm (Yd J J) K1)<|Zs J J (Xm (Zz J J J) K1)<|Zs J J (Xm (Eb (r':= .int .i64 0) (Zz J J J) (congrArg (Value.int .i64) hm2)) K1)<|Xb J (Zv (i:=6) J J zeroValue41 J J hw K1) fun bx_5 ho=>Xb J (Zl (i:=6) J J J J J J Yr J J ⟨Zf J,Zf J,Zf J,Zf J,trivial⟩ J hw ho) fun _ _=>Po J (Od (Mb J J) J) fun _ _=>Yl<|Yk<|Za<|Zb<|Zb<|Ze<|mv J<|dt (Zar J J)<|dt (Yv J J Ib J Ih J J)<|dt (Zpd (i:=1) J J J Eo J)<|dt (dT (Pj J J J) (vB (by decide)))<|Zc<|Za<|Pv J<|Ze<|mv J<|mv J<|dt (Zar J J)<|dt (Yv J J Ib J Ih J J)<|tt (Zme (i:=1) J J J J J J Ih J J (by simp [Value.oneCell']) J) fun _ _=>Zc<|Za<|Zb<|Ze<|dt (Ym (i:=6) J J J Xq Yr J J J J)<|tt (Zl (i:=4) J J J J J J Yr J J ⟨Zf J,Zf J,Zf J,Zf J,trivial⟩ J hw trivial) fun _ _=>Zc<|Za<|Zq<|Yu (.inl J) hsc () _ (fun a w hs=>Ni hs results94 (Xg (i:=4) J J Xq Yr J)) J trivial J Zm
   ·exact Yj J (Zv (i:=7) J J zeroValue41 J J hw K1) fun bx_6 ho2=>Ya (n:=0) [(4,1),(5,0),(6,0),(7,0),(9,1),(10,3)]<|Xb J (Zh (n:=7) (Cc _ _ 1 2 hb1 hb2 (by decide +kernel) (by decide +kernel) hdp) J J J K2 call144 Zg J hw) fun _ _=>Zs J J (Xm (Yd J J) K1)<|Zs J J (Xm (Zz J J J) K1)<|Zs J J (Xm (Eb (r':= .int .i64 0) (Zz J J J) (congrArg (Value.int .i64) hm2)) K1)<|Xb J (Zl (i:=7) J J J J J J Yr J J ⟨Zf J,Zf J,Zf J,Zf J,trivial⟩ J hw ho2) fun _ _=>Po J (Od (Mb J J) J) fun _ _=>Yl<|Yk<|Za<|Zb<|Zb<|Ze<|mv J<|dt (Zar J J)<|dt (Yv J J Ib J Ih J J)<|dt (Zpd (i:=1) J J J Eo J)<|dt (dT (Pj J J J) (vB (by decide)))<|Zc<|Za<|Pv J<|Ze<|mv J<|mv J<|dt (Zar J J)<|dt (Yv J J Ib J Ih J J)<|tt (Zme (i:=1) J J J J J J Ih J J (by simp [Value.oneCell']) J) fun _ _=>Zc<|Za<|Zb<|Ze<|dt (Ym (i:=7) J J J Xq Yr J J J J)<|tt (Zl (i:=4) J J J J J J Yr J J ⟨Zf J,Zf J,Zf J,Zf J,trivial⟩ J hw trivial) fun _ _=>Zc<|Za<|Zq<|Yu (.inl J) hsc () _ (fun a w hs=>Ni hs results94 (Xg (i:=4) J J Xq Yr J)) J trivial J Zm
  ·refine Yj J (Zv (i:=8) J J zeroValue41 J J hw K1) fun bx_7 ho3=>Ya (n:=0) [(2,1),(3,0),(4,1),(5,0),(6,0),(7,0),(9,1),(10,3)]<|Xb J (Zh (n:=8) (Qg _ ⟨by decide,by decide⟩) J J J K1 Gy Zg J hw) fun _ _=>Zs J J (Xm (Oq (ivs:=[(0,_),(1,_)]) J K4 (fun a w hs=>Zfn)) K1)<|Xb J (Zh (n:=8) (Cc _ _ 1 2 hb1 hb2 (by decide +kernel) (by decide +kernel) hdp) J J J K2 call144 Zg J hw) fun _ _=>Zs J J (Xm (Yd J J) K1)<|Zs J J (Xm (Zz J J J) K1)<|Zs J J (Xm (Eb (r':= .int .i64 0) (Zz J J J) (congrArg (Value.int .i64) hm2)) K1)<|Xb J (Zl (i:=8) J J J J J J Yr J J ⟨Zf J,Zf J,Zf J,Zf J,trivial⟩ J hw ho3) fun _ _=>Po J (Od (Mb J J) J) fun _ _=>Yl<|Yk<|Za<|Zb<|Zb<|Ze<|mv J<|dt (Zar J J)<|dt (Yv J J Ib J Ih J J)<|dt (Zpd (i:=1) J J J Eo J)<|dt (dT (Pj J J J) (vB (by decide)))<|Zc<|Za<|Pv J<|Ze<|mv J<|mv J<|dt (Zar J J)<|dt (Yv J J Ib J Ih J J)<|tt (Zme (i:=1) J J J J J J Ih J J (by simp [Value.oneCell']) J) fun _ _=>Zc<|Za<|Zb<|Ze<|dt (Ym (i:=8) J J J Xq Yr J J J J) ?_
   exact tt (Zl (i:=4) J J J J J J Yr J J ⟨Zf J,Zf J,Zf J,Zf J,trivial⟩ J hw trivial) fun _ _=>Zc<|Za<|Zq<|Yu (.inl J) hsc () _ (fun a w hs=>Ni hs results94 (Xg (i:=4) J J Xq Yr J)) J trivial J Zm
 ·refine Yj J (Zv (i:=9) J J zeroValue41 J J hw K1) fun bx_8 ho4=>Ya (n:=0) [(1,1),(2,1),(3,0),(4,1),(5,0),(6,0),(7,0),(9,1),(10,3)]<|Xb J (Zh (n:=9) (Qg _ ⟨by decide,by decide⟩) J J J K1 Gy Zg J hw) fun _ _=>Xb J (Zh (n:=9) (Qg _ ⟨by decide,by decide⟩) J J J K1 Gy Zg J hw) fun _ _=>Zs J J (Xm (Oq (ivs:=[(0,_),(1,_)]) J K4 (fun a w hs=>Zfn)) K1)<|Xb J (Zh (n:=9) (Cc _ _ 1 2 hb1 hb2 (by decide +kernel) (by decide +kernel) hdp) J J J K2 call144 Zg J hw) fun _ _=>Zs J J (Xm (Yd J J) K1)<|Zs J J (Xm (Zz J J J) K1)<|Zs J J (Xm (Eb (r':= .int .i64 0) (Zz J J J) (congrArg (Value.int .i64) hm2)) K1)<|Xb J (Zl (i:=9) J J J J J J Yr J J ⟨Zf J,Zf J,Zf J,Zf J,trivial⟩ J hw ho4) fun _ _=>Po J (Od (Mb J J) J) fun _ _=>Yl<|Yk<|Za<|Zb<|Zb<|Ze<|mv J<|dt (Zar J J)<|dt (Yv J J Ib J Ih J J)<|dt (Zpd (i:=1) J J J Eo J)<|dt (dT (Pj J J J) (vB (by decide)))<|Zc<|Za<|Pv J<|Ze<|mv J<|mv J<|dt (Zar J J)<|dt (Yv J J Ib J Ih J J)<|tt (Zme (i:=1) J J J J J J Ih J J (by simp [Value.oneCell']) J) fun _ _=>Zc ?_
  exact Za<|Zb<|Ze<|dt (Ym (i:=9) J J J Xq Yr J J J J)<|tt (Zl (i:=4) J J J J J J Yr J J ⟨Zf J,Zf J,Zf J,Zf J,trivial⟩ J hw trivial) fun _ _=>Zc<|Za<|Zq<|Yu (.inl J) hsc () _ (fun a w hs=>Ni hs results94 (Xg (i:=4) J J Xq Yr J)) J trivial J Zm
end Go.Sky

